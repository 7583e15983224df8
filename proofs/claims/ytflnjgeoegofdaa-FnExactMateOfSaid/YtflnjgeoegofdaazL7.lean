/- Arguments measured and copied. -/
import Derived.Test.YtflnjgeoegofdaaProg
import Derived.KernelRfl
import Derived.Test.YtflnjgeoegofdaazL4
import Derived.Test.YtflnjgeoegofdaazAvC
set_option linter.unusedSimpArgs false
set_option linter.unusedVariables false
set_option maxHeartbeats 4000000
set_option maxRecDepth 100000
namespace Go.Proofs.Ytflnjgeoegofdaa
open Go.Av
abbrev f_laws_szInt64SS : Nat := 4
def c_laws_szInt64SS : SC :=
 .seq (.reg [
     ⟨(some 4), .mv (.const (.int .i64 0)), none⟩] [0, 1])
 (.seq (.reg [
     ⟨(some 6), .mv (.tmp 1), none⟩,
     ⟨(some 7), .mv (.tmp 0), none⟩,
     ⟨(some 8), .len (.tmp 7), none⟩,
     ⟨(some 9), .bin .sub (.tmp 6) (.tmp 8), none⟩,
     ⟨(some 1), .mv (.tmp 9), none⟩] [0, 1])
 (.seq (.seq (.reg [
     ⟨(some 10), .mv (.tmp 1), none⟩,
     ⟨(some 11), .bin .lss (.tmp 10) (.const (.int .i64 0)), none⟩] [0, 1, 11])
 (.cond (.tmp 11)
  (.seq (.reg [
      ⟨(some 4), .mv (.const (.int .i64 (-1))), none⟩] [4])
  (.ret))
  (.skip)))
 (.seq (.seq (.reg [
     ⟨(some 5), .mv (.const (.int .i64 0)), none⟩] [0, 1, 5])
 (.block 0 (.loop [0, 1, 5]
   (.seq (.seq (.reg [
       ⟨(some 12), .mv (.tmp 5), none⟩,
       ⟨(some 13), .mv (.tmp 0), none⟩,
       ⟨(some 14), .len (.tmp 13), none⟩,
       ⟨(some 15), .bin .lss (.tmp 12) (.tmp 14), none⟩] [0, 1, 5, 15])
   (.cond (.tmp 15)
    (.skip)
    (.exit 0)))
   (.seq (.block 1 (.seq (.reg [
        ⟨(some 18), .mv (.tmp 0), none⟩,
        ⟨(some 19), .mv (.tmp 5), none⟩,
        ⟨(some 20), .iaddr 1 (.tmp 18) (.tmp 19), none⟩,
        ⟨(some 21), .load 1 false (.tmp 20), none⟩,
        ⟨(some 22), .mv (.tmp 1), none⟩,
        ⟨(some 23), .call 11 [(.tmp 21), (.tmp 22)], none⟩,
        ⟨(some 1), .mv (.tmp 23), none⟩] [0, 1, 5])
    (.seq (.reg [
        ⟨(some 24), .mv (.tmp 1), none⟩,
        ⟨(some 25), .bin .lss (.tmp 24) (.const (.int .i64 0)), none⟩] [0, 1, 5, 25])
    (.cond (.tmp 25)
     (.seq (.reg [
         ⟨(some 4), .mv (.const (.int .i64 (-1))), none⟩] [4])
     (.ret))
     (.skip)))))
   (.reg [
       ⟨(some 16), .mv (.tmp 5), none⟩,
       ⟨(some 17), .bin .add (.tmp 16) (.const (.int .i64 1)), none⟩,
       ⟨(some 5), .mv (.tmp 17), none⟩] [0, 1, 5]))))))
 (.seq (.reg [
     ⟨(some 26), .mv (.tmp 1), none⟩,
     ⟨(some 4), .mv (.tmp 26), none⟩] [4])
 (.ret)))))
theorem s_laws_szInt64SS : stripF Try.prog 4 [[0, 1], [0, 1], [0, 1, 11], [4], [0, 1, 5], [0, 1, 5], [0, 1, 5, 15], [0, 1, 5], [0, 1, 5, 25], [4], [0, 1, 5], [4]] = some (c_laws_szInt64SS, [.tmp 4], 27) := by kernel_rfl
abbrev f_laws_toInt64SS : Nat := 6
def c_laws_toInt64SS : SC :=
 .seq (.reg [
     ⟨(some 2), .mv (.const (.slice none 0 0)), none⟩] [0])
 (.seq (.reg [
     ⟨(some 5), .mv (.tmp 0), none⟩,
     ⟨(some 6), .len (.tmp 5), none⟩,
     ⟨(some 7), .mslice 30 24 (.slice none 0 0) (.tmp 6) (.tmp 6), none⟩,
     ⟨(some 3), .mv (.tmp 7), none⟩] [0, 3])
 (.seq (.seq (.reg [
     ⟨(some 4), .mv (.const (.int .i64 0)), none⟩] [0, 3, 4])
 (.block 0 (.loop [0, 3, 4]
   (.seq (.seq (.reg [
       ⟨(some 8), .mv (.tmp 4), none⟩,
       ⟨(some 9), .mv (.tmp 0), none⟩,
       ⟨(some 10), .len (.tmp 9), none⟩,
       ⟨(some 11), .bin .lss (.tmp 8) (.tmp 10), none⟩] [0, 3, 4, 11])
   (.cond (.tmp 11)
    (.skip)
    (.exit 0)))
   (.seq (.block 1 (.reg [
        ⟨(some 14), .mv (.tmp 3), none⟩,
        ⟨(some 15), .mv (.tmp 4), none⟩,
        ⟨(some 16), .mv (.tmp 0), none⟩,
        ⟨(some 17), .mv (.tmp 4), none⟩,
        ⟨(some 18), .iaddr 1 (.tmp 16) (.tmp 17), none⟩,
        ⟨(some 19), .load 1 false (.tmp 18), none⟩,
        ⟨(some 20), .call 16 [(.tmp 19)], none⟩,
        ⟨(some 21), .iaddr 1 (.tmp 14) (.tmp 15), none⟩,
        ⟨none, .store 1 (.tmp 21) (.tmp 20), none⟩] [0, 3, 4]))
   (.reg [
       ⟨(some 12), .mv (.tmp 4), none⟩,
       ⟨(some 13), .bin .add (.tmp 12) (.const (.int .i64 1)), none⟩,
       ⟨(some 4), .mv (.tmp 13), none⟩] [0, 3, 4]))))))
 (.seq (.reg [
     ⟨(some 22), .mv (.tmp 3), none⟩,
     ⟨(some 2), .mv (.tmp 22), none⟩] [2])
 (.ret))))
theorem s_laws_toInt64SS : stripF Try.prog 6 [[0], [0, 3], [0, 3, 4], [0, 3, 4], [0, 3, 4, 11], [0, 3, 4], [0, 3, 4], [2]] = some (c_laws_toInt64SS, [.tmp 2], 23) := by kernel_rfl
abbrev f_laws_szInt64S : Nat := 11
def c_laws_szInt64S : SC :=
 .seq (.reg [
     ⟨(some 4), .mv (.const (.int .i64 0)), none⟩] [0, 1])
 (.seq (.reg [
     ⟨(some 5), .mv (.tmp 1), none⟩,
     ⟨(some 6), .mv (.tmp 0), none⟩,
     ⟨(some 7), .len (.tmp 6), none⟩,
     ⟨(some 8), .bin .sub (.tmp 5) (.tmp 7), none⟩,
     ⟨(some 1), .mv (.tmp 8), none⟩] [1])
 (.seq (.seq (.reg [
     ⟨(some 9), .mv (.tmp 1), none⟩,
     ⟨(some 10), .bin .lss (.tmp 9) (.const (.int .i64 0)), none⟩] [1, 10])
 (.cond (.tmp 10)
  (.seq (.reg [
      ⟨(some 4), .mv (.const (.int .i64 (-1))), none⟩] [4])
  (.ret))
  (.skip)))
 (.seq (.reg [
     ⟨(some 11), .mv (.tmp 1), none⟩,
     ⟨(some 4), .mv (.tmp 11), none⟩] [4])
 (.ret))))
theorem s_laws_szInt64S : stripF Try.prog 11 [[0, 1], [1], [1, 10], [4], [4]] = some (c_laws_szInt64S, [.tmp 4], 12) := by kernel_rfl
abbrev f_laws_toInt64S : Nat := 16
def c_laws_toInt64S : SC :=
 .seq (.reg [
     ⟨(some 2), .mv (.const (.slice none 0 0)), none⟩] [0])
 (.seq (.reg [
     ⟨(some 5), .mv (.tmp 0), none⟩,
     ⟨(some 6), .len (.tmp 5), none⟩,
     ⟨(some 7), .mslice 2 8 (.int .i64 0) (.tmp 6) (.tmp 6), none⟩,
     ⟨(some 3), .mv (.tmp 7), none⟩] [0, 3])
 (.seq (.seq (.reg [
     ⟨(some 4), .mv (.const (.int .i64 0)), none⟩] [0, 3, 4])
 (.block 0 (.loop [0, 3, 4]
   (.seq (.seq (.reg [
       ⟨(some 8), .mv (.tmp 4), none⟩,
       ⟨(some 9), .mv (.tmp 0), none⟩,
       ⟨(some 10), .len (.tmp 9), none⟩,
       ⟨(some 11), .bin .lss (.tmp 8) (.tmp 10), none⟩] [0, 3, 4, 11])
   (.cond (.tmp 11)
    (.skip)
    (.exit 0)))
   (.seq (.block 1 (.reg [
        ⟨(some 14), .mv (.tmp 3), none⟩,
        ⟨(some 15), .mv (.tmp 4), none⟩,
        ⟨(some 16), .mv (.tmp 0), none⟩,
        ⟨(some 17), .mv (.tmp 4), none⟩,
        ⟨(some 18), .iaddr 1 (.tmp 16) (.tmp 17), none⟩,
        ⟨(some 19), .load 1 false (.tmp 18), none⟩,
        ⟨(some 20), .iaddr 1 (.tmp 14) (.tmp 15), none⟩,
        ⟨none, .store 1 (.tmp 20) (.tmp 19), none⟩] [0, 3, 4]))
   (.reg [
       ⟨(some 12), .mv (.tmp 4), none⟩,
       ⟨(some 13), .bin .add (.tmp 12) (.const (.int .i64 1)), none⟩,
       ⟨(some 4), .mv (.tmp 13), none⟩] [0, 3, 4]))))))
 (.seq (.reg [
     ⟨(some 21), .mv (.tmp 3), none⟩,
     ⟨(some 2), .mv (.tmp 21), none⟩] [2])
 (.ret))))
theorem s_laws_toInt64S : stripF Try.prog 16 [[0], [0, 3], [0, 3, 4], [0, 3, 4], [0, 3, 4, 11], [0, 3, 4], [0, 3, 4], [2]] = some (c_laws_toInt64S, [.tmp 2], 22) := by kernel_rfl
theorem szInt64S_ok (H : List Blk) (a : AV) (xs : List Int) (left : Int) (ha : RdS H a xs) (h0 : -1 ≤ left) (h1 : left ≤ 4611686018427387904) :
    ACalls Try.prog f_laws_szInt64S [a, I left] H (fun r H' => (∃ z : Int, r = I z ∧ -1 ≤ z ∧ z ≤ left ∧ (0 ≤ z → z = left - xs.length)) ∧ H' = H) := by
  refine ACalls.intro s_laws_szInt64S (by simp) ?_
  refine SW.seq ?_; refine SW.row ?_; simp only [go_sem, Nat.reduceAdd, Nat.reduceEqDiff, Nat.reduceLeDiff, Nat.reduceMul, reduceIte, Nat.zero_ne_one, Nat.one_ne_zero, Nat.zero_add, Nat.add_zero, List.map_cons, List.map_nil, List.length_cons, List.length_nil, decide_true, decide_false, Bool.not_true, Bool.not_false, true_and, and_true, ne_eq, not_true_eq_false, not_false_eq_true, forall_const, List.getElem?_cons_zero, List.getElem?_cons_succ]
  refine SW.seq ?_; refine SW.row ?_; simp only [go_sem, Nat.reduceAdd, Nat.reduceEqDiff, Nat.reduceLeDiff, Nat.reduceMul, reduceIte, Nat.zero_ne_one, Nat.one_ne_zero, Nat.zero_add, Nat.add_zero, List.map_cons, List.map_nil, List.length_cons, List.length_nil, decide_true, decide_false, Bool.not_true, Bool.not_false, true_and, and_true, ne_eq, not_true_eq_false, not_false_eq_true, forall_const, List.getElem?_cons_zero, List.getElem?_cons_succ, ha]
  intro hl
  rw [w64_id (by omega) (by omega)]
  refine SW.seq ?_; refine SW.seq ?_; refine SW.row ?_; simp only [go_sem, Nat.reduceAdd, Nat.reduceEqDiff, Nat.reduceLeDiff, Nat.reduceMul, reduceIte, Nat.zero_ne_one, Nat.one_ne_zero, Nat.zero_add, Nat.add_zero, List.map_cons, List.map_nil, List.length_cons, List.length_nil, decide_true, decide_false, Bool.not_true, Bool.not_false, true_and, and_true, ne_eq, not_true_eq_false, not_false_eq_true, forall_const, List.getElem?_cons_zero, List.getElem?_cons_succ]; (first | refine SW.cond rfl (fun h => ?_) (fun h => ?_) | (intro _; refine SW.cond rfl (fun h => ?_) (fun h => ?_)) | (intro _ _; refine SW.cond rfl (fun h => ?_) (fun h => ?_)))
  · refine SW.seq ?_; refine SW.row ?_; simp only [go_sem, Nat.reduceAdd, Nat.reduceEqDiff, Nat.reduceLeDiff, Nat.reduceMul, reduceIte, Nat.zero_ne_one, Nat.one_ne_zero, Nat.zero_add, Nat.add_zero, List.map_cons, List.map_nil, List.length_cons, List.length_nil, decide_true, decide_false, Bool.not_true, Bool.not_false, true_and, and_true, ne_eq, not_true_eq_false, not_false_eq_true, forall_const, List.getElem?_cons_zero, List.getElem?_cons_succ]
    refine SW.ret ?_; (try simp only [go_sem]); refine FunPost.one (GR.of ?_); (try simp only [go_sem, Nat.reduceAdd, Nat.reduceEqDiff, Nat.reduceLeDiff, Nat.reduceMul, reduceIte, Nat.zero_ne_one, Nat.one_ne_zero, Nat.zero_add, Nat.add_zero, List.map_cons, List.map_nil, List.length_cons, List.length_nil, decide_true, decide_false, Bool.not_true, Bool.not_false, true_and, and_true, ne_eq, not_true_eq_false, not_false_eq_true, forall_const, List.getElem?_cons_zero, List.getElem?_cons_succ])
    exact ⟨-1, rfl, by omega, by omega, fun h => by omega⟩
  refine SW.skip ?_; simp only [go_sem, Nat.reduceAdd, Nat.reduceEqDiff, Nat.reduceLeDiff, Nat.reduceMul, reduceIte, Nat.zero_ne_one, Nat.one_ne_zero, Nat.zero_add, Nat.add_zero, List.map_cons, List.map_nil, List.length_cons, List.length_nil, decide_true, decide_false, Bool.not_true, Bool.not_false, true_and, and_true, ne_eq, not_true_eq_false, not_false_eq_true, forall_const, List.getElem?_cons_zero, List.getElem?_cons_succ]
  have hh := of_decide_eq_false h
  refine SW.seq ?_; refine SW.row ?_; simp only [go_sem, Nat.reduceAdd, Nat.reduceEqDiff, Nat.reduceLeDiff, Nat.reduceMul, reduceIte, Nat.zero_ne_one, Nat.one_ne_zero, Nat.zero_add, Nat.add_zero, List.map_cons, List.map_nil, List.length_cons, List.length_nil, decide_true, decide_false, Bool.not_true, Bool.not_false, true_and, and_true, ne_eq, not_true_eq_false, not_false_eq_true, forall_const, List.getElem?_cons_zero, List.getElem?_cons_succ]
  refine SW.ret ?_; (try simp only [go_sem]); refine FunPost.one (GR.of ?_); (try simp only [go_sem, Nat.reduceAdd, Nat.reduceEqDiff, Nat.reduceLeDiff, Nat.reduceMul, reduceIte, Nat.zero_ne_one, Nat.one_ne_zero, Nat.zero_add, Nat.add_zero, List.map_cons, List.map_nil, List.length_cons, List.length_nil, decide_true, decide_false, Bool.not_true, Bool.not_false, true_and, and_true, ne_eq, not_true_eq_false, not_false_eq_true, forall_const, List.getElem?_cons_zero, List.getElem?_cons_succ])
  exact ⟨_, rfl, by omega, by omega, fun _ => rfl⟩
theorem szInt64SS_ok (H : List Blk) (a : AV) (xss : List (List Int)) (left : Int) (ha : RdSS H a xss) (h0 : -1 ≤ left) (h1 : left ≤ 4611686018427387904) :
    ACalls Try.prog f_laws_szInt64SS [a, I left] H (fun r H' => (∃ z : Int, r = I z ∧ -1 ≤ z ∧ z ≤ left ∧ (0 ≤ z → z = left - xss.length - total xss)) ∧ H' = H) := by
  obtain ⟨cells, a1, a2, a3⟩ := ha
  refine ACalls.intro s_laws_szInt64SS (by simp) ?_
  refine SW.seq ?_; refine SW.row ?_; simp only [go_sem, Nat.reduceAdd, Nat.reduceEqDiff, Nat.reduceLeDiff, Nat.reduceMul, reduceIte, Nat.zero_ne_one, Nat.one_ne_zero, Nat.zero_add, Nat.add_zero, List.map_cons, List.map_nil, List.length_cons, List.length_nil, decide_true, decide_false, Bool.not_true, Bool.not_false, true_and, and_true, ne_eq, not_true_eq_false, not_false_eq_true, forall_const, List.getElem?_cons_zero, List.getElem?_cons_succ]
  refine SW.seq ?_; refine SW.row ?_; simp only [go_sem, Nat.reduceAdd, Nat.reduceEqDiff, Nat.reduceLeDiff, Nat.reduceMul, reduceIte, Nat.zero_ne_one, Nat.one_ne_zero, Nat.zero_add, Nat.add_zero, List.map_cons, List.map_nil, List.length_cons, List.length_nil, decide_true, decide_false, Bool.not_true, Bool.not_false, true_and, and_true, ne_eq, not_true_eq_false, not_false_eq_true, forall_const, List.getElem?_cons_zero, List.getElem?_cons_succ, a1]
  intro hl
  rw [w64_id (by omega) (by omega)]
  refine SW.seq ?_; refine SW.seq ?_; refine SW.row ?_; simp only [go_sem, Nat.reduceAdd, Nat.reduceEqDiff, Nat.reduceLeDiff, Nat.reduceMul, reduceIte, Nat.zero_ne_one, Nat.one_ne_zero, Nat.zero_add, Nat.add_zero, List.map_cons, List.map_nil, List.length_cons, List.length_nil, decide_true, decide_false, Bool.not_true, Bool.not_false, true_and, and_true, ne_eq, not_true_eq_false, not_false_eq_true, forall_const, List.getElem?_cons_zero, List.getElem?_cons_succ]; (first | refine SW.cond rfl (fun h => ?_) (fun h => ?_) | (intro _; refine SW.cond rfl (fun h => ?_) (fun h => ?_)) | (intro _ _; refine SW.cond rfl (fun h => ?_) (fun h => ?_)))
  · refine SW.seq ?_; refine SW.row ?_; simp only [go_sem, Nat.reduceAdd, Nat.reduceEqDiff, Nat.reduceLeDiff, Nat.reduceMul, reduceIte, Nat.zero_ne_one, Nat.one_ne_zero, Nat.zero_add, Nat.add_zero, List.map_cons, List.map_nil, List.length_cons, List.length_nil, decide_true, decide_false, Bool.not_true, Bool.not_false, true_and, and_true, ne_eq, not_true_eq_false, not_false_eq_true, forall_const, List.getElem?_cons_zero, List.getElem?_cons_succ]
    refine SW.ret ?_; (try simp only [go_sem]); refine FunPost.one (GR.of ?_); (try simp only [go_sem, Nat.reduceAdd, Nat.reduceEqDiff, Nat.reduceLeDiff, Nat.reduceMul, reduceIte, Nat.zero_ne_one, Nat.one_ne_zero, Nat.zero_add, Nat.add_zero, List.map_cons, List.map_nil, List.length_cons, List.length_nil, decide_true, decide_false, Bool.not_true, Bool.not_false, true_and, and_true, ne_eq, not_true_eq_false, not_false_eq_true, forall_const, List.getElem?_cons_zero, List.getElem?_cons_succ])
    exact ⟨-1, rfl, by omega, by omega, fun h => by omega⟩
  refine SW.skip ?_; simp only [go_sem, Nat.reduceAdd, Nat.reduceEqDiff, Nat.reduceLeDiff, Nat.reduceMul, reduceIte, Nat.zero_ne_one, Nat.one_ne_zero, Nat.zero_add, Nat.add_zero, List.map_cons, List.map_nil, List.length_cons, List.length_nil, decide_true, decide_false, Bool.not_true, Bool.not_false, true_and, and_true, ne_eq, not_true_eq_false, not_false_eq_true, forall_const, List.getElem?_cons_zero, List.getElem?_cons_succ]
  have hh := of_decide_eq_false h
  refine SW.seq ?_; refine SW.seq ?_; refine SW.row ?_; simp only [go_sem, Nat.reduceAdd, Nat.reduceEqDiff, Nat.reduceLeDiff, Nat.reduceMul, reduceIte, Nat.zero_ne_one, Nat.one_ne_zero, Nat.zero_add, Nat.add_zero, List.map_cons, List.map_nil, List.length_cons, List.length_nil, decide_true, decide_false, Bool.not_true, Bool.not_false, true_and, and_true, ne_eq, not_true_eq_false, not_false_eq_true, forall_const, List.getElem?_cons_zero, List.getElem?_cons_succ]
  refine SW.block ?_
  refine SW.loop (fun q E H' => ∃ (i : Nat) (z : Int), i ≤ xss.length ∧ q = xss.length - i ∧ E = [(0, a), (1, I z), (5, I i)] ∧ H' = H ∧ 0 ≤ z ∧ z = left - xss.length - total (xss.take i)) xss.length ⟨0, _, by omega, by omega, rfl, rfl, by omega, by simp [total]⟩ ?_
  rintro q E H' ⟨i, z, hi, rfl, rfl, rfl, hz0, hz⟩
  refine SW.seq ?_; refine SW.seq ?_; refine SW.row ?_; simp only [go_sem, Nat.reduceAdd, Nat.reduceEqDiff, Nat.reduceLeDiff, Nat.reduceMul, reduceIte, Nat.zero_ne_one, Nat.one_ne_zero, Nat.zero_add, Nat.add_zero, List.map_cons, List.map_nil, List.length_cons, List.length_nil, decide_true, decide_false, Bool.not_true, Bool.not_false, true_and, and_true, ne_eq, not_true_eq_false, not_false_eq_true, forall_const, List.getElem?_cons_zero, List.getElem?_cons_succ, a1]; (first | refine SW.cond rfl (fun h => ?_) (fun h => ?_) | (intro _; refine SW.cond rfl (fun h => ?_) (fun h => ?_)) | (intro _ _; refine SW.cond rfl (fun h => ?_) (fun h => ?_)))
  · have hx : i < xss.length := by have := of_decide_eq_true h; omega
    have hci : cells[i]? = some cells[i] := List.getElem?_eq_getElem (by omega)
    have htot := total_take_succ xss hx
    refine SW.skip ?_; simp only [go_sem, Nat.reduceAdd, Nat.reduceEqDiff, Nat.reduceLeDiff, Nat.reduceMul, reduceIte, Nat.zero_ne_one, Nat.one_ne_zero, Nat.zero_add, Nat.add_zero, List.map_cons, List.map_nil, List.length_cons, List.length_nil, decide_true, decide_false, Bool.not_true, Bool.not_false, true_and, and_true, ne_eq, not_true_eq_false, not_false_eq_true, forall_const, List.getElem?_cons_zero, List.getElem?_cons_succ]
    refine SW.seq ?_; refine SW.block ?_; refine SW.seq ?_; refine SW.row ?_; simp only [go_sem, Nat.reduceAdd, Nat.reduceEqDiff, Nat.reduceLeDiff, Nat.reduceMul, reduceIte, Nat.zero_ne_one, Nat.one_ne_zero, Nat.zero_add, Nat.add_zero, List.map_cons, List.map_nil, List.length_cons, List.length_nil, decide_true, decide_false, Bool.not_true, Bool.not_false, true_and, and_true, ne_eq, not_true_eq_false, not_false_eq_true, forall_const, List.getElem?_cons_zero, List.getElem?_cons_succ, idxc a1 hx, ldc a1 hci]
    refine (szInt64S_ok _ _ xss[i] z (a3 i _ _ hci (List.getElem?_eq_getElem hx)) (by omega) (by omega)).mono ?_
    rintro r H' ⟨⟨z', rfl, g1, g2, g3⟩, rfl⟩
    simp only [go_sem, Nat.reduceAdd, Nat.reduceEqDiff, Nat.reduceLeDiff, Nat.reduceMul, reduceIte, Nat.zero_ne_one, Nat.one_ne_zero, Nat.zero_add, Nat.add_zero, List.map_cons, List.map_nil, List.length_cons, List.length_nil, decide_true, decide_false, Bool.not_true, Bool.not_false, true_and, and_true, ne_eq, not_true_eq_false, not_false_eq_true, forall_const, List.getElem?_cons_zero, List.getElem?_cons_succ]
    refine SW.seq ?_; refine SW.row ?_; simp only [go_sem, Nat.reduceAdd, Nat.reduceEqDiff, Nat.reduceLeDiff, Nat.reduceMul, reduceIte, Nat.zero_ne_one, Nat.one_ne_zero, Nat.zero_add, Nat.add_zero, List.map_cons, List.map_nil, List.length_cons, List.length_nil, decide_true, decide_false, Bool.not_true, Bool.not_false, true_and, and_true, ne_eq, not_true_eq_false, not_false_eq_true, forall_const, List.getElem?_cons_zero, List.getElem?_cons_succ]
    refine SW.cond rfl (fun h => ?_) (fun h => ?_)
    · refine SW.seq ?_; refine SW.row ?_; simp only [go_sem, Nat.reduceAdd, Nat.reduceEqDiff, Nat.reduceLeDiff, Nat.reduceMul, reduceIte, Nat.zero_ne_one, Nat.one_ne_zero, Nat.zero_add, Nat.add_zero, List.map_cons, List.map_nil, List.length_cons, List.length_nil, decide_true, decide_false, Bool.not_true, Bool.not_false, true_and, and_true, ne_eq, not_true_eq_false, not_false_eq_true, forall_const, List.getElem?_cons_zero, List.getElem?_cons_succ]
      refine SW.ret ?_; (try simp only [go_sem]); refine FunPost.one (GR.of ?_); (try simp only [go_sem, Nat.reduceAdd, Nat.reduceEqDiff, Nat.reduceLeDiff, Nat.reduceMul, reduceIte, Nat.zero_ne_one, Nat.one_ne_zero, Nat.zero_add, Nat.add_zero, List.map_cons, List.map_nil, List.length_cons, List.length_nil, decide_true, decide_false, Bool.not_true, Bool.not_false, true_and, and_true, ne_eq, not_true_eq_false, not_false_eq_true, forall_const, List.getElem?_cons_zero, List.getElem?_cons_succ])
      have := of_decide_eq_true h
      exact ⟨-1, rfl, by omega, by omega, fun h => by omega⟩
    have hh := of_decide_eq_false h
    have := g3 (by omega)
    refine SW.skip ?_; simp only [go_sem, Nat.reduceAdd, Nat.reduceEqDiff, Nat.reduceLeDiff, Nat.reduceMul, reduceIte, Nat.zero_ne_one, Nat.one_ne_zero, Nat.zero_add, Nat.add_zero, List.map_cons, List.map_nil, List.length_cons, List.length_nil, decide_true, decide_false, Bool.not_true, Bool.not_false, true_and, and_true, ne_eq, not_true_eq_false, not_false_eq_true, forall_const, List.getElem?_cons_zero, List.getElem?_cons_succ]
    refine SW.row ?_; simp only [go_sem, Nat.reduceAdd, Nat.reduceEqDiff, Nat.reduceLeDiff, Nat.reduceMul, reduceIte, Nat.zero_ne_one, Nat.one_ne_zero, Nat.zero_add, Nat.add_zero, List.map_cons, List.map_nil, List.length_cons, List.length_nil, decide_true, decide_false, Bool.not_true, Bool.not_false, true_and, and_true, ne_eq, not_true_eq_false, not_false_eq_true, forall_const, List.getElem?_cons_zero, List.getElem?_cons_succ, w64_succ hx hl]
    refine SLoop.next (xss.length - (i + 1)) (by omega) ⟨i + 1, z', by omega, rfl, ?_, rfl, by omega, by omega⟩
    simp only [go_sem, Nat.reduceAdd, Nat.reduceEqDiff, Nat.reduceLeDiff, Nat.reduceMul, reduceIte, Nat.zero_ne_one, Nat.one_ne_zero, Nat.zero_add, Nat.add_zero, List.map_cons, List.map_nil, List.length_cons, List.length_nil, decide_true, decide_false, Bool.not_true, Bool.not_false, true_and, and_true, ne_eq, not_true_eq_false, not_false_eq_true, forall_const, List.getElem?_cons_zero, List.getElem?_cons_succ] <;> rfl
  · have hx : i = xss.length := by have := of_decide_eq_false h; omega
    subst hx
    refine SW.exit ?_; simp only [go_sem, Nat.reduceAdd, Nat.reduceEqDiff, Nat.reduceLeDiff, Nat.reduceMul, reduceIte, Nat.zero_ne_one, Nat.one_ne_zero, Nat.zero_add, Nat.add_zero, List.map_cons, List.map_nil, List.length_cons, List.length_nil, decide_true, decide_false, Bool.not_true, Bool.not_false, true_and, and_true, ne_eq, not_true_eq_false, not_false_eq_true, forall_const, List.getElem?_cons_zero, List.getElem?_cons_succ]
    refine SW.seq ?_; refine SW.row ?_; simp only [go_sem, Nat.reduceAdd, Nat.reduceEqDiff, Nat.reduceLeDiff, Nat.reduceMul, reduceIte, Nat.zero_ne_one, Nat.one_ne_zero, Nat.zero_add, Nat.add_zero, List.map_cons, List.map_nil, List.length_cons, List.length_nil, decide_true, decide_false, Bool.not_true, Bool.not_false, true_and, and_true, ne_eq, not_true_eq_false, not_false_eq_true, forall_const, List.getElem?_cons_zero, List.getElem?_cons_succ]
    refine SW.ret ?_; (try simp only [go_sem]); refine FunPost.one (GR.of ?_); (try simp only [go_sem, Nat.reduceAdd, Nat.reduceEqDiff, Nat.reduceLeDiff, Nat.reduceMul, reduceIte, Nat.zero_ne_one, Nat.one_ne_zero, Nat.zero_add, Nat.add_zero, List.map_cons, List.map_nil, List.length_cons, List.length_nil, decide_true, decide_false, Bool.not_true, Bool.not_false, true_and, and_true, ne_eq, not_true_eq_false, not_false_eq_true, forall_const, List.getElem?_cons_zero, List.getElem?_cons_succ])
    rw [List.take_length] at hz
    exact ⟨_, rfl, by omega, by omega, fun _ => hz⟩
def ct (xs : List Int) (i : Nat) : List Int := xs.take i ++ List.replicate (xs.length - i) 0
theorem ct_zero (xs : List Int) : ct xs 0 = List.replicate xs.length 0 := by simp [ct]
theorem ct_all (xs : List Int) : ct xs xs.length = xs := by simp [ct]
theorem ct_length (xs : List Int) {i : Nat} (h : i ≤ xs.length) : (ct xs i).length = xs.length := by simp [ct]; omega
theorem ct_set (xs : List Int) {i : Nat} (h : i < xs.length) : (ct xs i).set i xs[i] = ct xs (i + 1) := by
  unfold ct
  rw [List.set_append_right _ _ (by simp; omega)]
  have : i - (xs.take i).length = 0 := by simp; omega
  rw [this, show xs.length - i = (xs.length - (i + 1)) + 1 by omega, List.replicate_succ, List.set_cons_zero, List.take_add_one, List.getElem?_eq_getElem h]
  simp only [Option.toList_some, List.append_assoc, List.singleton_append]
theorem toInt64S_ok (H : List Blk) (a : AV) (xs : List Int) (ha : RdS H a xs) (hs : xs.length ≤ 1073741824) :
    ACalls Try.prog f_laws_toInt64S [a] H (fun r H' => r = .nm H.length 0 0 xs.length ∧ H' = H ++ [⟨0, 2, 1, xs.map I⟩]) := by
  refine ACalls.intro s_laws_toInt64S (by simp) ?_
  refine SW.seq ?_; refine SW.row ?_; simp only [go_sem, Nat.reduceAdd, Nat.reduceEqDiff, Nat.reduceLeDiff, Nat.reduceMul, reduceIte, Nat.zero_ne_one, Nat.one_ne_zero, Nat.zero_add, Nat.add_zero, List.map_cons, List.map_nil, List.length_cons, List.length_nil, decide_true, decide_false, Bool.not_true, Bool.not_false, true_and, and_true, ne_eq, not_true_eq_false, not_false_eq_true, forall_const, List.getElem?_cons_zero, List.getElem?_cons_succ]
  refine SW.seq ?_; refine SW.row ?_; simp only [go_sem, Nat.reduceAdd, Nat.reduceEqDiff, Nat.reduceLeDiff, Nat.reduceMul, reduceIte, Nat.zero_ne_one, Nat.one_ne_zero, Nat.zero_add, Nat.add_zero, List.map_cons, List.map_nil, List.length_cons, List.length_nil, decide_true, decide_false, Bool.not_true, Bool.not_false, true_and, and_true, ne_eq, not_true_eq_false, not_false_eq_true, forall_const, List.getElem?_cons_zero, List.getElem?_cons_succ, ha]
  intro hl
  refine ⟨by omega, by omega, by omega, by omega, ?_⟩
  simp only [go_sem, Nat.reduceAdd, Nat.reduceEqDiff, Nat.reduceLeDiff, Nat.reduceMul, reduceIte, Nat.zero_ne_one, Nat.one_ne_zero, Nat.zero_add, Nat.add_zero, List.map_cons, List.map_nil, List.length_cons, List.length_nil, decide_true, decide_false, Bool.not_true, Bool.not_false, true_and, and_true, ne_eq, not_true_eq_false, not_false_eq_true, forall_const, List.getElem?_cons_zero, List.getElem?_cons_succ, Int.toNat_natCast]
  refine SW.seq ?_; refine SW.seq ?_; refine SW.row ?_; simp only [go_sem, Nat.reduceAdd, Nat.reduceEqDiff, Nat.reduceLeDiff, Nat.reduceMul, reduceIte, Nat.zero_ne_one, Nat.one_ne_zero, Nat.zero_add, Nat.add_zero, List.map_cons, List.map_nil, List.length_cons, List.length_nil, decide_true, decide_false, Bool.not_true, Bool.not_false, true_and, and_true, ne_eq, not_true_eq_false, not_false_eq_true, forall_const, List.getElem?_cons_zero, List.getElem?_cons_succ]
  refine SW.block ?_
  refine SW.loop (fun q E H' => ∃ i : Nat, i ≤ xs.length ∧ q = xs.length - i ∧ E = [(0, a), (3, .nm H.length 0 0 xs.length), (4, I i)] ∧ H' = H ++ [⟨0, 2, 1, (ct xs i).map I⟩]) xs.length ⟨0, by omega, by omega, rfl, by rw [ct_zero, List.map_replicate]⟩ ?_
  rintro q E H' ⟨i, hi, rfl, rfl, rfl⟩
  have ha' := ha.append [⟨0, 2, 1, (ct xs i).map I⟩]
  have hcell : (H ++ [(⟨0, 2, 1, (ct xs i).map I⟩ : Blk)])[H.length]? = some ⟨0, 2, 1, (ct xs i).map I⟩ := by simp
  have hv := view_nm hcell (n := xs.length) (by simp [ct_length xs hi])
  refine SW.seq ?_; refine SW.seq ?_; refine SW.row ?_; simp only [go_sem, Nat.reduceAdd, Nat.reduceEqDiff, Nat.reduceLeDiff, Nat.reduceMul, reduceIte, Nat.zero_ne_one, Nat.one_ne_zero, Nat.zero_add, Nat.add_zero, List.map_cons, List.map_nil, List.length_cons, List.length_nil, decide_true, decide_false, Bool.not_true, Bool.not_false, true_and, and_true, ne_eq, not_true_eq_false, not_false_eq_true, forall_const, List.getElem?_cons_zero, List.getElem?_cons_succ, ha']; (first | refine SW.cond rfl (fun h => ?_) (fun h => ?_) | (intro _; refine SW.cond rfl (fun h => ?_) (fun h => ?_)) | (intro _ _; refine SW.cond rfl (fun h => ?_) (fun h => ?_)))
  · have hx : i < xs.length := by have := of_decide_eq_true h; omega
    refine SW.skip ?_; simp only [go_sem, Nat.reduceAdd, Nat.reduceEqDiff, Nat.reduceLeDiff, Nat.reduceMul, reduceIte, Nat.zero_ne_one, Nat.one_ne_zero, Nat.zero_add, Nat.add_zero, List.map_cons, List.map_nil, List.length_cons, List.length_nil, decide_true, decide_false, Bool.not_true, Bool.not_false, true_and, and_true, ne_eq, not_true_eq_false, not_false_eq_true, forall_const, List.getElem?_cons_zero, List.getElem?_cons_succ]
    refine SW.seq ?_; refine SW.block ?_; refine SW.row ?_; simp only [go_sem, Nat.reduceAdd, Nat.reduceEqDiff, Nat.reduceLeDiff, Nat.reduceMul, reduceIte, Nat.zero_ne_one, Nat.one_ne_zero, Nat.zero_add, Nat.add_zero, List.map_cons, List.map_nil, List.length_cons, List.length_nil, decide_true, decide_false, Bool.not_true, Bool.not_false, true_and, and_true, ne_eq, not_true_eq_false, not_false_eq_true, forall_const, List.getElem?_cons_zero, List.getElem?_cons_succ, idx ha' hx, ld ha' hx, idxc hv hx, store_nm hcell (show i < ((ct xs i).map I).length by simp [ct_length xs hi, hx])]
    refine SW.row ?_; simp only [go_sem, Nat.reduceAdd, Nat.reduceEqDiff, Nat.reduceLeDiff, Nat.reduceMul, reduceIte, Nat.zero_ne_one, Nat.one_ne_zero, Nat.zero_add, Nat.add_zero, List.map_cons, List.map_nil, List.length_cons, List.length_nil, decide_true, decide_false, Bool.not_true, Bool.not_false, true_and, and_true, ne_eq, not_true_eq_false, not_false_eq_true, forall_const, List.getElem?_cons_zero, List.getElem?_cons_succ, w64_succ hx hl]
    refine SLoop.next (xs.length - (i + 1)) (by omega) ⟨i + 1, by omega, rfl, ?_, ?_⟩
    · simp only [go_sem, Nat.reduceAdd, Nat.reduceEqDiff, Nat.reduceLeDiff, Nat.reduceMul, reduceIte, Nat.zero_ne_one, Nat.one_ne_zero, Nat.zero_add, Nat.add_zero, List.map_cons, List.map_nil, List.length_cons, List.length_nil, decide_true, decide_false, Bool.not_true, Bool.not_false, true_and, and_true, ne_eq, not_true_eq_false, not_false_eq_true, forall_const, List.getElem?_cons_zero, List.getElem?_cons_succ] <;> rfl
    · rw [hset0, ← List.map_set, ct_set xs hx]; rfl
  · have hx : i = xs.length := by have := of_decide_eq_false h; omega
    subst hx
    refine SW.exit ?_; simp only [go_sem, Nat.reduceAdd, Nat.reduceEqDiff, Nat.reduceLeDiff, Nat.reduceMul, reduceIte, Nat.zero_ne_one, Nat.one_ne_zero, Nat.zero_add, Nat.add_zero, List.map_cons, List.map_nil, List.length_cons, List.length_nil, decide_true, decide_false, Bool.not_true, Bool.not_false, true_and, and_true, ne_eq, not_true_eq_false, not_false_eq_true, forall_const, List.getElem?_cons_zero, List.getElem?_cons_succ]
    refine SW.seq ?_; refine SW.row ?_; simp only [go_sem, Nat.reduceAdd, Nat.reduceEqDiff, Nat.reduceLeDiff, Nat.reduceMul, reduceIte, Nat.zero_ne_one, Nat.one_ne_zero, Nat.zero_add, Nat.add_zero, List.map_cons, List.map_nil, List.length_cons, List.length_nil, decide_true, decide_false, Bool.not_true, Bool.not_false, true_and, and_true, ne_eq, not_true_eq_false, not_false_eq_true, forall_const, List.getElem?_cons_zero, List.getElem?_cons_succ]
    refine SW.ret ?_; (try simp only [go_sem]); refine FunPost.one (GR.of ?_); (try simp only [go_sem, Nat.reduceAdd, Nat.reduceEqDiff, Nat.reduceLeDiff, Nat.reduceMul, reduceIte, Nat.zero_ne_one, Nat.one_ne_zero, Nat.zero_add, Nat.add_zero, List.map_cons, List.map_nil, List.length_cons, List.length_nil, decide_true, decide_false, Bool.not_true, Bool.not_false, true_and, and_true, ne_eq, not_true_eq_false, not_false_eq_true, forall_const, List.getElem?_cons_zero, List.getElem?_cons_succ])
    rw [ct_all]
def nmsB : Nat → List (List Int) → List AV
  | _, [] => []
  | k, xs :: r => .nm k 0 0 xs.length :: nmsB (k + 1) r
def rowsB (xss : List (List Int)) : List Blk := xss.map fun xs => ⟨0, 2, 1, xs.map I⟩
theorem nmsB_length (k : Nat) (xss : List (List Int)) : (nmsB k xss).length = xss.length := by
  induction xss generalizing k with
  | nil => rfl
  | cons xs r ih => simp [nmsB, ih]
theorem nmsB_app (k : Nat) (xss : List (List Int)) (xs : List Int) : nmsB k (xss ++ [xs]) = nmsB k xss ++ [.nm (k + xss.length) 0 0 xs.length] := by
  induction xss generalizing k with
  | nil => rfl
  | cons ys r ih => simp only [List.cons_append, nmsB, ih, List.length_cons]; rw [show k + 1 + r.length = k + (r.length + 1) by omega]
theorem nmsB_get (k : Nat) (xss : List (List Int)) (j : Nat) : (nmsB k xss)[j]? = xss[j]?.map fun xs => .nm (k + j) 0 0 xs.length := by
  induction xss generalizing k j with
  | nil => simp [nmsB]
  | cons ys r ih =>
    cases j with
    | zero => simp [nmsB]
    | succ j => simp only [nmsB, List.getElem?_cons_succ, ih]; rw [show k + 1 + j = k + (j + 1) by omega]
def cts (k : Nat) (xss : List (List Int)) (i : Nat) : List AV := nmsB k (xss.take i) ++ List.replicate (xss.length - i) nilS
theorem cts_length (k : Nat) (xss : List (List Int)) {i : Nat} (h : i ≤ xss.length) : (cts k xss i).length = xss.length := by simp [cts, nmsB_length]; omega
theorem cts_all (k : Nat) (xss : List (List Int)) : cts k xss xss.length = nmsB k xss := by simp [cts]
theorem cts_set (k : Nat) (xss : List (List Int)) {i : Nat} (h : i < xss.length) : (cts k xss i).set i (.nm (k + i) 0 0 xss[i].length) = cts k xss (i + 1) := by
  unfold cts
  have hl : (nmsB k (xss.take i)).length = i := by rw [nmsB_length]; simp; omega
  rw [List.set_append_right _ _ (by omega), hl, Nat.sub_self, show xss.length - i = (xss.length - (i + 1)) + 1 by omega, List.replicate_succ, List.set_cons_zero, List.take_add_one, List.getElem?_eq_getElem h]
  simp only [Option.toList]
  rw [nmsB_app]
  simp [Nat.min_eq_left (Nat.le_of_lt h)]
theorem toInt64SS_ok (H : List Blk) (a : AV) (xss : List (List Int)) (ha : RdSS H a xss) (hs : xss.length ≤ 1073741824) (hs' : ∀ xs ∈ xss, xs.length ≤ 1073741824) :
    ACalls Try.prog f_laws_toInt64SS [a] H (fun r H' => r = .nm H.length 0 0 xss.length ∧ H' = H ++ ⟨0, tySS, 1, nmsB (H.length + 1) xss⟩ :: rowsB xss) := by
  have ha0 := ha
  obtain ⟨cells, a1, a2, a3⟩ := ha
  refine ACalls.intro s_laws_toInt64SS (by simp) ?_
  refine SW.seq ?_; refine SW.row ?_; simp only [go_sem, Nat.reduceAdd, Nat.reduceEqDiff, Nat.reduceLeDiff, Nat.reduceMul, reduceIte, Nat.zero_ne_one, Nat.one_ne_zero, Nat.zero_add, Nat.add_zero, List.map_cons, List.map_nil, List.length_cons, List.length_nil, decide_true, decide_false, Bool.not_true, Bool.not_false, true_and, and_true, ne_eq, not_true_eq_false, not_false_eq_true, forall_const, List.getElem?_cons_zero, List.getElem?_cons_succ]
  refine SW.seq ?_; refine SW.row ?_; simp only [go_sem, Nat.reduceAdd, Nat.reduceEqDiff, Nat.reduceLeDiff, Nat.reduceMul, reduceIte, Nat.zero_ne_one, Nat.one_ne_zero, Nat.zero_add, Nat.add_zero, List.map_cons, List.map_nil, List.length_cons, List.length_nil, decide_true, decide_false, Bool.not_true, Bool.not_false, true_and, and_true, ne_eq, not_true_eq_false, not_false_eq_true, forall_const, List.getElem?_cons_zero, List.getElem?_cons_succ, a1]
  intro hl
  refine ⟨by omega, by omega, by omega, by omega, ?_⟩
  simp only [go_sem, Nat.reduceAdd, Nat.reduceEqDiff, Nat.reduceLeDiff, Nat.reduceMul, reduceIte, Nat.zero_ne_one, Nat.one_ne_zero, Nat.zero_add, Nat.add_zero, List.map_cons, List.map_nil, List.length_cons, List.length_nil, decide_true, decide_false, Bool.not_true, Bool.not_false, true_and, and_true, ne_eq, not_true_eq_false, not_false_eq_true, forall_const, List.getElem?_cons_zero, List.getElem?_cons_succ, Int.toNat_natCast]
  refine SW.seq ?_; refine SW.seq ?_; refine SW.row ?_; simp only [go_sem, Nat.reduceAdd, Nat.reduceEqDiff, Nat.reduceLeDiff, Nat.reduceMul, reduceIte, Nat.zero_ne_one, Nat.one_ne_zero, Nat.zero_add, Nat.add_zero, List.map_cons, List.map_nil, List.length_cons, List.length_nil, decide_true, decide_false, Bool.not_true, Bool.not_false, true_and, and_true, ne_eq, not_true_eq_false, not_false_eq_true, forall_const, List.getElem?_cons_zero, List.getElem?_cons_succ]
  refine SW.block ?_
  refine SW.loop (fun q E H' => ∃ i : Nat, i ≤ xss.length ∧ q = xss.length - i ∧ E = [(0, a), (3, .nm H.length 0 0 xss.length), (4, I i)] ∧ H' = H ++ ⟨0, tySS, 1, cts (H.length + 1) xss i⟩ :: rowsB (xss.take i)) xss.length ⟨0, by omega, by omega, rfl, by simp [cts, nmsB, rowsB]⟩ ?_
  rintro q E H' ⟨i, hi, rfl, rfl, rfl⟩
  have a1' := aview_append a1 (⟨0, tySS, 1, cts (H.length + 1) xss i⟩ :: rowsB (xss.take i))
  refine SW.seq ?_; refine SW.seq ?_; refine SW.row ?_; simp only [go_sem, Nat.reduceAdd, Nat.reduceEqDiff, Nat.reduceLeDiff, Nat.reduceMul, reduceIte, Nat.zero_ne_one, Nat.one_ne_zero, Nat.zero_add, Nat.add_zero, List.map_cons, List.map_nil, List.length_cons, List.length_nil, decide_true, decide_false, Bool.not_true, Bool.not_false, true_and, and_true, ne_eq, not_true_eq_false, not_false_eq_true, forall_const, List.getElem?_cons_zero, List.getElem?_cons_succ, a1']; (first | refine SW.cond rfl (fun h => ?_) (fun h => ?_) | (intro _; refine SW.cond rfl (fun h => ?_) (fun h => ?_)) | (intro _ _; refine SW.cond rfl (fun h => ?_) (fun h => ?_)))
  · have hx : i < xss.length := by have := of_decide_eq_true h; omega
    have hci : cells[i]? = some cells[i] := List.getElem?_eq_getElem (by omega)
    refine SW.skip ?_; simp only [go_sem, Nat.reduceAdd, Nat.reduceEqDiff, Nat.reduceLeDiff, Nat.reduceMul, reduceIte, Nat.zero_ne_one, Nat.one_ne_zero, Nat.zero_add, Nat.add_zero, List.map_cons, List.map_nil, List.length_cons, List.length_nil, decide_true, decide_false, Bool.not_true, Bool.not_false, true_and, and_true, ne_eq, not_true_eq_false, not_false_eq_true, forall_const, List.getElem?_cons_zero, List.getElem?_cons_succ]
    refine SW.seq ?_; refine SW.block ?_; refine SW.row ?_; simp only [go_sem, Nat.reduceAdd, Nat.reduceEqDiff, Nat.reduceLeDiff, Nat.reduceMul, reduceIte, Nat.zero_ne_one, Nat.one_ne_zero, Nat.zero_add, Nat.add_zero, List.map_cons, List.map_nil, List.length_cons, List.length_nil, decide_true, decide_false, Bool.not_true, Bool.not_false, true_and, and_true, ne_eq, not_true_eq_false, not_false_eq_true, forall_const, List.getElem?_cons_zero, List.getElem?_cons_succ, idxc a1' hx, ldc a1' hci]
    refine (toInt64S_ok _ _ xss[i] (RdS.append (a3 i _ _ hci (List.getElem?_eq_getElem hx)) _) (hs' _ (List.getElem_mem hx))).mono ?_
    rintro r H' ⟨rfl, rfl⟩
    have hlen : (H ++ ⟨0, tySS, 1, cts (H.length + 1) xss i⟩ :: rowsB (xss.take i)).length = H.length + 1 + i := by simp [rowsB]; omega
    rw [hlen]
    have hcell : ((H ++ ⟨0, tySS, 1, cts (H.length + 1) xss i⟩ :: rowsB (xss.take i)) ++ [(⟨0, 2, 1, xss[i].map I⟩ : Blk)])[H.length]? = some ⟨0, tySS, 1, cts (H.length + 1) xss i⟩ := by simp
    have hv := view_nm hcell (n := xss.length) (cts_length _ _ hi)
    simp only [go_sem, Nat.reduceAdd, Nat.reduceEqDiff, Nat.reduceLeDiff, Nat.reduceMul, reduceIte, Nat.zero_ne_one, Nat.one_ne_zero, Nat.zero_add, Nat.add_zero, List.map_cons, List.map_nil, List.length_cons, List.length_nil, decide_true, decide_false, Bool.not_true, Bool.not_false, true_and, and_true, ne_eq, not_true_eq_false, not_false_eq_true, forall_const, List.getElem?_cons_zero, List.getElem?_cons_succ, idxc hv hx, store_nm hcell (show i < (cts (H.length + 1) xss i).length by rw [cts_length _ _ hi]; exact hx), partsOf_nm, cell1_nm]
    refine SW.row ?_; simp only [go_sem, Nat.reduceAdd, Nat.reduceEqDiff, Nat.reduceLeDiff, Nat.reduceMul, reduceIte, Nat.zero_ne_one, Nat.one_ne_zero, Nat.zero_add, Nat.add_zero, List.map_cons, List.map_nil, List.length_cons, List.length_nil, decide_true, decide_false, Bool.not_true, Bool.not_false, true_and, and_true, ne_eq, not_true_eq_false, not_false_eq_true, forall_const, List.getElem?_cons_zero, List.getElem?_cons_succ, w64_succ hx hl]
    refine SLoop.next (xss.length - (i + 1)) (by omega) ⟨i + 1, by omega, rfl, ?_, ?_⟩
    · simp only [go_sem, Nat.reduceAdd, Nat.reduceEqDiff, Nat.reduceLeDiff, Nat.reduceMul, reduceIte, Nat.zero_ne_one, Nat.one_ne_zero, Nat.zero_add, Nat.add_zero, List.map_cons, List.map_nil, List.length_cons, List.length_nil, decide_true, decide_false, Bool.not_true, Bool.not_false, true_and, and_true, ne_eq, not_true_eq_false, not_false_eq_true, forall_const, List.getElem?_cons_zero, List.getElem?_cons_succ] <;> rfl
    · rw [List.append_assoc, hset0, List.cons_append, List.set_cons_zero, cts_set _ _ hx]
      congr 2
      rw [List.take_add_one, List.getElem?_eq_getElem hx]
      simp only [rowsB, List.map_append, Option.toList_some, List.map_cons, List.map_nil]
  · have hx : i = xss.length := by have := of_decide_eq_false h; omega
    subst hx
    refine SW.exit ?_; simp only [go_sem, Nat.reduceAdd, Nat.reduceEqDiff, Nat.reduceLeDiff, Nat.reduceMul, reduceIte, Nat.zero_ne_one, Nat.one_ne_zero, Nat.zero_add, Nat.add_zero, List.map_cons, List.map_nil, List.length_cons, List.length_nil, decide_true, decide_false, Bool.not_true, Bool.not_false, true_and, and_true, ne_eq, not_true_eq_false, not_false_eq_true, forall_const, List.getElem?_cons_zero, List.getElem?_cons_succ]
    refine SW.seq ?_; refine SW.row ?_; simp only [go_sem, Nat.reduceAdd, Nat.reduceEqDiff, Nat.reduceLeDiff, Nat.reduceMul, reduceIte, Nat.zero_ne_one, Nat.one_ne_zero, Nat.zero_add, Nat.add_zero, List.map_cons, List.map_nil, List.length_cons, List.length_nil, decide_true, decide_false, Bool.not_true, Bool.not_false, true_and, and_true, ne_eq, not_true_eq_false, not_false_eq_true, forall_const, List.getElem?_cons_zero, List.getElem?_cons_succ]
    refine SW.ret ?_; (try simp only [go_sem]); refine FunPost.one (GR.of ?_); (try simp only [go_sem, Nat.reduceAdd, Nat.reduceEqDiff, Nat.reduceLeDiff, Nat.reduceMul, reduceIte, Nat.zero_ne_one, Nat.one_ne_zero, Nat.zero_add, Nat.add_zero, List.map_cons, List.map_nil, List.length_cons, List.length_nil, decide_true, decide_false, Bool.not_true, Bool.not_false, true_and, and_true, ne_eq, not_true_eq_false, not_false_eq_true, forall_const, List.getElem?_cons_zero, List.getElem?_cons_succ])
    rw [cts_all, List.take_length]
theorem OwnC.names {H : List Blk} {ext : List Blk} {ver ty : Nat} (xss : List (List Int)) : OwnC (H ++ ⟨ver, ty, 1, nmsB (H.length + 1) xss⟩ :: (rowsB xss ++ ext)) (Btw H.length (H.length + 1 + xss.length)) H.length ver ty (nmsB (H.length + 1) xss) xss := by
  refine ⟨⟨by omega, by omega⟩, by simp, nmsB_length _ _, ?_, ?_⟩
  · intro j c xs h1 h2
    rw [nmsB_get, h2] at h1
    simp only [Option.map_some, Option.some.injEq] at h1
    subst h1
    have hlt := (List.getElem?_eq_some_iff.1 h2).1
    refine .inl ⟨_, 0, 2, rfl, ⟨by omega, by omega⟩, by omega, ?_⟩
    rw [show H.length + 1 + j = H.length + (j + 1) by omega, hget, List.getElem?_cons_succ, List.getElem?_append_left (by simpa [rowsB] using hlt)]
    simp [rowsB, h2]
  · intro i j r v o l v' o' l' hij h1 h2
    rw [nmsB_get] at h1 h2
    cases hi : xss[i]? with
    | none => rw [hi] at h1; simp at h1
    | some x =>
      cases hj : xss[j]? with
      | none => rw [hj] at h2; simp at h2
      | some y =>
        rw [hi] at h1; rw [hj] at h2
        simp at h1 h2
        omega
theorem _root_.Go.Av.ACalls.gr {P : Program} {f : FuncId} {args : List AV} {H : List Blk} {R0 R : AV → List Blk → Prop} (h : ACalls P f args H R0) (hg : ∀ r H', R0 r H' → GR H R r H') : ACalls P f args H R := by
  intro B W0 F m w vs h1 h2
  refine (h B W0 F m w vs h1 h2).mono ?_
  rintro e w' ⟨F', m', H', r, v, rfl, g2, g3, g4, g5, g6⟩
  obtain ⟨F2, m2, r2, H2, k1, k2, k3, k4, k5⟩ := hg r H' g6 B W0 F m w F' m' w' v h2 g2 g3 g4 g5
  exact ⟨F2, m2, H2, r2, v, rfl, k1, k2, k3, k4, k5⟩
theorem small_rows {xss : List (List Int)} {z k : Int} (h : 0 ≤ z) (he : z = k - xss.length - total xss) (hk : k ≤ 1073741824) : xss.length ≤ 1073741824 ∧ ∀ xs ∈ xss, xs.length ≤ 1073741824 := by
  refine ⟨by omega, fun xs hx => ?_⟩
  obtain ⟨i, hi, rfl⟩ := List.getElem_of_mem hx
  have h1 := total_take_succ xss hi
  have h2 := total_take_le xss (i + 1)
  omega
end Go.Proofs.Ytflnjgeoegofdaa
