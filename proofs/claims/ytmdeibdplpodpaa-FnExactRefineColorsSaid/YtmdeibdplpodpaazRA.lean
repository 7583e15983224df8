/- Graphs as arguments of laws. -/
import Derived.Test.YtmdeibdplpodpaaProg
import Derived.KernelRfl
import Derived.Test.YtmdeibdplpodpaazR6
import Derived.Test.YtmdeibdplpodpaazOW
import Derived.Test.YtmdeibdplpodpaazQZ
import Derived.Test.YtmdeibdplpodpaazL2
import Derived.Test.YtmdeibdplpodpaazK4
set_option linter.unusedSimpArgs false
set_option linter.unusedVariables false
set_option maxHeartbeats 4000000
set_option maxRecDepth 100000
namespace Go.Proofs.Ytmdeibdplpodpaa
open Go.Av
abbrev f_laws_szGraph : Nat := 6
def c_laws_szGraph : SC :=
 .seq (.reg [
     ⟨(some 2), .box 25 (.tmp 0), none⟩,
     ⟨(some 4), .mv (.const (.int .i64 0)), none⟩] [1, 2])
 (.seq (.reg [
     ⟨(some 5), .faddr 0 (.tmp 2), none⟩,
     ⟨(some 6), .load 1 false (.tmp 5), none⟩,
     ⟨(some 7), .mv (.tmp 1), none⟩,
     ⟨(some 8), .call 23 [(.tmp 6), (.tmp 7)], none⟩,
     ⟨(some 1), .mv (.tmp 8), none⟩] [1, 2])
 (.seq (.seq (.reg [
     ⟨(some 9), .mv (.tmp 1), none⟩,
     ⟨(some 10), .bin .lss (.tmp 9) (.const (.int .i64 0)), none⟩] [1, 2, 10])
 (.cond (.tmp 10)
  (.seq (.reg [
      ⟨(some 4), .mv (.const (.int .i64 (-1))), none⟩] [4])
  (.ret))
  (.skip)))
 (.seq (.reg [
     ⟨(some 11), .faddr 1 (.tmp 2), none⟩,
     ⟨(some 12), .load 1 false (.tmp 11), none⟩,
     ⟨(some 13), .mv (.tmp 1), none⟩,
     ⟨(some 14), .call 24 [(.tmp 12), (.tmp 13)], none⟩,
     ⟨(some 1), .mv (.tmp 14), none⟩] [1])
 (.seq (.seq (.reg [
     ⟨(some 15), .mv (.tmp 1), none⟩,
     ⟨(some 16), .bin .lss (.tmp 15) (.const (.int .i64 0)), none⟩] [1, 16])
 (.cond (.tmp 16)
  (.seq (.reg [
      ⟨(some 4), .mv (.const (.int .i64 (-1))), none⟩] [4])
  (.ret))
  (.skip)))
 (.seq (.reg [
     ⟨(some 17), .mv (.tmp 1), none⟩,
     ⟨(some 4), .mv (.tmp 17), none⟩] [4])
 (.ret))))))
theorem s_laws_szGraph : stripF Try.prog 6 [[1, 2], [1, 2], [1, 2, 10], [4], [1], [1, 16], [4], [4]] = some (c_laws_szGraph, [.tmp 4], 18) := by kernel_rfl
abbrev f_laws_toGraph : Nat := 8
def c_laws_toGraph : SC :=
 .seq (.reg [
     ⟨(some 1), .box 25 (.tmp 0), none⟩,
     ⟨(some 2), .alloc 30 [(.slice none 0 0), (.slice none 0 0)], none⟩] [1, 2])
 (.seq (.reg [
     ⟨(some 3), .alloc 30 [(.slice none 0 0), (.slice none 0 0)], none⟩] [1, 2, 3])
 (.seq (.reg [
     ⟨(some 4), .faddr 0 (.tmp 1), none⟩,
     ⟨(some 5), .load 1 false (.tmp 4), none⟩,
     ⟨(some 6), .call 9 [(.tmp 5)], none⟩,
     ⟨(some 7), .faddr 0 (.tmp 3), none⟩,
     ⟨none, .store 1 (.tmp 7) (.tmp 6), none⟩] [1, 2, 3])
 (.seq (.reg [
     ⟨(some 8), .faddr 1 (.tmp 1), none⟩,
     ⟨(some 9), .load 1 false (.tmp 8), none⟩,
     ⟨(some 10), .call 29 [(.tmp 9)], none⟩,
     ⟨(some 11), .faddr 1 (.tmp 3), none⟩,
     ⟨none, .store 1 (.tmp 11) (.tmp 10), none⟩] [2, 3])
 (.seq (.reg [
     ⟨(some 12), .load 2 true (.tmp 3), none⟩,
     ⟨none, .store 2 (.tmp 2) (.tmp 12), none⟩] [2])
 (.ret)))))
theorem s_laws_toGraph : stripF Try.prog 8 [[1, 2], [1, 2, 3], [1, 2, 3], [2, 3], [2]] = some (c_laws_toGraph, [.cell 2 2], 13) := by kernel_rfl
abbrev f_laws_szEdgeS : Nat := 24
def c_laws_szEdgeS : SC :=
 .seq (.reg [
     ⟨(some 4), .mv (.const (.int .i64 0)), none⟩] [0, 1])
 (.seq (.reg [
     ⟨(some 5), .mv (.tmp 1), none⟩,
     ⟨(some 6), .mv (.tmp 0), none⟩,
     ⟨(some 7), .len (.tmp 6), none⟩,
     ⟨(some 8), .bin .sub (.tmp 5) (.tmp 7), none⟩,
     ⟨(some 1), .mv (.tmp 8), none⟩] [1])
 (.seq (.seq (.reg [
     ⟨(some 9), .mv (.tmp 1), none⟩,
     ⟨(some 10), .bin .lss (.tmp 9) (.const (.int .i64 0)), none⟩] [1, 10])
 (.cond (.tmp 10)
  (.seq (.reg [
      ⟨(some 4), .mv (.const (.int .i64 (-1))), none⟩] [4])
  (.ret))
  (.skip)))
 (.seq (.reg [
     ⟨(some 11), .mv (.tmp 1), none⟩,
     ⟨(some 4), .mv (.tmp 11), none⟩] [4])
 (.ret))))
theorem s_laws_szEdgeS : stripF Try.prog 24 [[0, 1], [1], [1, 10], [4], [4]] = some (c_laws_szEdgeS, [.tmp 4], 12) := by kernel_rfl
abbrev f_laws_toEdgeS : Nat := 29
def c_laws_toEdgeS : SC :=
 .seq (.reg [
     ⟨(some 2), .mv (.const (.slice none 0 0)), none⟩] [0])
 (.seq (.reg [
     ⟨(some 5), .mv (.tmp 0), none⟩,
     ⟨(some 6), .len (.tmp 5), none⟩,
     ⟨(some 7), .msliceN 61 16 [(.int .i64 0), (.int .i64 0)] (.tmp 6) (.tmp 6), none⟩,
     ⟨(some 3), .mv (.tmp 7), none⟩] [0, 3])
 (.seq (.seq (.reg [
     ⟨(some 4), .mv (.const (.int .i64 0)), none⟩] [0, 3, 4])
 (.block 0 (.loop [0, 3, 4]
   (.seq (.seq (.reg [
       ⟨(some 8), .mv (.tmp 4), none⟩,
       ⟨(some 9), .mv (.tmp 0), none⟩,
       ⟨(some 10), .len (.tmp 9), none⟩,
       ⟨(some 11), .bin .lss (.tmp 8) (.tmp 10), none⟩] [0, 3, 4, 11])
   (.cond (.tmp 11)
    (.skip)
    (.exit 0)))
   (.seq (.block 1 (.reg [
        ⟨(some 14), .mv (.tmp 3), none⟩,
        ⟨(some 15), .mv (.tmp 4), none⟩,
        ⟨(some 16), .mv (.tmp 0), none⟩,
        ⟨(some 17), .mv (.tmp 4), none⟩,
        ⟨(some 18), .iaddr 2 (.tmp 16) (.tmp 17), none⟩,
        ⟨(some 19), .load 2 true (.tmp 18), none⟩,
        ⟨(some 20), .call 58 [(.tmp 19)], none⟩,
        ⟨(some 21), .iaddr 2 (.tmp 14) (.tmp 15), none⟩,
        ⟨none, .store 2 (.tmp 21) (.tmp 20), none⟩] [0, 3, 4]))
   (.reg [
       ⟨(some 12), .mv (.tmp 4), none⟩,
       ⟨(some 13), .bin .add (.tmp 12) (.const (.int .i64 1)), none⟩,
       ⟨(some 4), .mv (.tmp 13), none⟩] [0, 3, 4]))))))
 (.seq (.reg [
     ⟨(some 22), .mv (.tmp 3), none⟩,
     ⟨(some 2), .mv (.tmp 22), none⟩] [2])
 (.ret))))
theorem s_laws_toEdgeS : stripF Try.prog 29 [[0], [0, 3], [0, 3, 4], [0, 3, 4], [0, 3, 4, 11], [0, 3, 4], [0, 3, 4], [2]] = some (c_laws_toEdgeS, [.tmp 2], 23) := by kernel_rfl
abbrev f_laws_toEdge : Nat := 58
def c_laws_toEdge : SC :=
 .seq (.reg [
     ⟨(some 1), .box 76 (.tmp 0), none⟩,
     ⟨(some 2), .alloc 61 [(.int .i64 0), (.int .i64 0)], none⟩] [1, 2])
 (.seq (.reg [
     ⟨(some 3), .alloc 61 [(.int .i64 0), (.int .i64 0)], none⟩] [1, 2, 3])
 (.seq (.reg [
     ⟨(some 4), .faddr 0 (.tmp 1), none⟩,
     ⟨(some 5), .load 1 false (.tmp 4), none⟩,
     ⟨(some 6), .faddr 0 (.tmp 3), none⟩,
     ⟨none, .store 1 (.tmp 6) (.tmp 5), none⟩] [1, 2, 3])
 (.seq (.reg [
     ⟨(some 7), .faddr 1 (.tmp 1), none⟩,
     ⟨(some 8), .load 1 false (.tmp 7), none⟩,
     ⟨(some 9), .faddr 1 (.tmp 3), none⟩,
     ⟨none, .store 1 (.tmp 9) (.tmp 8), none⟩] [2, 3])
 (.seq (.reg [
     ⟨(some 10), .load 2 true (.tmp 3), none⟩,
     ⟨none, .store 2 (.tmp 2) (.tmp 10), none⟩] [2])
 (.ret)))))
theorem s_laws_toEdge : stripF Try.prog 58 [[1, 2], [1, 2, 3], [1, 2, 3], [2, 3], [2]] = some (c_laws_toEdge, [.cell 2 2], 11) := by kernel_rfl
theorem szEdgeS_ok (H : List Blk) (c : AV) (es : List (Int × Int)) (left : Int) (hc : RdE H c es) (h0 : -1 ≤ left) (h1 : left ≤ 4611686018427387904) :
    ACalls Try.prog f_laws_szEdgeS [c, I left] H (fun r H' => (∃ z : Int, r = I z ∧ -1 ≤ z ∧ z ≤ left ∧ (0 ≤ z → z = left - es.length)) ∧ H' = H) := by
  have ha : aview H c = some (es.length, flatE es) := hc
  refine ACalls.intro s_laws_szEdgeS (by simp) ?_
  refine SW.seq ?_; refine SW.row ?_; simp only [go_sem, Nat.reduceAdd, Nat.reduceEqDiff, Nat.reduceLeDiff, Nat.reduceMul, reduceIte, Nat.zero_ne_one, Nat.one_ne_zero, Nat.zero_add, Nat.add_zero, List.map_cons, List.map_nil, List.length_cons, List.length_nil, decide_true, decide_false, Bool.not_true, Bool.not_false, true_and, and_true, ne_eq, not_true_eq_false, not_false_eq_true, forall_const, List.getElem?_cons_zero, List.getElem?_cons_succ]
  refine SW.seq ?_; refine SW.row ?_; simp only [go_sem, Nat.reduceAdd, Nat.reduceEqDiff, Nat.reduceLeDiff, Nat.reduceMul, reduceIte, Nat.zero_ne_one, Nat.one_ne_zero, Nat.zero_add, Nat.add_zero, List.map_cons, List.map_nil, List.length_cons, List.length_nil, decide_true, decide_false, Bool.not_true, Bool.not_false, true_and, and_true, ne_eq, not_true_eq_false, not_false_eq_true, forall_const, List.getElem?_cons_zero, List.getElem?_cons_succ, ha]
  intro hl
  rw [w64_id (by omega) (by omega)]
  refine SW.seq ?_; refine SW.seq ?_; refine SW.row ?_; simp only [go_sem, Nat.reduceAdd, Nat.reduceEqDiff, Nat.reduceLeDiff, Nat.reduceMul, reduceIte, Nat.zero_ne_one, Nat.one_ne_zero, Nat.zero_add, Nat.add_zero, List.map_cons, List.map_nil, List.length_cons, List.length_nil, decide_true, decide_false, Bool.not_true, Bool.not_false, true_and, and_true, ne_eq, not_true_eq_false, not_false_eq_true, forall_const, List.getElem?_cons_zero, List.getElem?_cons_succ]; (first | refine SW.cond rfl (fun h => ?_) (fun h => ?_) | (intro _; refine SW.cond rfl (fun h => ?_) (fun h => ?_)) | (intro _ _; refine SW.cond rfl (fun h => ?_) (fun h => ?_)))
  · refine SW.seq ?_; refine SW.row ?_; simp only [go_sem, Nat.reduceAdd, Nat.reduceEqDiff, Nat.reduceLeDiff, Nat.reduceMul, reduceIte, Nat.zero_ne_one, Nat.one_ne_zero, Nat.zero_add, Nat.add_zero, List.map_cons, List.map_nil, List.length_cons, List.length_nil, decide_true, decide_false, Bool.not_true, Bool.not_false, true_and, and_true, ne_eq, not_true_eq_false, not_false_eq_true, forall_const, List.getElem?_cons_zero, List.getElem?_cons_succ]
    refine SW.ret ?_; (try simp only [go_sem]); refine FunPost.one (GR.of ?_); (try simp only [go_sem, Nat.reduceAdd, Nat.reduceEqDiff, Nat.reduceLeDiff, Nat.reduceMul, reduceIte, Nat.zero_ne_one, Nat.one_ne_zero, Nat.zero_add, Nat.add_zero, List.map_cons, List.map_nil, List.length_cons, List.length_nil, decide_true, decide_false, Bool.not_true, Bool.not_false, true_and, and_true, ne_eq, not_true_eq_false, not_false_eq_true, forall_const, List.getElem?_cons_zero, List.getElem?_cons_succ])
    exact ⟨-1, rfl, by omega, by omega, fun h => by omega⟩
  refine SW.skip ?_; simp only [go_sem, Nat.reduceAdd, Nat.reduceEqDiff, Nat.reduceLeDiff, Nat.reduceMul, reduceIte, Nat.zero_ne_one, Nat.one_ne_zero, Nat.zero_add, Nat.add_zero, List.map_cons, List.map_nil, List.length_cons, List.length_nil, decide_true, decide_false, Bool.not_true, Bool.not_false, true_and, and_true, ne_eq, not_true_eq_false, not_false_eq_true, forall_const, List.getElem?_cons_zero, List.getElem?_cons_succ]
  have hh := of_decide_eq_false h
  refine SW.seq ?_; refine SW.row ?_; simp only [go_sem, Nat.reduceAdd, Nat.reduceEqDiff, Nat.reduceLeDiff, Nat.reduceMul, reduceIte, Nat.zero_ne_one, Nat.one_ne_zero, Nat.zero_add, Nat.add_zero, List.map_cons, List.map_nil, List.length_cons, List.length_nil, decide_true, decide_false, Bool.not_true, Bool.not_false, true_and, and_true, ne_eq, not_true_eq_false, not_false_eq_true, forall_const, List.getElem?_cons_zero, List.getElem?_cons_succ]
  refine SW.ret ?_; (try simp only [go_sem]); refine FunPost.one (GR.of ?_); (try simp only [go_sem, Nat.reduceAdd, Nat.reduceEqDiff, Nat.reduceLeDiff, Nat.reduceMul, reduceIte, Nat.zero_ne_one, Nat.one_ne_zero, Nat.zero_add, Nat.add_zero, List.map_cons, List.map_nil, List.length_cons, List.length_nil, decide_true, decide_false, Bool.not_true, Bool.not_false, true_and, and_true, ne_eq, not_true_eq_false, not_false_eq_true, forall_const, List.getElem?_cons_zero, List.getElem?_cons_succ])
  exact ⟨_, rfl, by omega, by omega, fun _ => rfl⟩
theorem szGraph_ok (H : List Blk) (cols : List Int) (es : List (Int × Int)) (left : Int) (h0 : -1 ≤ left) (h1 : left ≤ 4611686018427387904) :
    ACalls Try.prog f_laws_szGraph [.agg [ilS cols, ilE es], I left] H (fun r H' => (∃ z : Int, r = I z ∧ -1 ≤ z ∧ z ≤ left ∧ (0 ≤ z → z = left - cols.length - es.length)) ∧ H' = H) := by
  refine ACalls.introB s_laws_szGraph (by simp) ?_; intro hB hA; unfold c_laws_szGraph; simp (config := { maxSteps := 1000000 }) (disch := (first | omega | (simp only [go_sem]; try omega))) only [go_sem, Nat.reduceAdd, Nat.reduceEqDiff, Nat.reduceLeDiff, Nat.reduceMul, Nat.reduceLT, reduceIte, Int.reduceToNat, w64_id, cast_succ]
  repeat (first | (with_reducible first | refine SW.seq ?_ | refine SW.block ?_ | refine SW.rowC ?_ | refine SW.skip ?_ | refine SW.exit ?_ | intro _ | refine And.intro (by omega) ?_) | simp (config := { maxSteps := 1000000 }) (disch := (first | omega | (simp only [go_sem]; try omega))) only [go_sem, Nat.reduceAdd, Nat.reduceEqDiff, Nat.reduceLeDiff, Nat.reduceMul, Nat.reduceLT, reduceIte, Int.reduceToNat, w64_id, cast_succ])
  refine (szInt64S_ok _ _ cols left (rd_ilS _ _) h0 h1).mono ?_
  rintro r H' ⟨⟨z, rfl, g1, g2, g3⟩, rfl⟩
  repeat (first | (with_reducible first | refine SW.seq ?_ | refine SW.block ?_ | refine SW.rowC ?_ | refine SW.skip ?_ | refine SW.exit ?_ | intro _ | refine And.intro (by omega) ?_) | simp (config := { maxSteps := 1000000 }) (disch := (first | omega | (simp only [go_sem]; try omega))) only [go_sem, Nat.reduceAdd, Nat.reduceEqDiff, Nat.reduceLeDiff, Nat.reduceMul, Nat.reduceLT, reduceIte, Int.reduceToNat, w64_id, cast_succ])
  by_cases hz : z < 0
  · have d1 : decide (z < 0) = true := decide_eq_true hz
    repeat (first | (with_reducible first | refine SW.seq ?_ | refine SW.block ?_ | refine SW.rowC ?_ | refine SW.skip ?_ | refine SW.exit ?_ | intro _ | refine And.intro (by omega) ?_) | simp (config := { maxSteps := 1000000 }) (disch := (first | omega | (simp only [go_sem]; try omega))) only [go_sem, Nat.reduceAdd, Nat.reduceEqDiff, Nat.reduceLeDiff, Nat.reduceMul, Nat.reduceLT, reduceIte, Int.reduceToNat, w64_id, cast_succ, d1])
    refine SW.condT rfl ?_
    repeat (first | (with_reducible first | refine SW.seq ?_ | refine SW.block ?_ | refine SW.rowC ?_ | refine SW.skip ?_ | refine SW.exit ?_ | intro _ | refine And.intro (by omega) ?_) | simp (config := { maxSteps := 1000000 }) (disch := (first | omega | (simp only [go_sem]; try omega))) only [go_sem, Nat.reduceAdd, Nat.reduceEqDiff, Nat.reduceLeDiff, Nat.reduceMul, Nat.reduceLT, reduceIte, Int.reduceToNat, w64_id, cast_succ])
    refine SW.ret ?_; (try simp only [go_sem]); (first | refine FunPost.one ?_ | refine FunPost.two ?_ | refine FunPost.three ?_); (try simp (config := { maxSteps := 1000000 }) (disch := (first | omega | (simp only [go_sem]; try omega))) only [go_sem, Nat.reduceAdd, Nat.reduceEqDiff, Nat.reduceLeDiff, Nat.reduceMul, Nat.reduceLT, reduceIte, Int.reduceToNat, w64_id, cast_succ])
    exact GR.froz (froz_I' _) ⟨⟨-1, rfl, by omega, by omega, fun h => by omega⟩, rfl⟩
  · have d1 : decide (z < 0) = false := decide_eq_false hz
    have g4 := g3 (by omega)
    repeat (first | (with_reducible first | refine SW.seq ?_ | refine SW.block ?_ | refine SW.rowC ?_ | refine SW.skip ?_ | refine SW.exit ?_ | intro _ | refine And.intro (by omega) ?_) | simp (config := { maxSteps := 1000000 }) (disch := (first | omega | (simp only [go_sem]; try omega))) only [go_sem, Nat.reduceAdd, Nat.reduceEqDiff, Nat.reduceLeDiff, Nat.reduceMul, Nat.reduceLT, reduceIte, Int.reduceToNat, w64_id, cast_succ, d1])
    refine SW.condF rfl ?_
    repeat (first | (with_reducible first | refine SW.seq ?_ | refine SW.block ?_ | refine SW.rowC ?_ | refine SW.skip ?_ | refine SW.exit ?_ | intro _ | refine And.intro (by omega) ?_) | simp (config := { maxSteps := 1000000 }) (disch := (first | omega | (simp only [go_sem]; try omega))) only [go_sem, Nat.reduceAdd, Nat.reduceEqDiff, Nat.reduceLeDiff, Nat.reduceMul, Nat.reduceLT, reduceIte, Int.reduceToNat, w64_id, cast_succ])
    refine (szEdgeS_ok _ _ es z (rd_ilE _ _) g1 (by omega)).mono ?_
    rintro r H' ⟨⟨y, rfl, k1, k2, k3⟩, rfl⟩
    repeat (first | (with_reducible first | refine SW.seq ?_ | refine SW.block ?_ | refine SW.rowC ?_ | refine SW.skip ?_ | refine SW.exit ?_ | intro _ | refine And.intro (by omega) ?_) | simp (config := { maxSteps := 1000000 }) (disch := (first | omega | (simp only [go_sem]; try omega))) only [go_sem, Nat.reduceAdd, Nat.reduceEqDiff, Nat.reduceLeDiff, Nat.reduceMul, Nat.reduceLT, reduceIte, Int.reduceToNat, w64_id, cast_succ])
    by_cases hy : y < 0
    · have d2 : decide (y < 0) = true := decide_eq_true hy
      repeat (first | (with_reducible first | refine SW.seq ?_ | refine SW.block ?_ | refine SW.rowC ?_ | refine SW.skip ?_ | refine SW.exit ?_ | intro _ | refine And.intro (by omega) ?_) | simp (config := { maxSteps := 1000000 }) (disch := (first | omega | (simp only [go_sem]; try omega))) only [go_sem, Nat.reduceAdd, Nat.reduceEqDiff, Nat.reduceLeDiff, Nat.reduceMul, Nat.reduceLT, reduceIte, Int.reduceToNat, w64_id, cast_succ, d2])
      refine SW.condT rfl ?_
      repeat (first | (with_reducible first | refine SW.seq ?_ | refine SW.block ?_ | refine SW.rowC ?_ | refine SW.skip ?_ | refine SW.exit ?_ | intro _ | refine And.intro (by omega) ?_) | simp (config := { maxSteps := 1000000 }) (disch := (first | omega | (simp only [go_sem]; try omega))) only [go_sem, Nat.reduceAdd, Nat.reduceEqDiff, Nat.reduceLeDiff, Nat.reduceMul, Nat.reduceLT, reduceIte, Int.reduceToNat, w64_id, cast_succ])
      refine SW.ret ?_; (try simp only [go_sem]); (first | refine FunPost.one ?_ | refine FunPost.two ?_ | refine FunPost.three ?_); (try simp (config := { maxSteps := 1000000 }) (disch := (first | omega | (simp only [go_sem]; try omega))) only [go_sem, Nat.reduceAdd, Nat.reduceEqDiff, Nat.reduceLeDiff, Nat.reduceMul, Nat.reduceLT, reduceIte, Int.reduceToNat, w64_id, cast_succ])
      exact GR.froz (froz_I' _) ⟨⟨-1, rfl, by omega, by omega, fun h => by omega⟩, rfl⟩
    · have d2 : decide (y < 0) = false := decide_eq_false hy
      have k4 := k3 (by omega)
      repeat (first | (with_reducible first | refine SW.seq ?_ | refine SW.block ?_ | refine SW.rowC ?_ | refine SW.skip ?_ | refine SW.exit ?_ | intro _ | refine And.intro (by omega) ?_) | simp (config := { maxSteps := 1000000 }) (disch := (first | omega | (simp only [go_sem]; try omega))) only [go_sem, Nat.reduceAdd, Nat.reduceEqDiff, Nat.reduceLeDiff, Nat.reduceMul, Nat.reduceLT, reduceIte, Int.reduceToNat, w64_id, cast_succ, d2])
      refine SW.condF rfl ?_
      repeat (first | (with_reducible first | refine SW.seq ?_ | refine SW.block ?_ | refine SW.rowC ?_ | refine SW.skip ?_ | refine SW.exit ?_ | intro _ | refine And.intro (by omega) ?_) | simp (config := { maxSteps := 1000000 }) (disch := (first | omega | (simp only [go_sem]; try omega))) only [go_sem, Nat.reduceAdd, Nat.reduceEqDiff, Nat.reduceLeDiff, Nat.reduceMul, Nat.reduceLT, reduceIte, Int.reduceToNat, w64_id, cast_succ])
      refine SW.ret ?_; (try simp only [go_sem]); (first | refine FunPost.one ?_ | refine FunPost.two ?_ | refine FunPost.three ?_); (try simp (config := { maxSteps := 1000000 }) (disch := (first | omega | (simp only [go_sem]; try omega))) only [go_sem, Nat.reduceAdd, Nat.reduceEqDiff, Nat.reduceLeDiff, Nat.reduceMul, Nat.reduceLT, reduceIte, Int.reduceToNat, w64_id, cast_succ])
      exact GR.froz (froz_I' _) ⟨⟨_, rfl, by omega, by omega, fun _ => by omega⟩, rfl⟩
theorem toEdge_fn (x y : Int) : PFn Try.prog f_laws_toEdge [.agg [I x, I y]] (.agg [I x, I y]) := by
  intro H
  refine ACalls.introB s_laws_toEdge (by simp) ?_; intro hB hA; unfold c_laws_toEdge; simp (config := { maxSteps := 1000000 }) (disch := (first | omega | (simp only [go_sem]; try omega))) only [go_sem, Nat.reduceAdd, Nat.reduceEqDiff, Nat.reduceLeDiff, Nat.reduceMul, Nat.reduceLT, reduceIte, Int.reduceToNat, w64_id, cast_succ]
  repeat (first | (with_reducible first | refine SW.seq ?_ | refine SW.block ?_ | refine SW.rowC ?_ | refine SW.skip ?_ | refine SW.exit ?_ | intro _ | refine And.intro (by omega) ?_) | simp (config := { maxSteps := 1000000 }) (disch := (first | omega | (simp only [go_sem]; try omega))) only [go_sem, Nat.reduceAdd, Nat.reduceEqDiff, Nat.reduceLeDiff, Nat.reduceMul, Nat.reduceLT, reduceIte, Int.reduceToNat, w64_id, cast_succ])
  refine SW.ret (FunPost.cell (cs := [I x, I y]) (by simp [go_sem, acells]) (GR.froz (froz_agg2 (froz_I' _) (froz_I' _)) ⟨rfl, rfl⟩))
theorem zerosE (n : Nat) : ((List.range (n * 2)).map fun q => AV.lit ([Value.int .i64 0, Value.int .i64 0].getD (q % 2) undef)) = flatE (List.replicate n (0, 0)) := by
  have h1 : ((List.range (n * 2)).map fun q => AV.lit ([Value.int .i64 0, Value.int .i64 0].getD (q % 2) undef)) = List.replicate (n * 2) (I 0) := by
    refine List.eq_replicate_iff.2 ⟨by simp, fun b hb => ?_⟩
    obtain ⟨q, _, rfl⟩ := List.mem_map.1 hb
    rcases Nat.mod_two_eq_zero_or_one q with h | h <;> rw [h] <;> rfl
  have h2 : flatE (List.replicate n (0, 0)) = List.replicate (n * 2) (I 0) := by
    refine List.eq_replicate_iff.2 ⟨by rw [flatE_length]; simp, fun b hb => ?_⟩
    unfold flatE at hb
    obtain ⟨e, he, hb⟩ := List.mem_flatMap.1 hb
    rw [List.eq_of_mem_replicate he] at hb
    simpa using hb
  rw [h1, h2]
theorem store2 {X : List Blk} {r ver ty n j : Nat} {es : List (Int × Int)} (hX : X[r]? = some ⟨ver, ty, 2, flatE es⟩) (hj : j < es.length) (x y : Int) : astore X [I x, I y] (.el (.nm r ver 0 n) (j * 2)) = some (X.set r ⟨ver, ty, 2, flatE (es.set j (x, y))⟩) := by
  have hl := flatE_length es
  simp only [astore, hX, Nat.zero_add, List.length_cons, List.length_nil, true_and]
  rw [if_pos (by omega), ← flatE_set es j x y hj]
  rfl
def mixE (es : List (Int × Int)) (i : Nat) : List (Int × Int) := (List.range es.length).map fun (j : Nat) => if j < i then es.getD j (0, 0) else (0, 0)
theorem mixE_len (es : List (Int × Int)) (i : Nat) : (mixE es i).length = es.length := by simp [mixE]
theorem mixE_zero (es : List (Int × Int)) : mixE es 0 = List.replicate es.length (0, 0) := by unfold mixE; simp [List.map_const']
theorem mixE_get (es : List (Int × Int)) (i : Nat) {j : Nat} (hj : j < es.length) : (mixE es i)[j]? = some (if j < i then es.getD j (0, 0) else (0, 0)) := by
  unfold mixE
  rw [List.getElem?_map, List.getElem?_range hj]
  rfl
theorem mixE_all (es : List (Int × Int)) : mixE es es.length = es := by
  refine List.ext_getElem? fun j => ?_
  by_cases hj : j < es.length
  · rw [mixE_get es _ hj, if_pos hj, getD_get hj]
    exact (List.getElem?_eq_getElem hj).symm
  · rw [List.getElem?_eq_none (by rw [mixE_len]; omega), List.getElem?_eq_none (by omega)]
theorem mixE_set {es : List (Int × Int)} {i : Nat} (h : i < es.length) : (mixE es i).set i (es.getD i (0, 0)) = mixE es (i + 1) := by
  refine List.ext_getElem? fun j => ?_
  by_cases hj : j < es.length
  · rw [mixE_get es _ hj, List.getElem?_set, mixE_len]
    by_cases e : i = j
    · subst e
      rw [if_pos rfl, if_pos hj, if_pos (by omega)]
    · rw [if_neg e, mixE_get es _ hj]
      by_cases h2 : j < i
      · rw [if_pos h2, if_pos (by omega)]
      · rw [if_neg h2, if_neg (by omega)]
  · rw [List.getElem?_eq_none (by rw [List.length_set, mixE_len]; omega), List.getElem?_eq_none (by rw [mixE_len]; omega)]
theorem toEdgeS_ok (H : List Blk) (c : AV) (es : List (Int × Int)) (hc : RdE H c es) (hl : es.length ≤ 1073741824) :
    ACalls Try.prog f_laws_toEdgeS [c] H (fun r H' => r = .nm H.length 0 0 es.length ∧ H' = H ++ [⟨0, tyE, 2, flatE es⟩]) := by
  have hv0 : aview H c = some (es.length, flatE es) := hc
  have hv : ∀ ext, aview (H ++ ext) c = some (es.length, flatE es) := fun ext => hc.append ext
  refine ACalls.introB s_laws_toEdgeS (by simp) ?_; intro hB hA; unfold c_laws_toEdgeS; simp (config := { maxSteps := 1000000 }) (disch := (first | omega | (simp only [go_sem]; try omega))) only [go_sem, Nat.reduceAdd, Nat.reduceEqDiff, Nat.reduceLeDiff, Nat.reduceMul, Nat.reduceLT, reduceIte, Int.reduceToNat, w64_id, cast_succ]
  repeat (first | (with_reducible first | refine SW.seq ?_ | refine SW.block ?_ | refine SW.rowC ?_ | refine SW.skip ?_ | refine SW.exit ?_ | intro _ | refine And.intro (by omega) ?_) | simp (config := { maxSteps := 1000000 }) (disch := (first | omega | (simp only [go_sem]; try omega))) only [go_sem, Nat.reduceAdd, Nat.reduceEqDiff, Nat.reduceLeDiff, Nat.reduceMul, Nat.reduceLT, reduceIte, Int.reduceToNat, w64_id, cast_succ, hv0])
  have hzz := zerosE es.length
  rw [hzz, ← mixE_zero]
  refine SW.loopE (fun E0 H0 m E' X => ∃ (i : Nat), i ≤ es.length ∧ m = es.length - i ∧ E' = aput E0 4 (I i) ∧ X = H ++ [⟨0, tyE, 2, flatE (mixE es i)⟩]) es.length
    ⟨0, by omega, by omega, rfl, rfl⟩ ?_
  rintro m E' X ⟨i, hi, rfl, rfl, rfl⟩
  simp (config := { maxSteps := 1000000 }) (disch := (first | omega | (simp only [go_sem]; try omega))) only [go_sem, Nat.reduceAdd, Nat.reduceEqDiff, Nat.reduceLeDiff, Nat.reduceMul, Nat.reduceLT, reduceIte, Int.reduceToNat, w64_id, cast_succ]
  repeat (first | (with_reducible first | refine SW.seq ?_ | refine SW.block ?_ | refine SW.rowC ?_ | refine SW.skip ?_ | refine SW.exit ?_ | intro _ | refine And.intro (by omega) ?_) | simp (config := { maxSteps := 1000000 }) (disch := (first | omega | (simp only [go_sem]; try omega))) only [go_sem, Nat.reduceAdd, Nat.reduceEqDiff, Nat.reduceLeDiff, Nat.reduceMul, Nat.reduceLT, reduceIte, Int.reduceToNat, w64_id, cast_succ, hv])
  (first | refine SW.condD rfl (fun h2 => ?_) (fun h2 => ?_) | refine SW.condN rfl (fun h2 => ?_) (fun h2 => ?_) | refine SW.condNB rfl (fun h2 => ?_) (fun h2 => ?_) | refine SW.condB rfl (fun h2 => ?_) (fun h2 => ?_))
  · have hin : i < es.length := by omega
    have l1 : ∀ ext, acells (H ++ ext) 2 (.el c (i * 2)) = some [I (es.getD i (0, 0)).1, I (es.getD i (0, 0)).2] := fun ext => (hc.append ext).ld (j := i) hin
    have hte := toEdge_fn (es.getD i (0, 0)).1 (es.getD i (0, 0)).2
    have hb0 : (H ++ [(⟨0, tyE, 2, flatE (mixE es i)⟩ : Blk)])[H.length]? = some ⟨0, tyE, 2, flatE (mixE es i)⟩ := by rw [List.getElem?_append_right (Nat.le_refl _), Nat.sub_self]; rfl
    have hst := store2 (n := es.length) hb0 (j := i) (by rw [mixE_len]; exact hin) (es.getD i (0, 0)).1 (es.getD i (0, 0)).2
    rw [show ((es.getD i (0, 0)).1, (es.getD i (0, 0)).2) = es.getD i (0, 0) from rfl, mixE_set hin, List.set_append_right _ _ (Nat.le_refl _), Nat.sub_self] at hst
    change _ = some (H ++ [⟨0, tyE, 2, flatE (mixE es (i + 1))⟩]) at hst
    have hvr : aview (H ++ [⟨0, tyE, 2, flatE (mixE es i)⟩]) (.nm H.length 0 0 es.length) = some (es.length, flatE (mixE es i)) := by
      have := rd_nmE hb0
      unfold RdE at this
      rwa [mixE_len] at this
    repeat (first | (with_reducible first | refine SW.seq ?_ | refine SW.block ?_ | refine SW.rowC ?_ | refine SW.skip ?_ | refine SW.exit ?_ | refine PFn.use (hte) ?_ | refine PFn.useq (hte) ?_ | intro _ | refine And.intro (by omega) ?_) | simp (config := { maxSteps := 1000000 }) (disch := (first | omega | (simp only [go_sem]; try omega))) only [go_sem, Nat.reduceAdd, Nat.reduceEqDiff, Nat.reduceLeDiff, Nat.reduceMul, Nat.reduceLT, reduceIte, Int.reduceToNat, w64_id, cast_succ, hv, l1, hvr, hst])
    exact SLoop.next (es.length - (i + 1)) (by omega) ⟨i + 1, by omega, rfl, by simp [go_sem], rfl⟩
  · have : i = es.length := by omega
    subst this
    rw [mixE_all]
    repeat (first | (with_reducible first | refine SW.seq ?_ | refine SW.block ?_ | refine SW.rowC ?_ | refine SW.skip ?_ | refine SW.exit ?_ | intro _ | refine And.intro (by omega) ?_) | simp (config := { maxSteps := 1000000 }) (disch := (first | omega | (simp only [go_sem]; try omega))) only [go_sem, Nat.reduceAdd, Nat.reduceEqDiff, Nat.reduceLeDiff, Nat.reduceMul, Nat.reduceLT, reduceIte, Int.reduceToNat, w64_id, cast_succ])
    refine SW.ret ?_; (try simp only [go_sem]); (first | refine FunPost.one ?_ | refine FunPost.two ?_ | refine FunPost.three ?_); (try simp (config := { maxSteps := 1000000 }) (disch := (first | omega | (simp only [go_sem]; try omega))) only [go_sem, Nat.reduceAdd, Nat.reduceEqDiff, Nat.reduceLeDiff, Nat.reduceMul, Nat.reduceLT, reduceIte, Int.reduceToNat, w64_id, cast_succ])
    exact GR.of ⟨rfl, rfl⟩
theorem toGraph_fn (cols : List Int) (es : List (Int × Int)) (hl1 : cols.length ≤ 1073741824) (hl : es.length ≤ 1073741824) : PFn Try.prog f_laws_toGraph [.agg [ilS cols, ilE es]] (.agg [ilS cols, ilE es]) := by
  intro H
  refine ACalls.introB s_laws_toGraph (by simp) ?_; intro hB hA; unfold c_laws_toGraph; simp (config := { maxSteps := 1000000 }) (disch := (first | omega | (simp only [go_sem]; try omega))) only [go_sem, Nat.reduceAdd, Nat.reduceEqDiff, Nat.reduceLeDiff, Nat.reduceMul, Nat.reduceLT, reduceIte, Int.reduceToNat, w64_id, cast_succ]
  repeat (first | (with_reducible first | refine SW.seq ?_ | refine SW.block ?_ | refine SW.rowC ?_ | refine SW.skip ?_ | refine SW.exit ?_ | intro _ | refine And.intro (by omega) ?_) | simp (config := { maxSteps := 1000000 }) (disch := (first | omega | (simp only [go_sem]; try omega))) only [go_sem, Nat.reduceAdd, Nat.reduceEqDiff, Nat.reduceLeDiff, Nat.reduceMul, Nat.reduceLT, reduceIte, Int.reduceToNat, w64_id, cast_succ])
  refine (toInt64S_ok _ _ cols (rd_ilS _ _) hl1).mono ?_
  rintro r X ⟨rfl, rfl⟩
  repeat (first | (with_reducible first | refine SW.seq ?_ | refine SW.block ?_ | refine SW.rowC ?_ | refine SW.skip ?_ | refine SW.exit ?_ | intro _ | refine And.intro (by omega) ?_) | simp (config := { maxSteps := 1000000 }) (disch := (first | omega | (simp only [go_sem]; try omega))) only [go_sem, Nat.reduceAdd, Nat.reduceEqDiff, Nat.reduceLeDiff, Nat.reduceMul, Nat.reduceLT, reduceIte, Int.reduceToNat, w64_id, cast_succ])
  refine (toEdgeS_ok _ _ es (rd_ilE _ _) hl).mono ?_
  rintro r X ⟨rfl, rfl⟩
  repeat (first | (with_reducible first | refine SW.seq ?_ | refine SW.block ?_ | refine SW.rowC ?_ | refine SW.skip ?_ | refine SW.exit ?_ | intro _ | refine And.intro (by omega) ?_) | simp (config := { maxSteps := 1000000 }) (disch := (first | omega | (simp only [go_sem]; try omega))) only [go_sem, Nat.reduceAdd, Nat.reduceEqDiff, Nat.reduceLeDiff, Nat.reduceMul, Nat.reduceLT, reduceIte, Int.reduceToNat, w64_id, cast_succ])
  refine SW.ret (FunPost.cell (cs := [.nm (H.length + 3) 0 0 cols.length, .nm (H.length + 4) 0 0 es.length]) (by simp [go_sem, acells]) (GR.froz (froz_agg2 (froz_rowI (ver := 0) (ty := 2) (by omega) (by simp)) (froz_edges (by omega) (ver := 0) (ty := tyE) (by simp))) ⟨rfl, rfl⟩))
end Go.Proofs.Ytmdeibdplpodpaa
