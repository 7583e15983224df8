/- SquareCover: the reference. -/
import Derived.Test.YtnlfokkljgbaaaaProg
import Derived.KernelRfl
import Derived.Test.YtnlfokkljgbaaaazL1
import Derived.Test.YtnlfokkljgbaaaazAvC
set_option linter.unusedSimpArgs false
set_option linter.unusedVariables false
set_option maxHeartbeats 4000000
set_option maxRecDepth 100000
namespace Go.Proofs.Ytnlfokkljgbaaaa
open Go.Av
abbrev f_spec_l24Squares : Nat := 47
def c_spec_l24Squares : SC :=
 .seq (.reg [
     ⟨(some 2), .alloc 34 [(.int .i64 0), (.slice none 0 0)], none⟩] [0, 2])
 (.seq (.reg [
     ⟨(some 7), .mv (.tmp 0), none⟩,
     ⟨(some 8), .bin .mul (.const (.int .i64 3)) (.tmp 7), none⟩,
     ⟨(some 9), .mv (.tmp 0), none⟩,
     ⟨(some 10), .bin .mul (.tmp 8) (.tmp 9), none⟩,
     ⟨(some 11), .build [(.int .i64 0), (.slice none 0 0)] [(0, 1, (.tmp 10))], none⟩,
     ⟨(some 3), .alloc 34 [(.int .i64 0), (.slice none 0 0)], none⟩,
     ⟨none, .store 2 (.tmp 3) (.tmp 11), none⟩] [0, 2, 3])
 (.seq (.seq (.reg [
     ⟨(some 4), .mv (.const (.int .i64 0)), none⟩] [0, 2, 3, 4])
 (.block 0 (.loop [0, 2, 3, 4]
   (.seq (.seq (.reg [
       ⟨(some 12), .mv (.tmp 4), none⟩,
       ⟨(some 13), .mv (.tmp 0), none⟩,
       ⟨(some 14), .bin .lss (.tmp 12) (.tmp 13), none⟩] [0, 2, 3, 4, 14])
   (.cond (.tmp 14)
    (.skip)
    (.exit 0)))
   (.seq (.block 1 (.seq (.reg [
        ⟨(some 5), .mv (.const (.int .i64 0)), none⟩] [0, 2, 3, 4, 5])
    (.block 2 (.loop [0, 2, 3, 4, 5]
      (.seq (.seq (.reg [
          ⟨(some 17), .mv (.tmp 5), none⟩,
          ⟨(some 18), .mv (.tmp 0), none⟩,
          ⟨(some 19), .bin .lss (.tmp 17) (.tmp 18), none⟩] [0, 2, 3, 4, 5, 19])
      (.cond (.tmp 19)
       (.skip)
       (.exit 2)))
      (.seq (.block 3 (.seq (.reg [
           ⟨(some 6), .mv (.const (.int .i64 0)), none⟩] [0, 2, 3, 4, 5, 6])
       (.block 4 (.loop [0, 2, 3, 4, 5, 6]
         (.seq (.seq (.reg [
             ⟨(some 22), .mv (.tmp 6), none⟩,
             ⟨(some 23), .mv (.tmp 0), none⟩,
             ⟨(some 24), .bin .lss (.tmp 22) (.tmp 23), none⟩] [0, 2, 3, 4, 5, 6, 24])
         (.cond (.tmp 24)
          (.skip)
          (.exit 4)))
         (.seq (.block 5 (.reg [
              ⟨(some 27), .faddr 1 (.tmp 3), none⟩,
              ⟨(some 28), .load 1 false (.tmp 27), none⟩,
              ⟨(some 29), .mv (.tmp 4), none⟩,
              ⟨(some 30), .mv (.tmp 0), none⟩,
              ⟨(some 31), .bin .mul (.tmp 29) (.tmp 30), none⟩,
              ⟨(some 32), .mv (.tmp 5), none⟩,
              ⟨(some 33), .bin .add (.tmp 31) (.tmp 32), none⟩,
              ⟨(some 34), .mv (.tmp 0), none⟩,
              ⟨(some 35), .mv (.tmp 0), none⟩,
              ⟨(some 36), .bin .mul (.tmp 34) (.tmp 35), none⟩,
              ⟨(some 37), .mv (.tmp 4), none⟩,
              ⟨(some 38), .mv (.tmp 0), none⟩,
              ⟨(some 39), .bin .mul (.tmp 37) (.tmp 38), none⟩,
              ⟨(some 40), .bin .add (.tmp 36) (.tmp 39), none⟩,
              ⟨(some 41), .mv (.tmp 6), none⟩,
              ⟨(some 42), .bin .add (.tmp 40) (.tmp 41), none⟩,
              ⟨(some 43), .mv (.tmp 0), none⟩,
              ⟨(some 44), .bin .mul (.const (.int .i64 2)) (.tmp 43), none⟩,
              ⟨(some 45), .mv (.tmp 0), none⟩,
              ⟨(some 46), .bin .mul (.tmp 44) (.tmp 45), none⟩,
              ⟨(some 47), .mv (.tmp 5), none⟩,
              ⟨(some 48), .mv (.tmp 0), none⟩,
              ⟨(some 49), .bin .mul (.tmp 47) (.tmp 48), none⟩,
              ⟨(some 50), .bin .add (.tmp 46) (.tmp 49), none⟩,
              ⟨(some 51), .mv (.tmp 6), none⟩,
              ⟨(some 52), .bin .add (.tmp 50) (.tmp 51), none⟩,
              ⟨(some 53), .bslice 2 1 3 [(.int .i64 0), (.int .i64 0), (.int .i64 0)] [(0, (.tmp 33)), (1, (.tmp 42)), (2, (.tmp 52))], none⟩,
              ⟨(some 54), .bslice 29 1 1 [(.slice none 0 0)] [(0, (.tmp 53))], none⟩,
              ⟨(some 55), .app 29 1 24 (.tmp 28) (.tmp 54), none⟩,
              ⟨(some 56), .faddr 1 (.tmp 3), none⟩,
              ⟨none, .store 1 (.tmp 56) (.tmp 55), none⟩] [0, 2, 3, 4, 5, 6]))
         (.reg [
             ⟨(some 25), .mv (.tmp 6), none⟩,
             ⟨(some 26), .bin .add (.tmp 25) (.const (.int .i64 1)), none⟩,
             ⟨(some 6), .mv (.tmp 26), none⟩] [0, 2, 3, 4, 5, 6])))))))
      (.reg [
          ⟨(some 20), .mv (.tmp 5), none⟩,
          ⟨(some 21), .bin .add (.tmp 20) (.const (.int .i64 1)), none⟩,
          ⟨(some 5), .mv (.tmp 21), none⟩] [0, 2, 3, 4, 5])))))))
   (.reg [
       ⟨(some 15), .mv (.tmp 4), none⟩,
       ⟨(some 16), .bin .add (.tmp 15) (.const (.int .i64 1)), none⟩,
       ⟨(some 4), .mv (.tmp 16), none⟩] [0, 2, 3, 4]))))))
 (.seq (.reg [
     ⟨(some 57), .load 2 true (.tmp 3), none⟩,
     ⟨none, .store 2 (.tmp 2) (.tmp 57), none⟩] [2])
 (.ret))))
theorem s_spec_l24Squares : stripF Try.prog 47 [[0, 2], [0, 2, 3], [0, 2, 3, 4], [0, 2, 3, 4], [0, 2, 3, 4, 14], [0, 2, 3, 4, 5], [0, 2, 3, 4, 5], [0, 2, 3, 4, 5, 19], [0, 2, 3, 4, 5, 6], [0, 2, 3, 4, 5, 6], [0, 2, 3, 4, 5, 6, 24], [0, 2, 3, 4, 5, 6], [0, 2, 3, 4, 5, 6], [0, 2, 3, 4, 5], [0, 2, 3, 4], [2]] = some (c_spec_l24Squares, [.cell 2 2], 58) := by kernel_rfl
def sqS1 (n r k s : Int) : List Int := [w64 (w64 (r * n) + k), w64 (w64 (w64 (n * n) + w64 (r * n)) + s), w64 (w64 (w64 (w64 (2 * n) * n) + w64 (k * n)) + s)]
def sqSk (n : Nat) (r k : Nat) : List (List Int) := (List.range n).map fun (s : Nat) => sqS1 n r k s
def sqSr (n r k : Nat) : List (List Int) := (List.range k).flatMap (sqSk n r)
def sqS (n r : Nat) : List (List Int) := (List.range r).flatMap fun r => sqSr n r n
theorem sqSr_succ (n r k : Nat) : sqSr n r (k + 1) = sqSr n r k ++ sqSk n r k := by
  unfold sqSr; rw [List.range_succ, List.flatMap_append]; simp
theorem sqS_succ (n r : Nat) : sqS n (r + 1) = sqS n r ++ sqSr n r n := by
  unfold sqS; rw [List.range_succ, List.flatMap_append]; simp
theorem sqSr_len (n r k : Nat) : (sqSr n r k).length = k * n := by
  induction k with
  | zero => simp [sqSr]
  | succ c ih => rw [sqSr_succ, List.length_append, ih]; simp [sqSk, Nat.succ_mul]
theorem sqS_len (n r : Nat) : (sqS n r).length = r * (n * n) := by
  induction r with
  | zero => simp [sqS]
  | succ c ih => rw [sqS_succ, List.length_append, ih, sqSr_len]; simp [Nat.succ_mul]
theorem squares_ok (H : List Blk) (n : Nat) (h0 : 1 ≤ n ∧ n ≤ 4) : ACalls Try.prog f_spec_l24Squares [I n] H (fun r H' => r = .agg [I (w64 (w64 (3 * n) * n)), ilSS (sqS n n)] ∧ H' = H) := by
  refine ACalls.intro s_spec_l24Squares (by simp) ?_
  refine SW.seq ?_; refine SW.row ?_; simp only [go_sem, Nat.reduceAdd, Nat.reduceEqDiff, Nat.reduceLeDiff, Nat.reduceMul, reduceIte, Nat.zero_ne_one, Nat.one_ne_zero, Nat.zero_add, Nat.add_zero, List.map_cons, List.map_nil, List.length_cons, List.length_nil, decide_true, decide_false, Bool.not_true, Bool.not_false, true_and, and_true, ne_eq, not_true_eq_false, not_false_eq_true, forall_const, List.getElem?_cons_zero, List.getElem?_cons_succ]
  refine SW.seq ?_; refine SW.row ?_; simp only [go_sem, Nat.reduceAdd, Nat.reduceEqDiff, Nat.reduceLeDiff, Nat.reduceMul, reduceIte, Nat.zero_ne_one, Nat.one_ne_zero, Nat.zero_add, Nat.add_zero, List.map_cons, List.map_nil, List.length_cons, List.length_nil, decide_true, decide_false, Bool.not_true, Bool.not_false, true_and, and_true, ne_eq, not_true_eq_false, not_false_eq_true, forall_const, List.getElem?_cons_zero, List.getElem?_cons_succ, List.all_nil, List.all_cons, List.length_set, List.append_assoc, List.cons_append, List.nil_append, List.length_append, List.length_set, List.set_cons_zero, List.set_cons_succ, acell1_own, acell1_own0, alive_own, alive_own0, acells_own, acells_own0, astore_own, astore_own0, aview_own, aview_own0, PcL_some, PcV_some, PcG_some, PcS_some, NmV_some, setMany_nil, setMany_cons, partsOf_agg, cell1_nm, cell1_nil, cell1_il, cell1_Bv, cell1_pc, partsOf_nm, partsOf_il, partsOf_nil, partsOf_Bv, afill_nil, afill_cons, List.drop_zero, List.drop_succ_cons, List.take_succ_cons, List.take_zero, List.take_nil, and_self, Nat.le_refl]
  refine SW.seq ?_; refine SW.seq ?_; refine SW.row ?_; simp only [go_sem, Nat.reduceAdd, Nat.reduceEqDiff, Nat.reduceLeDiff, Nat.reduceMul, reduceIte, Nat.zero_ne_one, Nat.one_ne_zero, Nat.zero_add, Nat.add_zero, List.map_cons, List.map_nil, List.length_cons, List.length_nil, decide_true, decide_false, Bool.not_true, Bool.not_false, true_and, and_true, ne_eq, not_true_eq_false, not_false_eq_true, forall_const, List.getElem?_cons_zero, List.getElem?_cons_succ]
  generalize hit : w64 (w64 (3 * (n : Int)) * n) = items
  refine SW.block ?_
  refine SW.loop (fun q E H' => ∃ r : Nat, r ≤ n ∧ q = n - r ∧ E = [(0, I n), (2, .pc H.length 0 0), (3, .pc (H.length + 1) 0 0), (4, I r)] ∧
    Bx (H ++ [⟨0, tyCover, 1, [I 0, nilS]⟩]) (H.length + 1) (I items) (sqS n r) H') n ⟨0, by omega, by omega, rfl, nilS, by simp [hit], .inl ⟨rfl, rfl⟩, by simp, fun j hj => ?_⟩ ?_
  · rw [show H ++ [⟨0, tyCover, 1, [I 0, nilS]⟩, ⟨0, tyCover, 1, [I items, nilS]⟩] = (H ++ [⟨0, tyCover, 1, [I 0, nilS]⟩]) ++ [(⟨0, tyCover, 1, [I items, nilS]⟩ : Blk)] by simp]
    rw [List.getElem?_append_left (by simp; omega)]
  rintro q E H1 ⟨r, hr, rfl, rfl, v, b1, b2, b3, b4⟩
  refine SW.seq ?_; refine SW.seq ?_; refine SW.row ?_; simp only [go_sem, Nat.reduceAdd, Nat.reduceEqDiff, Nat.reduceLeDiff, Nat.reduceMul, reduceIte, Nat.zero_ne_one, Nat.one_ne_zero, Nat.zero_add, Nat.add_zero, List.map_cons, List.map_nil, List.length_cons, List.length_nil, decide_true, decide_false, Bool.not_true, Bool.not_false, true_and, and_true, ne_eq, not_true_eq_false, not_false_eq_true, forall_const, List.getElem?_cons_zero, List.getElem?_cons_succ]; (first | refine SW.cond rfl (fun h => ?_) (fun h => ?_) | (intro _; refine SW.cond rfl (fun h => ?_) (fun h => ?_)) | (intro _ _; refine SW.cond rfl (fun h => ?_) (fun h => ?_)))
  · have hx : r < n := by have := of_decide_eq_true h; omega
    refine SW.skip ?_; simp only [go_sem, Nat.reduceAdd, Nat.reduceEqDiff, Nat.reduceLeDiff, Nat.reduceMul, reduceIte, Nat.zero_ne_one, Nat.one_ne_zero, Nat.zero_add, Nat.add_zero, List.map_cons, List.map_nil, List.length_cons, List.length_nil, decide_true, decide_false, Bool.not_true, Bool.not_false, true_and, and_true, ne_eq, not_true_eq_false, not_false_eq_true, forall_const, List.getElem?_cons_zero, List.getElem?_cons_succ]
    refine SW.seq ?_; refine SW.block ?_; refine SW.seq ?_; refine SW.row ?_; simp only [go_sem, Nat.reduceAdd, Nat.reduceEqDiff, Nat.reduceLeDiff, Nat.reduceMul, reduceIte, Nat.zero_ne_one, Nat.one_ne_zero, Nat.zero_add, Nat.add_zero, List.map_cons, List.map_nil, List.length_cons, List.length_nil, decide_true, decide_false, Bool.not_true, Bool.not_false, true_and, and_true, ne_eq, not_true_eq_false, not_false_eq_true, forall_const, List.getElem?_cons_zero, List.getElem?_cons_succ]
    refine SW.block ?_
    refine SW.loop (fun q E H' => ∃ k : Nat, k ≤ n ∧ q = n - k ∧ E = [(0, I n), (2, .pc H.length 0 0), (3, .pc (H.length + 1) 0 0), (4, I r), (5, I k)] ∧
      Bx (H ++ [⟨0, tyCover, 1, [I 0, nilS]⟩]) (H.length + 1) (I items) (sqS n r ++ sqSr n r k) H') n ⟨0, by omega, by omega, rfl, v, b1, by simpa [sqSr] using b2, b3, b4⟩ ?_
    rintro q E H2 ⟨k, hk, rfl, rfl, v2, c1, c2, c3, c4⟩
    refine SW.seq ?_; refine SW.seq ?_; refine SW.row ?_; simp only [go_sem, Nat.reduceAdd, Nat.reduceEqDiff, Nat.reduceLeDiff, Nat.reduceMul, reduceIte, Nat.zero_ne_one, Nat.one_ne_zero, Nat.zero_add, Nat.add_zero, List.map_cons, List.map_nil, List.length_cons, List.length_nil, decide_true, decide_false, Bool.not_true, Bool.not_false, true_and, and_true, ne_eq, not_true_eq_false, not_false_eq_true, forall_const, List.getElem?_cons_zero, List.getElem?_cons_succ]; (first | refine SW.cond rfl (fun h => ?_) (fun h => ?_) | (intro _; refine SW.cond rfl (fun h => ?_) (fun h => ?_)) | (intro _ _; refine SW.cond rfl (fun h => ?_) (fun h => ?_)))
    · have hy : k < n := by have := of_decide_eq_true h; omega
      refine SW.skip ?_; simp only [go_sem, Nat.reduceAdd, Nat.reduceEqDiff, Nat.reduceLeDiff, Nat.reduceMul, reduceIte, Nat.zero_ne_one, Nat.one_ne_zero, Nat.zero_add, Nat.add_zero, List.map_cons, List.map_nil, List.length_cons, List.length_nil, decide_true, decide_false, Bool.not_true, Bool.not_false, true_and, and_true, ne_eq, not_true_eq_false, not_false_eq_true, forall_const, List.getElem?_cons_zero, List.getElem?_cons_succ]
      refine SW.seq ?_; refine SW.block ?_; refine SW.seq ?_; refine SW.row ?_; simp only [go_sem, Nat.reduceAdd, Nat.reduceEqDiff, Nat.reduceLeDiff, Nat.reduceMul, reduceIte, Nat.zero_ne_one, Nat.one_ne_zero, Nat.zero_add, Nat.add_zero, List.map_cons, List.map_nil, List.length_cons, List.length_nil, decide_true, decide_false, Bool.not_true, Bool.not_false, true_and, and_true, ne_eq, not_true_eq_false, not_false_eq_true, forall_const, List.getElem?_cons_zero, List.getElem?_cons_succ]
      refine SW.block ?_
      refine SW.loop (fun q E H' => ∃ s : Nat, s ≤ n ∧ q = n - s ∧ E = [(0, I n), (2, .pc H.length 0 0), (3, .pc (H.length + 1) 0 0), (4, I r), (5, I k), (6, I s)] ∧
        Bx (H ++ [⟨0, tyCover, 1, [I 0, nilS]⟩]) (H.length + 1) (I items) ((sqS n r ++ sqSr n r k) ++ (List.range s).map fun (s : Nat) => sqS1 n r k s) H') n ⟨0, by omega, by omega, rfl, v2, c1, by simpa using c2, c3, c4⟩ ?_
      rintro q E H2 ⟨s, hs, rfl, rfl, v2, c1, c2, c3, c4⟩
      refine SW.seq ?_; refine SW.seq ?_; refine SW.row ?_; simp only [go_sem, Nat.reduceAdd, Nat.reduceEqDiff, Nat.reduceLeDiff, Nat.reduceMul, reduceIte, Nat.zero_ne_one, Nat.one_ne_zero, Nat.zero_add, Nat.add_zero, List.map_cons, List.map_nil, List.length_cons, List.length_nil, decide_true, decide_false, Bool.not_true, Bool.not_false, true_and, and_true, ne_eq, not_true_eq_false, not_false_eq_true, forall_const, List.getElem?_cons_zero, List.getElem?_cons_succ]; (first | refine SW.cond rfl (fun h => ?_) (fun h => ?_) | (intro _; refine SW.cond rfl (fun h => ?_) (fun h => ?_)) | (intro _ _; refine SW.cond rfl (fun h => ?_) (fun h => ?_)))
      · have hz : s < n := by have := of_decide_eq_true h; omega
        refine SW.skip ?_; simp only [go_sem, Nat.reduceAdd, Nat.reduceEqDiff, Nat.reduceLeDiff, Nat.reduceMul, reduceIte, Nat.zero_ne_one, Nat.one_ne_zero, Nat.zero_add, Nat.add_zero, List.map_cons, List.map_nil, List.length_cons, List.length_nil, decide_true, decide_false, Bool.not_true, Bool.not_false, true_and, and_true, ne_eq, not_true_eq_false, not_false_eq_true, forall_const, List.getElem?_cons_zero, List.getElem?_cons_succ]
        refine SW.seq ?_; refine SW.block ?_; refine SW.row ?_; simp only [go_sem, Nat.reduceAdd, Nat.reduceEqDiff, Nat.reduceLeDiff, Nat.reduceMul, reduceIte, Nat.zero_ne_one, Nat.one_ne_zero, Nat.zero_add, Nat.add_zero, List.map_cons, List.map_nil, List.length_cons, List.length_nil, decide_true, decide_false, Bool.not_true, Bool.not_false, true_and, and_true, ne_eq, not_true_eq_false, not_false_eq_true, forall_const, List.getElem?_cons_zero, List.getElem?_cons_succ, List.all_nil, List.all_cons, List.length_set, List.append_assoc, List.cons_append, List.nil_append, List.length_append, List.length_set, List.set_cons_zero, List.set_cons_succ, acell1_own, acell1_own0, alive_own, alive_own0, acells_own, acells_own0, astore_own, astore_own0, aview_own, aview_own0, PcL_some, PcV_some, PcG_some, PcS_some, NmV_some, setMany_nil, setMany_cons, partsOf_agg, cell1_nm, cell1_nil, cell1_il, cell1_Bv, cell1_pc, partsOf_nm, partsOf_il, partsOf_nil, partsOf_Bv, afill_nil, afill_cons, List.drop_zero, List.drop_succ_cons, List.take_succ_cons, List.take_zero, List.take_nil, and_self, Nat.le_refl, pc_alive c1, pc_ld c1]
        refine GrowSS.app (xs := sqS1 n r k s) c2 c3 ?_ ?_
        · have g1 : r * (n * n) ≤ 4 * (4 * 4) := Nat.mul_le_mul (by omega) (Nat.mul_le_mul h0.2 h0.2)
          have g2 : k * n ≤ 4 * 4 := Nat.mul_le_mul (by omega) h0.2
          rw [List.length_append, List.length_append, sqS_len, sqSr_len, List.length_map, List.length_range]; omega
        intro v3 H3 d1 d2 d3
        have e1 : H3[H.length + 1]? = some ⟨0, tyCover, 1, [I items, v2]⟩ := by rw [d3 _ (by omega)]; exact c1
        simp only [go_sem, Nat.reduceAdd, Nat.reduceEqDiff, Nat.reduceLeDiff, Nat.reduceMul, reduceIte, Nat.zero_ne_one, Nat.one_ne_zero, Nat.zero_add, Nat.add_zero, List.map_cons, List.map_nil, List.length_cons, List.length_nil, decide_true, decide_false, Bool.not_true, Bool.not_false, true_and, and_true, ne_eq, not_true_eq_false, not_false_eq_true, forall_const, List.getElem?_cons_zero, List.getElem?_cons_succ, List.all_nil, List.all_cons, List.length_set, List.append_assoc, List.cons_append, List.nil_append, List.length_append, List.length_set, List.set_cons_zero, List.set_cons_succ, acell1_own, acell1_own0, alive_own, alive_own0, acells_own, acells_own0, astore_own, astore_own0, aview_own, aview_own0, PcL_some, PcV_some, PcG_some, PcS_some, NmV_some, setMany_nil, setMany_cons, partsOf_agg, cell1_nm, cell1_nil, cell1_il, cell1_Bv, cell1_pc, partsOf_nm, partsOf_il, partsOf_nil, partsOf_Bv, afill_nil, afill_cons, List.drop_zero, List.drop_succ_cons, List.take_succ_cons, List.take_zero, List.take_nil, and_self, Nat.le_refl, pc_alive e1, pc_ld e1, d1.parts, d1.cell1]
        rw [pc_st e1 (by simp)]
        simp only [go_sem, Nat.reduceAdd, Nat.reduceEqDiff, Nat.reduceLeDiff, Nat.reduceMul, reduceIte, Nat.zero_ne_one, Nat.one_ne_zero, Nat.zero_add, Nat.add_zero, List.map_cons, List.map_nil, List.length_cons, List.length_nil, decide_true, decide_false, Bool.not_true, Bool.not_false, true_and, and_true, ne_eq, not_true_eq_false, not_false_eq_true, forall_const, List.getElem?_cons_zero, List.getElem?_cons_succ]
        refine SW.row ?_; simp only [go_sem, Nat.reduceAdd, Nat.reduceEqDiff, Nat.reduceLeDiff, Nat.reduceMul, reduceIte, Nat.zero_ne_one, Nat.one_ne_zero, Nat.zero_add, Nat.add_zero, List.map_cons, List.map_nil, List.length_cons, List.length_nil, decide_true, decide_false, Bool.not_true, Bool.not_false, true_and, and_true, ne_eq, not_true_eq_false, not_false_eq_true, forall_const, List.getElem?_cons_zero, List.getElem?_cons_succ, w64_id (show -9223372036854775808 ≤ (s : Int) + 1 by omega) (show (s : Int) + 1 ≤ 9223372036854775807 by omega)]
        refine SLoop.next (n - (s + 1)) (by omega) ⟨s + 1, by omega, rfl, ?_, ?_⟩
        · simp only [go_sem, Nat.reduceAdd, Nat.reduceEqDiff, Nat.reduceLeDiff, Nat.reduceMul, reduceIte, Nat.zero_ne_one, Nat.one_ne_zero, Nat.zero_add, Nat.add_zero, List.map_cons, List.map_nil, List.length_cons, List.length_nil, decide_true, decide_false, Bool.not_true, Bool.not_false, true_and, and_true, ne_eq, not_true_eq_false, not_false_eq_true, forall_const, List.getElem?_cons_zero, List.getElem?_cons_succ]; rfl
        · rw [row_succ (fun (s : Nat) => sqS1 n r k s)]; simp only [← List.append_assoc]
          exact Bx.put d1 (by omega) (fun j hj => by rw [d3 j (by omega)]; exact c4 j hj)
      · have hy : s = n := by
          have := of_decide_eq_false h
          omega
        subst hy
        refine SW.exit ?_; simp only [go_sem, Nat.reduceAdd, Nat.reduceEqDiff, Nat.reduceLeDiff, Nat.reduceMul, reduceIte, Nat.zero_ne_one, Nat.one_ne_zero, Nat.zero_add, Nat.add_zero, List.map_cons, List.map_nil, List.length_cons, List.length_nil, decide_true, decide_false, Bool.not_true, Bool.not_false, true_and, and_true, ne_eq, not_true_eq_false, not_false_eq_true, forall_const, List.getElem?_cons_zero, List.getElem?_cons_succ]
        refine SW.row ?_; simp only [go_sem, Nat.reduceAdd, Nat.reduceEqDiff, Nat.reduceLeDiff, Nat.reduceMul, reduceIte, Nat.zero_ne_one, Nat.one_ne_zero, Nat.zero_add, Nat.add_zero, List.map_cons, List.map_nil, List.length_cons, List.length_nil, decide_true, decide_false, Bool.not_true, Bool.not_false, true_and, and_true, ne_eq, not_true_eq_false, not_false_eq_true, forall_const, List.getElem?_cons_zero, List.getElem?_cons_succ, w64_id (show -9223372036854775808 ≤ (k : Int) + 1 by omega) (show (k : Int) + 1 ≤ 9223372036854775807 by omega)]
        refine SLoop.next (s - (k + 1)) (by omega) ⟨k + 1, by omega, rfl, ?_, ?_⟩
        · simp only [go_sem, Nat.reduceAdd, Nat.reduceEqDiff, Nat.reduceLeDiff, Nat.reduceMul, reduceIte, Nat.zero_ne_one, Nat.one_ne_zero, Nat.zero_add, Nat.add_zero, List.map_cons, List.map_nil, List.length_cons, List.length_nil, decide_true, decide_false, Bool.not_true, Bool.not_false, true_and, and_true, ne_eq, not_true_eq_false, not_false_eq_true, forall_const, List.getElem?_cons_zero, List.getElem?_cons_succ]; rfl
        · rw [sqSr_succ, ← List.append_assoc]; exact ⟨v2, c1, c2, c3, c4⟩
    · have hy : k = n := by
        have := of_decide_eq_false h
        omega
      subst hy
      refine SW.exit ?_; simp only [go_sem, Nat.reduceAdd, Nat.reduceEqDiff, Nat.reduceLeDiff, Nat.reduceMul, reduceIte, Nat.zero_ne_one, Nat.one_ne_zero, Nat.zero_add, Nat.add_zero, List.map_cons, List.map_nil, List.length_cons, List.length_nil, decide_true, decide_false, Bool.not_true, Bool.not_false, true_and, and_true, ne_eq, not_true_eq_false, not_false_eq_true, forall_const, List.getElem?_cons_zero, List.getElem?_cons_succ]
      refine SW.row ?_; simp only [go_sem, Nat.reduceAdd, Nat.reduceEqDiff, Nat.reduceLeDiff, Nat.reduceMul, reduceIte, Nat.zero_ne_one, Nat.one_ne_zero, Nat.zero_add, Nat.add_zero, List.map_cons, List.map_nil, List.length_cons, List.length_nil, decide_true, decide_false, Bool.not_true, Bool.not_false, true_and, and_true, ne_eq, not_true_eq_false, not_false_eq_true, forall_const, List.getElem?_cons_zero, List.getElem?_cons_succ, w64_id (show -9223372036854775808 ≤ (r : Int) + 1 by omega) (show (r : Int) + 1 ≤ 9223372036854775807 by omega)]
      refine SLoop.next (k - (r + 1)) (by omega) ⟨r + 1, by omega, rfl, ?_, ?_⟩
      · simp only [go_sem, Nat.reduceAdd, Nat.reduceEqDiff, Nat.reduceLeDiff, Nat.reduceMul, reduceIte, Nat.zero_ne_one, Nat.one_ne_zero, Nat.zero_add, Nat.add_zero, List.map_cons, List.map_nil, List.length_cons, List.length_nil, decide_true, decide_false, Bool.not_true, Bool.not_false, true_and, and_true, ne_eq, not_true_eq_false, not_false_eq_true, forall_const, List.getElem?_cons_zero, List.getElem?_cons_succ]; rfl
      · rw [sqS_succ]; exact ⟨v2, c1, c2, c3, c4⟩
  · have hx : r = n := by
      have := of_decide_eq_false h
      omega
    subst hx
    have b5 : H1[H.length]? = some ⟨0, tyCover, 1, [I 0, nilS]⟩ := by rw [b4 _ (by omega)]; simp
    refine SW.exit ?_; simp only [go_sem, Nat.reduceAdd, Nat.reduceEqDiff, Nat.reduceLeDiff, Nat.reduceMul, reduceIte, Nat.zero_ne_one, Nat.one_ne_zero, Nat.zero_add, Nat.add_zero, List.map_cons, List.map_nil, List.length_cons, List.length_nil, decide_true, decide_false, Bool.not_true, Bool.not_false, true_and, and_true, ne_eq, not_true_eq_false, not_false_eq_true, forall_const, List.getElem?_cons_zero, List.getElem?_cons_succ]
    refine SW.seq ?_; refine SW.row ?_; simp only [go_sem, Nat.reduceAdd, Nat.reduceEqDiff, Nat.reduceLeDiff, Nat.reduceMul, reduceIte, Nat.zero_ne_one, Nat.one_ne_zero, Nat.zero_add, Nat.add_zero, List.map_cons, List.map_nil, List.length_cons, List.length_nil, decide_true, decide_false, Bool.not_true, Bool.not_false, true_and, and_true, ne_eq, not_true_eq_false, not_false_eq_true, forall_const, List.getElem?_cons_zero, List.getElem?_cons_succ, List.all_nil, List.all_cons, List.length_set, List.append_assoc, List.cons_append, List.nil_append, List.length_append, List.length_set, List.set_cons_zero, List.set_cons_succ, acell1_own, acell1_own0, alive_own, alive_own0, acells_own, acells_own0, astore_own, astore_own0, aview_own, aview_own0, PcL_some, PcV_some, PcG_some, PcS_some, NmV_some, setMany_nil, setMany_cons, partsOf_agg, cell1_nm, cell1_nil, cell1_il, cell1_Bv, cell1_pc, partsOf_nm, partsOf_il, partsOf_nil, partsOf_Bv, afill_nil, afill_cons, List.drop_zero, List.drop_succ_cons, List.take_succ_cons, List.take_zero, List.take_nil, and_self, Nat.le_refl, pc_alive b1, pc_lds b1, b2.cell1]
    rw [pc_st b5 (by simp)]
    simp only [go_sem, Nat.reduceAdd, Nat.reduceEqDiff, Nat.reduceLeDiff, Nat.reduceMul, reduceIte, Nat.zero_ne_one, Nat.one_ne_zero, Nat.zero_add, Nat.add_zero, List.map_cons, List.map_nil, List.length_cons, List.length_nil, decide_true, decide_false, Bool.not_true, Bool.not_false, true_and, and_true, ne_eq, not_true_eq_false, not_false_eq_true, forall_const, List.getElem?_cons_zero, List.getElem?_cons_succ]
    refine SW.ret ?_
    refine FunPost.cell (cs := [I items, v]) ?_ ?_
    · simp only [go_sem, Nat.reduceAdd, Nat.reduceEqDiff, Nat.reduceLeDiff, Nat.reduceMul, reduceIte, Nat.zero_ne_one, Nat.one_ne_zero, Nat.zero_add, Nat.add_zero, List.map_cons, List.map_nil, List.length_cons, List.length_nil, decide_true, decide_false, Bool.not_true, Bool.not_false, true_and, and_true, ne_eq, not_true_eq_false, not_false_eq_true, forall_const, List.getElem?_cons_zero, List.getElem?_cons_succ]
      rw [pc_lds (List.getElem?_set_self (List.getElem?_eq_some_iff.1 b5).1) (by simp [setMany])]
      rfl
    · obtain ⟨ext, he⟩ := prefix_of (H := H) (H' := H1.set H.length ⟨0, tyCover, 1, setMany [I 0, nilS] 0 [I items, v]⟩) (by simp; omega) (fun j hj => by
        rw [List.getElem?_set_ne (by omega), b4 j (by omega), List.getElem?_append_left hj])
      have own : OwnSS (H1.set H.length ⟨0, tyCover, 1, setMany [I 0, nilS] 0 [I items, v]⟩) (Btw H.length (H1.set H.length ⟨0, tyCover, 1, setMany [I 0, nilS] 0 [I items, v]⟩).length) v (sqS r r) := by
        refine GrowSS.own (b2.same (fun j b h1 h2 => ?_)) (by omega)
        rw [List.getElem?_set_ne (by omega)]; exact h2
      have fz := own.froz (base := H.length) (fun r hr => hr.1)
      revert fz
      generalize H1.set H.length _ = HH at he
      subst he
      intro fz
      refine GR.froz (r' := .agg [I items, ilSS (sqS r r)]) (.agg _ _ rfl ?_) ⟨rfl, rfl⟩
      intro j c c' g1 g2
      match j with
      | 0 => simp at g1 g2; subst g1; subst g2; exact froz_I _ _ _
      | 1 => simp at g1 g2; subst g1; subst g2; exact fz
      | j + 2 => simp at g1
end Go.Proofs.Ytnlfokkljgbaaaa
namespace Go.Proofs.Ytnlfokkljgbaaaa
open Go.Av
theorem OwnSS.cell1 {H : List Blk} {N : Nat → Prop} {v : AV} {xss : List (List Int)} (h : OwnSS H N v xss) : v.cell1 = true ∧ partsOf v = [v] := by
  rcases h with ⟨t, ver, ty, cells, rfl, h⟩ | ⟨rfl, rfl | rfl⟩ <;> exact ⟨rfl, rfl⟩
end Go.Proofs.Ytnlfokkljgbaaaa
