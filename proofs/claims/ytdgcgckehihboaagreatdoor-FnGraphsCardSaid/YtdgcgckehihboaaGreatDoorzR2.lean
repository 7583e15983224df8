/- Graphs that are valid: the reference. -/
import Derived.Test.YtdgcgckehihboaaGreatDoorProg
import Derived.KernelRfl
import Derived.Test.YtdgcgckehihboaaGreatDoorzE4
set_option linter.unusedSimpArgs false
set_option linter.unusedVariables false
set_option linter.unusedSectionVars false
set_option maxHeartbeats 4000000
set_option maxRecDepth 100000
namespace Go.Proofs.YtdgcgckehihboaaGreatDoor
variable [Go.Av.DoorC]
open Go.Av
abbrev f_spec_l21Ok : Nat := 23
def c_spec_l21Ok : SC :=
 .seq (.reg [
     ⟨(some 1), .box 27 (.tmp 0), none⟩,
     ⟨(some 2), .mv (.const (.bool false)), none⟩] [1])
 (.seq (.seq (.reg [
     ⟨(some 6), .faddr 0 (.tmp 1), none⟩,
     ⟨(some 7), .load 1 false (.tmp 6), none⟩,
     ⟨(some 8), .call 49 [(.tmp 7)], none⟩,
     ⟨(some 9), .un .not (.tmp 8), none⟩,
     ⟨(some 10), .mv (.tmp 9), none⟩,
     ⟨(some 11), .faddr 1 (.tmp 1), (some (10, false))⟩,
     ⟨(some 12), .load 1 false (.tmp 11), (some (10, false))⟩,
     ⟨(some 13), .len (.tmp 12), (some (10, false))⟩,
     ⟨(some 14), .bin .gtr (.tmp 13) (.const (.int .i64 512)), (some (10, false))⟩,
     ⟨(some 15), .pick (.tmp 10) (.const (.bool true)) (.tmp 14), none⟩] [1, 15])
 (.cond (.tmp 15)
  (.seq (.reg [
      ⟨(some 2), .mv (.const (.bool false)), none⟩] [2])
  (.ret))
  (.skip)))
 (.seq (.reg [
     ⟨(some 16), .faddr 0 (.tmp 1), none⟩,
     ⟨(some 17), .load 1 false (.tmp 16), none⟩,
     ⟨(some 18), .len (.tmp 17), none⟩,
     ⟨(some 3), .mv (.tmp 18), none⟩] [1, 3])
 (.seq (.seq (.reg [
     ⟨(some 4), .mv (.const (.int .i64 0)), none⟩] [1, 3, 4])
 (.block 0 (.loop [1, 3, 4]
   (.seq (.seq (.reg [
       ⟨(some 19), .mv (.tmp 4), none⟩,
       ⟨(some 20), .faddr 1 (.tmp 1), none⟩,
       ⟨(some 21), .load 1 false (.tmp 20), none⟩,
       ⟨(some 22), .len (.tmp 21), none⟩,
       ⟨(some 23), .bin .lss (.tmp 19) (.tmp 22), none⟩] [1, 3, 4, 23])
   (.cond (.tmp 23)
    (.skip)
    (.exit 0)))
   (.seq (.block 1 (.seq (.reg [
        ⟨(some 26), .faddr 1 (.tmp 1), none⟩,
        ⟨(some 27), .load 1 false (.tmp 26), none⟩,
        ⟨(some 28), .mv (.tmp 4), none⟩,
        ⟨(some 29), .iaddr 2 (.tmp 27) (.tmp 28), none⟩,
        ⟨(some 30), .load 2 true (.tmp 29), none⟩,
        ⟨(some 5), .alloc 49 [(.int .i64 0), (.int .i64 0)], none⟩,
        ⟨none, .store 2 (.tmp 5) (.tmp 30), none⟩] [1, 3, 4, 5])
    (.seq (.reg [
        ⟨(some 31), .faddr 0 (.tmp 5), none⟩,
        ⟨(some 32), .load 1 false (.tmp 31), none⟩,
        ⟨(some 33), .mv (.tmp 3), none⟩,
        ⟨(some 34), .bin .sub (.tmp 33) (.const (.int .i64 1)), none⟩,
        ⟨(some 35), .qcall 50 [(.tmp 32), (.const (.int .i64 0)), (.tmp 34)], none⟩,
        ⟨(some 36), .un .not (.tmp 35), none⟩,
        ⟨(some 37), .mv (.tmp 36), none⟩,
        ⟨(some 38), .faddr 1 (.tmp 5), (some (37, false))⟩,
        ⟨(some 39), .load 1 false (.tmp 38), (some (37, false))⟩,
        ⟨(some 40), .faddr 0 (.tmp 5), (some (37, false))⟩,
        ⟨(some 41), .load 1 false (.tmp 40), (some (37, false))⟩,
        ⟨(some 42), .bin .add (.tmp 41) (.const (.int .i64 1)), (some (37, false))⟩,
        ⟨(some 43), .mv (.tmp 3), (some (37, false))⟩,
        ⟨(some 44), .bin .sub (.tmp 43) (.const (.int .i64 1)), (some (37, false))⟩,
        ⟨(some 45), .qcall 50 [(.tmp 39), (.tmp 42), (.tmp 44)], (some (37, false))⟩,
        ⟨(some 46), .un .not (.tmp 45), (some (37, false))⟩,
        ⟨(some 47), .pick (.tmp 37) (.const (.bool true)) (.tmp 46), none⟩,
        ⟨(some 48), .mv (.tmp 47), none⟩,
        ⟨(some 49), .mv (.tmp 4), (some (48, false))⟩,
        ⟨(some 50), .bin .gtr (.tmp 49) (.const (.int .i64 0)), (some (48, false))⟩,
        ⟨(some 51), .mv (.tmp 50), (some (48, false))⟩,
        ⟨(some 52), .faddr 1 (.tmp 1), (some (51, true))⟩,
        ⟨(some 53), .load 1 false (.tmp 52), (some (51, true))⟩,
        ⟨(some 54), .mv (.tmp 4), (some (51, true))⟩,
        ⟨(some 55), .bin .sub (.tmp 54) (.const (.int .i64 1)), (some (51, true))⟩,
        ⟨(some 56), .iaddr 2 (.tmp 53) (.tmp 55), (some (51, true))⟩,
        ⟨(some 57), .load 2 true (.tmp 56), (some (51, true))⟩,
        ⟨(some 58), .load 2 true (.tmp 5), (some (51, true))⟩,
        ⟨(some 59), .qcall 51 [(.tmp 57), (.tmp 58)], (some (51, true))⟩,
        ⟨(some 60), .un .not (.tmp 59), (some (51, true))⟩,
        ⟨(some 61), .pick (.tmp 51) (.tmp 60) (.const (.bool false)), (some (48, false))⟩,
        ⟨(some 62), .pick (.tmp 48) (.const (.bool true)) (.tmp 61), none⟩] [1, 3, 4, 62])
    (.cond (.tmp 62)
     (.seq (.reg [
         ⟨(some 2), .mv (.const (.bool false)), none⟩] [2])
     (.ret))
     (.skip)))))
   (.reg [
       ⟨(some 24), .mv (.tmp 4), none⟩,
       ⟨(some 25), .bin .add (.tmp 24) (.const (.int .i64 1)), none⟩,
       ⟨(some 4), .mv (.tmp 25), none⟩] [1, 3, 4]))))))
 (.seq (.reg [
     ⟨(some 2), .mv (.const (.bool true)), none⟩] [2])
 (.ret)))))
theorem s_spec_l21Ok : stripF Tryz.prog 23 [[1], [1, 15], [2], [1, 3], [1, 3, 4], [1, 3, 4], [1, 3, 4, 23], [1, 3, 4, 5], [1, 3, 4, 62], [2], [1, 3, 4], [2]] = some (c_spec_l21Ok, [.tmp 2], 63) := by kernel_rfl
theorem l21Ok_fn (cols : List Int) (es : List (Int × Int)) : PFn Tryz.prog f_spec_l21Ok [.agg [ilS cols, ilE es]] (Bv (grB cols es)) := by
  have hac := l21Colors_fn cols
  have hbe := fun b => Bel_ilE b es
  cases hcc : colsB cols
  · rw [hcc] at hac
    have hb : grB cols es = false := by unfold grB; rw [hcc]; simp
    rw [hb]
    intro H; refine ACalls.introB s_spec_l21Ok (by simp) ?_; intro hB hA; unfold c_spec_l21Ok; simp (config := { maxSteps := 1000000 }) (disch := (first | omega | (simp only [go_sem]; try omega))) only [go_sem, Nat.reduceAdd, Nat.reduceEqDiff, Nat.reduceLeDiff, Nat.reduceMul, Nat.reduceLT, reduceIte, Int.reduceToNat, w64_id, cast_succ]
    repeat (first | (with_reducible first | refine SW.seq ?_ | refine SW.block ?_ | refine SW.rowC ?_ | refine SW.skip ?_ | refine SW.exit ?_ | refine PFn.use (hac) ?_ | refine PFn.useq (hac) ?_ | intro _ | refine And.intro (by omega) ?_) | simp (config := { maxSteps := 1000000 }) (disch := (first | omega | (simp only [go_sem]; try omega))) only [go_sem, Nat.reduceAdd, Nat.reduceEqDiff, Nat.reduceLeDiff, Nat.reduceMul, Nat.reduceLT, reduceIte, Int.reduceToNat, w64_id, cast_succ])
    refine SW.condT rfl ?_
    repeat (first | (with_reducible first | refine SW.seq ?_ | refine SW.block ?_ | refine SW.rowC ?_ | refine SW.skip ?_ | refine SW.exit ?_ | intro _ | refine And.intro (by omega) ?_) | simp (config := { maxSteps := 1000000 }) (disch := (first | omega | (simp only [go_sem]; try omega))) only [go_sem, Nat.reduceAdd, Nat.reduceEqDiff, Nat.reduceLeDiff, Nat.reduceMul, Nat.reduceLT, reduceIte, Int.reduceToNat, w64_id, cast_succ])
    refine SW.ret ?_; (try simp only [go_sem]); (first | refine FunPost.one ?_ | refine FunPost.two ?_ | refine FunPost.three ?_); (try simp (config := { maxSteps := 1000000 }) (disch := (first | omega | (simp only [go_sem]; try omega))) only [go_sem, Nat.reduceAdd, Nat.reduceEqDiff, Nat.reduceLeDiff, Nat.reduceMul, Nat.reduceLT, reduceIte, Int.reduceToNat, w64_id, cast_succ]); (first | (with_reducible refine GR.drop ?_ ?_; (simp only [go_sem, and_self, and_true, true_and, implies_true, List.take_succ_cons, List.take_zero])) | refine GR.of ?_); refine ⟨?_, rfl⟩; (try with_reducible rfl)
  rw [hcc] at hac
  by_cases h5 : es.length ≤ 512
  · have hb : grB cols es = edsB cols.length es := by unfold grB; rw [hcc, decide_eq_true h5]; simp
    have hcl : cols.length ≤ 64 := by unfold colsB at hcc; rw [Bool.and_eq_true, decide_eq_true_eq] at hcc; exact hcc.1
    have d0 : decide ((512 : Int) < (es.length : Int)) = false := decide_eq_false (by omega)
    rw [hb]
    intro H; refine ACalls.introB s_spec_l21Ok (by simp) ?_; intro hB hA; unfold c_spec_l21Ok; simp (config := { maxSteps := 1000000 }) (disch := (first | omega | (simp only [go_sem]; try omega))) only [go_sem, Nat.reduceAdd, Nat.reduceEqDiff, Nat.reduceLeDiff, Nat.reduceMul, Nat.reduceLT, reduceIte, Int.reduceToNat, w64_id, cast_succ]
    repeat (first | (with_reducible first | refine SW.seq ?_ | refine SW.block ?_ | refine SW.rowC ?_ | refine SW.skip ?_ | refine SW.exit ?_ | refine PFn.use (hac) ?_ | refine PFn.useq (hac) ?_ | intro _ | refine And.intro (by omega) ?_) | simp (config := { maxSteps := 1000000 }) (disch := (first | omega | (simp only [go_sem]; try omega))) only [go_sem, Nat.reduceAdd, Nat.reduceEqDiff, Nat.reduceLeDiff, Nat.reduceMul, Nat.reduceLT, reduceIte, Int.reduceToNat, w64_id, cast_succ, d0])
    refine SW.condF rfl ?_
    repeat (first | (with_reducible first | refine SW.seq ?_ | refine SW.block ?_ | refine SW.rowC ?_ | refine SW.skip ?_ | refine SW.exit ?_ | intro _ | refine And.intro (by omega) ?_) | simp (config := { maxSteps := 1000000 }) (disch := (first | omega | (simp only [go_sem]; try omega))) only [go_sem, Nat.reduceAdd, Nat.reduceEqDiff, Nat.reduceLeDiff, Nat.reduceMul, Nat.reduceLT, reduceIte, Int.reduceToNat, w64_id, cast_succ])
    refine SW.loopE (fun E0 H0 q E' H' => ∃ (pre post : List (Int × Int)), es = pre ++ post ∧ q = post.length ∧ E' = aput E0 4 (I pre.length) ∧ H' = H ++ [⟨0, tyGr, 1, [ilS cols, ilE es]⟩] ∧ edsB cols.length pre = true) es.length ⟨[], es, rfl, rfl, rfl, rfl, by simp [edsB]⟩ ?_
    rintro q E' H' ⟨pre, post, hq, rfl, rfl, rfl, ha⟩
    simp (config := { maxSteps := 1000000 }) (disch := (first | omega | (simp only [go_sem]; try omega))) only [go_sem, Nat.reduceAdd, Nat.reduceEqDiff, Nat.reduceLeDiff, Nat.reduceMul, Nat.reduceLT, reduceIte, Int.reduceToNat, w64_id, cast_succ]
    repeat (first | (with_reducible first | refine SW.seq ?_ | refine SW.block ?_ | refine SW.rowC ?_ | refine SW.skip ?_ | refine SW.exit ?_ | intro _ | refine And.intro (by omega) ?_) | simp (config := { maxSteps := 1000000 }) (disch := (first | omega | (simp only [go_sem]; try omega))) only [go_sem, Nat.reduceAdd, Nat.reduceEqDiff, Nat.reduceLeDiff, Nat.reduceMul, Nat.reduceLT, reduceIte, Int.reduceToNat, w64_id, cast_succ])
    (first | refine SW.condD rfl (fun h2 => ?_) (fun h2 => ?_) | refine SW.condN rfl (fun h2 => ?_) (fun h2 => ?_) | refine SW.condNB rfl (fun h2 => ?_) (fun h2 => ?_) | refine SW.condB rfl (fun h2 => ?_) (fun h2 => ?_))
    · obtain ⟨x, post, rfl, hg, -⟩ := consOf (d := (0, 0)) hq (by omega)
      have hsn := edsB_snoc (cols.length : Int) pre x ha
      have l1 : ∀ H, acells H 2 (.el (ilE es) (pre.length * 2)) = some [I x.1, I x.2] := fun H => by
        have := (rd_ilE H es).ld (j := pre.length) (by omega)
        rwa [hg] at this
      have hi1 := l00In_fn x.1 0 ((cols.length : Int) - 1)
      have hi2 := l00In_fn x.2 (x.1 + 1) ((cols.length : Int) - 1)
      have ret : edsB cols.length (pre ++ [x]) = false → GR H (fun r H' => r = Bv (edsB cols.length es) ∧ H' = H) (Bv false) (H ++ [⟨0, tyGr, 1, [ilS cols, ilE es]⟩, ⟨0, tyE, 1, [I x.1, I x.2]⟩]) := fun h => by
        rw [show es = (pre ++ [x]) ++ post by rw [hq]; simp, edsB_pre h]
        exact GR.froz (froz_B' _) ⟨rfl, rfl⟩
      cases c1 : (decide (0 ≤ x.1) && decide (x.1 ≤ (cols.length : Int) - 1))
      · rw [c1] at hi1
        repeat (first | (with_reducible first | refine SW.seq ?_ | refine SW.block ?_ | refine SW.rowC ?_ | refine SW.skip ?_ | refine SW.exit ?_ | refine PFn.use (hi1) ?_ | refine PFn.useq (hi1) ?_ | intro _ | refine And.intro (by omega) ?_) | simp (config := { maxSteps := 1000000 }) (disch := (first | omega | (simp only [go_sem]; try omega))) only [go_sem, Nat.reduceAdd, Nat.reduceEqDiff, Nat.reduceLeDiff, Nat.reduceMul, Nat.reduceLT, reduceIte, Int.reduceToNat, w64_id, cast_succ, l1])
        refine SW.condT rfl ?_
        repeat (first | (with_reducible first | refine SW.seq ?_ | refine SW.block ?_ | refine SW.rowC ?_ | refine SW.skip ?_ | refine SW.exit ?_ | intro _ | refine And.intro (by omega) ?_) | simp (config := { maxSteps := 1000000 }) (disch := (first | omega | (simp only [go_sem]; try omega))) only [go_sem, Nat.reduceAdd, Nat.reduceEqDiff, Nat.reduceLeDiff, Nat.reduceMul, Nat.reduceLT, reduceIte, Int.reduceToNat, w64_id, cast_succ])
        refine SW.ret ⟨_, rfl, ret ?_⟩
        rw [hsn]
        rw [Bool.and_eq_false_iff, decide_eq_false_iff_not, decide_eq_false_iff_not] at c1
        unfold edB
        rcases c1 with c1 | c1
        · rw [decide_eq_false c1]; rfl
        · by_cases h6 : x.1 < x.2
          · rw [decide_eq_false (by omega : ¬ x.2 < (cols.length : Int))]; simp
          · rw [decide_eq_false h6]; simp
      rw [c1] at hi1
      rw [Bool.and_eq_true, decide_eq_true_eq, decide_eq_true_eq] at c1
      have hw : w64 (x.1 + 1) = x.1 + 1 := w64_id (by omega) (by omega)
      cases c2 : (decide (x.1 + 1 ≤ x.2) && decide (x.2 ≤ (cols.length : Int) - 1))
      · rw [c2] at hi2
        repeat (first | (with_reducible first | refine SW.seq ?_ | refine SW.block ?_ | refine SW.rowC ?_ | refine SW.skip ?_ | refine SW.exit ?_ | refine PFn.use (hi1) ?_ | refine PFn.useq (hi1) ?_ | refine PFn.use (hi2) ?_ | refine PFn.useq (hi2) ?_ | intro _ | refine And.intro (by omega) ?_) | simp (config := { maxSteps := 1000000 }) (disch := (first | omega | (simp only [go_sem]; try omega))) only [go_sem, Nat.reduceAdd, Nat.reduceEqDiff, Nat.reduceLeDiff, Nat.reduceMul, Nat.reduceLT, reduceIte, Int.reduceToNat, w64_id, cast_succ, l1, hw])
        refine SW.condT rfl ?_
        repeat (first | (with_reducible first | refine SW.seq ?_ | refine SW.block ?_ | refine SW.rowC ?_ | refine SW.skip ?_ | refine SW.exit ?_ | intro _ | refine And.intro (by omega) ?_) | simp (config := { maxSteps := 1000000 }) (disch := (first | omega | (simp only [go_sem]; try omega))) only [go_sem, Nat.reduceAdd, Nat.reduceEqDiff, Nat.reduceLeDiff, Nat.reduceMul, Nat.reduceLT, reduceIte, Int.reduceToNat, w64_id, cast_succ])
        refine SW.ret ⟨_, rfl, ret ?_⟩
        rw [hsn]
        rw [Bool.and_eq_false_iff, decide_eq_false_iff_not, decide_eq_false_iff_not] at c2
        unfold edB
        rcases c2 with c2 | c2
        · rw [decide_eq_false (by omega : ¬ x.1 < x.2)]; simp
        · rw [decide_eq_false (by omega : ¬ x.2 < (cols.length : Int))]; simp
      rw [c2] at hi2
      rw [Bool.and_eq_true, decide_eq_true_eq, decide_eq_true_eq] at c2
      have heb : edB cols.length x = true := by
        unfold edB; rw [decide_eq_true (by omega : 0 ≤ x.1), decide_eq_true (by omega : x.1 < x.2), decide_eq_true (by omega : x.2 < (cols.length : Int))]; rfl
      rw [heb, Bool.true_and] at hsn
      by_cases c4 : pre.length = 0
      · have d4 : decide ((0 : Int) < (pre.length : Int)) = false := decide_eq_false (by omega)
        rw [decide_eq_true c4, Bool.true_or] at hsn
        repeat (first | (with_reducible first | refine SW.seq ?_ | refine SW.block ?_ | refine SW.rowC ?_ | refine SW.skip ?_ | refine SW.exit ?_ | refine PFn.use (hi1) ?_ | refine PFn.useq (hi1) ?_ | refine PFn.use (hi2) ?_ | refine PFn.useq (hi2) ?_ | intro _ | refine And.intro (by omega) ?_) | simp (config := { maxSteps := 1000000 }) (disch := (first | omega | (simp only [go_sem]; try omega))) only [go_sem, Nat.reduceAdd, Nat.reduceEqDiff, Nat.reduceLeDiff, Nat.reduceMul, Nat.reduceLT, reduceIte, Int.reduceToNat, w64_id, cast_succ, l1, hw, d4])
        refine SW.condF rfl ?_
        repeat (first | (with_reducible first | refine SW.seq ?_ | refine SW.block ?_ | refine SW.rowC ?_ | refine SW.skip ?_ | refine SW.exit ?_ | intro _ | refine And.intro (by omega) ?_) | simp (config := { maxSteps := 1000000 }) (disch := (first | omega | (simp only [go_sem]; try omega))) only [go_sem, Nat.reduceAdd, Nat.reduceEqDiff, Nat.reduceLeDiff, Nat.reduceMul, Nat.reduceLT, reduceIte, Int.reduceToNat, w64_id, cast_succ])
        refine SLoop.nextT 1 post.length hB (by omega) (by simp) (by simp) ?_ ?_ ⟨pre ++ [x], post, by simp [hq], rfl, ?_, ?_, hsn⟩
        · (simp only [go_sem, Nat.reduceAdd, Nat.reduceEqDiff, reduceIte, go_sem, and_self, and_true, true_and, implies_true, List.take_succ_cons, List.take_zero, and_true, true_and, hbe]; try omega)
        · (simp only [go_sem, Nat.reduceAdd, Nat.reduceEqDiff, reduceIte, go_sem, and_self, and_true, true_and, implies_true, List.take_succ_cons, List.take_zero, and_true, true_and, hbe]; try omega)
        · simp [go_sem]
        · simp
      · have d4 : decide ((0 : Int) < (pre.length : Int)) = true := decide_eq_true (by omega)
        rw [decide_eq_false c4, Bool.false_or] at hsn
        obtain ⟨r, y, hpr, hgy⟩ := lastOf (d := (0, 0)) hq (by omega)
        have hgy2 : pre.getD (pre.length - 1) (0, 0) = y := by rw [hpr]; simp
        rw [hgy2] at hsn
        have e1 : (pre.length : Int) - 1 = ((pre.length - 1 : Nat) : Int) := by omega
        have l2 : ∀ H, acells H 2 (.el (ilE es) ((pre.length - 1) * 2)) = some [I y.1, I y.2] := fun H => by
          have := (rd_ilE H es).ld (j := pre.length - 1) (by omega)
          rwa [hgy] at this
        have hce := l21Less_fn y x
        unfold agE at hce
        cases c5 : decide (cmpE y x < 0)
        · rw [c5] at hsn hce
          repeat (first | (with_reducible first | refine SW.seq ?_ | refine SW.block ?_ | refine SW.rowC ?_ | refine SW.skip ?_ | refine SW.exit ?_ | refine PFn.use (hi1) ?_ | refine PFn.useq (hi1) ?_ | refine PFn.use (hi2) ?_ | refine PFn.useq (hi2) ?_ | refine PFn.use (hce) ?_ | refine PFn.useq (hce) ?_ | intro _ | refine And.intro (by omega) ?_) | simp (config := { maxSteps := 1000000 }) (disch := (first | omega | (simp only [go_sem]; try omega))) only [go_sem, Nat.reduceAdd, Nat.reduceEqDiff, Nat.reduceLeDiff, Nat.reduceMul, Nat.reduceLT, reduceIte, Int.reduceToNat, w64_id, cast_succ, l1, hw, d4, e1, l2])
          refine SW.condT rfl ?_
          repeat (first | (with_reducible first | refine SW.seq ?_ | refine SW.block ?_ | refine SW.rowC ?_ | refine SW.skip ?_ | refine SW.exit ?_ | intro _ | refine And.intro (by omega) ?_) | simp (config := { maxSteps := 1000000 }) (disch := (first | omega | (simp only [go_sem]; try omega))) only [go_sem, Nat.reduceAdd, Nat.reduceEqDiff, Nat.reduceLeDiff, Nat.reduceMul, Nat.reduceLT, reduceIte, Int.reduceToNat, w64_id, cast_succ])
          exact SW.ret ⟨_, rfl, ret hsn⟩
        · rw [c5] at hsn hce
          repeat (first | (with_reducible first | refine SW.seq ?_ | refine SW.block ?_ | refine SW.rowC ?_ | refine SW.skip ?_ | refine SW.exit ?_ | refine PFn.use (hi1) ?_ | refine PFn.useq (hi1) ?_ | refine PFn.use (hi2) ?_ | refine PFn.useq (hi2) ?_ | refine PFn.use (hce) ?_ | refine PFn.useq (hce) ?_ | intro _ | refine And.intro (by omega) ?_) | simp (config := { maxSteps := 1000000 }) (disch := (first | omega | (simp only [go_sem]; try omega))) only [go_sem, Nat.reduceAdd, Nat.reduceEqDiff, Nat.reduceLeDiff, Nat.reduceMul, Nat.reduceLT, reduceIte, Int.reduceToNat, w64_id, cast_succ, l1, hw, d4, e1, l2])
          refine SW.condF rfl ?_
          repeat (first | (with_reducible first | refine SW.seq ?_ | refine SW.block ?_ | refine SW.rowC ?_ | refine SW.skip ?_ | refine SW.exit ?_ | intro _ | refine And.intro (by omega) ?_) | simp (config := { maxSteps := 1000000 }) (disch := (first | omega | (simp only [go_sem]; try omega))) only [go_sem, Nat.reduceAdd, Nat.reduceEqDiff, Nat.reduceLeDiff, Nat.reduceMul, Nat.reduceLT, reduceIte, Int.reduceToNat, w64_id, cast_succ])
          refine SLoop.nextT 1 post.length hB (by omega) (by simp) (by simp) ?_ ?_ ⟨pre ++ [x], post, by simp [hq], rfl, ?_, ?_, hsn⟩
          · (simp only [go_sem, Nat.reduceAdd, Nat.reduceEqDiff, reduceIte, go_sem, and_self, and_true, true_and, implies_true, List.take_succ_cons, List.take_zero, and_true, true_and, hbe]; try omega)
          · (simp only [go_sem, Nat.reduceAdd, Nat.reduceEqDiff, reduceIte, go_sem, and_self, and_true, true_and, implies_true, List.take_succ_cons, List.take_zero, and_true, true_and, hbe]; try omega)
          · simp [go_sem]
          · simp
    · obtain ⟨rfl, rfl⟩ := nilOf hq (by omega)
      rw [ha]
      repeat (first | (with_reducible first | refine SW.seq ?_ | refine SW.block ?_ | refine SW.rowC ?_ | refine SW.skip ?_ | refine SW.exit ?_ | intro _ | refine And.intro (by omega) ?_) | simp (config := { maxSteps := 1000000 }) (disch := (first | omega | (simp only [go_sem]; try omega))) only [go_sem, Nat.reduceAdd, Nat.reduceEqDiff, Nat.reduceLeDiff, Nat.reduceMul, Nat.reduceLT, reduceIte, Int.reduceToNat, w64_id, cast_succ])
      refine SW.ret ?_; (try simp only [go_sem]); (first | refine FunPost.one ?_ | refine FunPost.two ?_ | refine FunPost.three ?_); (try simp (config := { maxSteps := 1000000 }) (disch := (first | omega | (simp only [go_sem]; try omega))) only [go_sem, Nat.reduceAdd, Nat.reduceEqDiff, Nat.reduceLeDiff, Nat.reduceMul, Nat.reduceLT, reduceIte, Int.reduceToNat, w64_id, cast_succ]); (first | (with_reducible refine GR.drop ?_ ?_; (simp only [go_sem, and_self, and_true, true_and, implies_true, List.take_succ_cons, List.take_zero])) | refine GR.of ?_); refine ⟨?_, rfl⟩; (try with_reducible rfl)
  · have hb : grB cols es = false := by unfold grB; rw [decide_eq_false h5]; simp
    have d0 : decide ((512 : Int) < (es.length : Int)) = true := decide_eq_true (by omega)
    rw [hb]
    intro H; refine ACalls.introB s_spec_l21Ok (by simp) ?_; intro hB hA; unfold c_spec_l21Ok; simp (config := { maxSteps := 1000000 }) (disch := (first | omega | (simp only [go_sem]; try omega))) only [go_sem, Nat.reduceAdd, Nat.reduceEqDiff, Nat.reduceLeDiff, Nat.reduceMul, Nat.reduceLT, reduceIte, Int.reduceToNat, w64_id, cast_succ]
    repeat (first | (with_reducible first | refine SW.seq ?_ | refine SW.block ?_ | refine SW.rowC ?_ | refine SW.skip ?_ | refine SW.exit ?_ | refine PFn.use (hac) ?_ | refine PFn.useq (hac) ?_ | intro _ | refine And.intro (by omega) ?_) | simp (config := { maxSteps := 1000000 }) (disch := (first | omega | (simp only [go_sem]; try omega))) only [go_sem, Nat.reduceAdd, Nat.reduceEqDiff, Nat.reduceLeDiff, Nat.reduceMul, Nat.reduceLT, reduceIte, Int.reduceToNat, w64_id, cast_succ, d0])
    refine SW.condT rfl ?_
    repeat (first | (with_reducible first | refine SW.seq ?_ | refine SW.block ?_ | refine SW.rowC ?_ | refine SW.skip ?_ | refine SW.exit ?_ | intro _ | refine And.intro (by omega) ?_) | simp (config := { maxSteps := 1000000 }) (disch := (first | omega | (simp only [go_sem]; try omega))) only [go_sem, Nat.reduceAdd, Nat.reduceEqDiff, Nat.reduceLeDiff, Nat.reduceMul, Nat.reduceLT, reduceIte, Int.reduceToNat, w64_id, cast_succ])
    refine SW.ret ?_; (try simp only [go_sem]); (first | refine FunPost.one ?_ | refine FunPost.two ?_ | refine FunPost.three ?_); (try simp (config := { maxSteps := 1000000 }) (disch := (first | omega | (simp only [go_sem]; try omega))) only [go_sem, Nat.reduceAdd, Nat.reduceEqDiff, Nat.reduceLeDiff, Nat.reduceMul, Nat.reduceLT, reduceIte, Int.reduceToNat, w64_id, cast_succ]); (first | (with_reducible refine GR.drop ?_ ?_; (simp only [go_sem, and_self, and_true, true_and, implies_true, List.take_succ_cons, List.take_zero])) | refine GR.of ?_); refine ⟨?_, rfl⟩; (try with_reducible rfl)
end Go.Proofs.YtdgcgckehihboaaGreatDoor
