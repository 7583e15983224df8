/- Exact covers: the reference chooses an item. -/
import Derived.Test.YtpaagkipnlbibaaProg
import Derived.KernelRfl
import Derived.Test.YtpaagkipnlbibaazCH
set_option linter.unusedSimpArgs false
set_option linter.unusedVariables false
set_option maxHeartbeats 4000000
set_option maxRecDepth 100000
namespace Go.Proofs.Ytpaagkipnlbibaa
open Go.Av
abbrev f_spec_l24Search_best : Nat := 121
def c_spec_l24Search_best : SC :=
 .seq (.reg [
     ⟨(some 2), .mv (.const (.int .i64 0)), none⟩] [0])
 (.seq (.reg [
     ⟨(some 3), .mv (.const (.int .i64 (-1))), none⟩] [0, 3])
 (.seq (.reg [
     ⟨(some 4), .mv (.const (.int .i64 0)), none⟩] [0, 3, 4])
 (.seq (.seq (.reg [
     ⟨(some 5), .mv (.const (.int .i64 0)), none⟩] [0, 3, 4, 5])
 (.block 0 (.loop [0, 3, 4, 5]
   (.seq (.seq (.reg [
       ⟨(some 8), .mv (.tmp 5), none⟩,
       ⟨(some 9), .mv (.tmp 0), none⟩,
       ⟨(some 10), .nilc (.tmp 9), none⟩,
       ⟨(some 11), .faddr 0 (.tmp 10), none⟩,
       ⟨(some 12), .load 1 false (.tmp 11), none⟩,
       ⟨(some 13), .nilc (.tmp 12), none⟩,
       ⟨(some 14), .faddr 0 (.tmp 13), none⟩,
       ⟨(some 15), .load 1 false (.tmp 14), none⟩,
       ⟨(some 16), .bin .lss (.tmp 8) (.tmp 15), none⟩] [0, 3, 4, 5, 16])
   (.cond (.tmp 16)
    (.skip)
    (.exit 0)))
   (.seq (.block 1 (.seq (.seq (.reg [
        ⟨(some 19), .mv (.tmp 0), none⟩,
        ⟨(some 20), .nilc (.tmp 19), none⟩,
        ⟨(some 21), .faddr 1 (.tmp 20), none⟩,
        ⟨(some 22), .load 1 false (.tmp 21), none⟩,
        ⟨(some 23), .mv (.tmp 5), none⟩,
        ⟨(some 24), .iaddr 1 (.tmp 22) (.tmp 23), none⟩,
        ⟨(some 25), .load 1 false (.tmp 24), none⟩] [0, 3, 4, 5, 25])
    (.cond (.tmp 25)
     (.exit 1)
     (.skip)))
    (.seq (.reg [
        ⟨(some 6), .mv (.const (.int .i64 0)), none⟩] [0, 3, 4, 5, 6])
    (.seq (.seq (.reg [
        ⟨(some 7), .mv (.const (.int .i64 0)), none⟩] [0, 3, 4, 5, 6, 7])
    (.block 2 (.loop [0, 3, 4, 5, 6, 7]
      (.seq (.seq (.reg [
          ⟨(some 26), .mv (.tmp 7), none⟩,
          ⟨(some 27), .mv (.tmp 0), none⟩,
          ⟨(some 28), .nilc (.tmp 27), none⟩,
          ⟨(some 29), .faddr 0 (.tmp 28), none⟩,
          ⟨(some 30), .load 1 false (.tmp 29), none⟩,
          ⟨(some 31), .nilc (.tmp 30), none⟩,
          ⟨(some 32), .faddr 1 (.tmp 31), none⟩,
          ⟨(some 33), .load 1 false (.tmp 32), none⟩,
          ⟨(some 34), .len (.tmp 33), none⟩,
          ⟨(some 35), .bin .lss (.tmp 26) (.tmp 34), none⟩] [0, 3, 4, 5, 6, 7, 35])
      (.cond (.tmp 35)
       (.skip)
       (.exit 2)))
      (.seq (.block 3 (.seq (.reg [
           ⟨(some 38), .mv (.tmp 0), none⟩,
           ⟨(some 39), .nilc (.tmp 38), none⟩,
           ⟨(some 40), .faddr 2 (.tmp 39), none⟩,
           ⟨(some 41), .load 1 false (.tmp 40), none⟩,
           ⟨(some 42), .mv (.tmp 7), none⟩,
           ⟨(some 43), .iaddr 1 (.tmp 41) (.tmp 42), none⟩,
           ⟨(some 44), .load 1 false (.tmp 43), none⟩,
           ⟨(some 45), .bin .eql (.tmp 44) (.const (.int .i64 0)), none⟩,
           ⟨(some 46), .mv (.tmp 45), none⟩,
           ⟨(some 47), .mv (.tmp 0), (some (46, true))⟩,
           ⟨(some 48), .nilc (.tmp 47), (some (46, true))⟩,
           ⟨(some 49), .faddr 0 (.tmp 48), (some (46, true))⟩,
           ⟨(some 50), .load 1 false (.tmp 49), (some (46, true))⟩,
           ⟨(some 51), .nilc (.tmp 50), (some (46, true))⟩,
           ⟨(some 52), .faddr 1 (.tmp 51), (some (46, true))⟩,
           ⟨(some 53), .load 1 false (.tmp 52), (some (46, true))⟩,
           ⟨(some 54), .mv (.tmp 7), (some (46, true))⟩,
           ⟨(some 55), .iaddr 1 (.tmp 53) (.tmp 54), (some (46, true))⟩,
           ⟨(some 56), .load 1 false (.tmp 55), (some (46, true))⟩,
           ⟨(some 57), .mv (.tmp 5), (some (46, true))⟩,
           ⟨(some 58), .call 116 [(.tmp 56), (.tmp 57)], (some (46, true))⟩,
           ⟨(some 59), .pick (.tmp 46) (.tmp 58) (.const (.bool false)), none⟩] [0, 3, 4, 5, 6, 7, 59])
       (.cond (.tmp 59)
        (.reg [
            ⟨(some 60), .mv (.tmp 6), none⟩,
            ⟨(some 61), .bin .add (.tmp 60) (.const (.int .i64 1)), none⟩,
            ⟨(some 6), .mv (.tmp 61), none⟩] [0, 3, 4, 5, 6, 7])
        (.skip))))
      (.reg [
          ⟨(some 36), .mv (.tmp 7), none⟩,
          ⟨(some 37), .bin .add (.tmp 36) (.const (.int .i64 1)), none⟩,
          ⟨(some 7), .mv (.tmp 37), none⟩] [0, 3, 4, 5, 6, 7]))))))
    (.seq (.reg [
        ⟨(some 62), .mv (.tmp 3), none⟩,
        ⟨(some 63), .bin .lss (.tmp 62) (.const (.int .i64 0)), none⟩,
        ⟨(some 64), .mv (.tmp 63), none⟩,
        ⟨(some 65), .mv (.tmp 6), (some (64, false))⟩,
        ⟨(some 66), .mv (.tmp 4), (some (64, false))⟩,
        ⟨(some 67), .bin .lss (.tmp 65) (.tmp 66), (some (64, false))⟩,
        ⟨(some 68), .pick (.tmp 64) (.const (.bool true)) (.tmp 67), none⟩] [0, 3, 4, 5, 6, 68])
    (.cond (.tmp 68)
     (.seq (.reg [
         ⟨(some 69), .mv (.tmp 5), none⟩,
         ⟨(some 3), .mv (.tmp 69), none⟩] [0, 3, 5, 6])
     (.reg [
         ⟨(some 70), .mv (.tmp 6), none⟩,
         ⟨(some 4), .mv (.tmp 70), none⟩] [0, 3, 4, 5]))
     (.skip)))))))
   (.reg [
       ⟨(some 17), .mv (.tmp 5), none⟩,
       ⟨(some 18), .bin .add (.tmp 17) (.const (.int .i64 1)), none⟩,
       ⟨(some 5), .mv (.tmp 18), none⟩] [0, 3, 4, 5]))))))
 (.seq (.reg [
     ⟨(some 71), .mv (.tmp 3), none⟩,
     ⟨(some 2), .mv (.tmp 71), none⟩] [2])
 (.ret)))))
theorem s_spec_l24Search_best : stripF Try.prog 121 [[0], [0, 3], [0, 3, 4], [0, 3, 4, 5], [0, 3, 4, 5], [0, 3, 4, 5, 16], [0, 3, 4, 5, 25], [0, 3, 4, 5, 6], [0, 3, 4, 5, 6, 7], [0, 3, 4, 5, 6, 7], [0, 3, 4, 5, 6, 7, 35], [0, 3, 4, 5, 6, 7, 59], [0, 3, 4, 5, 6, 7], [0, 3, 4, 5, 6, 7], [0, 3, 4, 5, 6, 68], [0, 3, 5, 6], [0, 3, 4, 5], [0, 3, 4, 5], [2]] = some (c_spec_l24Search_best, [.tmp 2], 72) := by kernel_rfl
def outA (acc : Option Nat) : Int := match acc with
  | none => -1
  | some x => (x : Int)
theorem pickC_len (O : List (List Int)) (D : List Int) (x : Int) : (chL O D x).length = ((List.range O.length).filter (pickC O D x)).length := by rw [chL_range, List.length_map]
section
variable {H : List Blk} {p pc n : Nat} {O : List (List Int)} {v : AV} {cnt nodes b : Int} {ch : List Int}
theorem spBest_ok (h : SpH H p pc n O (marks n (itemsOf O ch)) (offL O ch) v cnt nodes b) (hn : n ≤ 64) (hOl : O.length ≤ 256) :
    ACalls Try.prog f_spec_l24Search_best [.pc p 0 0] H (fun r H' => r = I (outA (bstI O (itemsOf O ch) n)) ∧ H' = H) := by
  have hpa := fun o => pc_alive (off := o) h.box
  have hpl := fun o => pc_ld (off := o) h.box
  have hca := fun o => pc_alive (off := o) h.cov
  have hcl := fun o => pc_ld (off := o) h.cov
  have hv := view_nm (n := n) h.done (by rw [List.length_map, h.dl])
  have hvo := view_nm (n := O.length) h.off (by rw [List.length_map, h.ol])
  have hoz := fun (i : Nat) => off_zero (O := O) (ch := ch) (i := i)
  generalize hD : itemsOf O ch = D at *
  refine ACalls.introB s_spec_l24Search_best (by simp) ?_; intro hB hA; unfold c_spec_l24Search_best; simp (config := { maxSteps := 1000000 }) (disch := (first | omega | (simp only [go_sem]; try omega))) only [go_sem, Nat.reduceAdd, Nat.reduceEqDiff, Nat.reduceLeDiff, Nat.reduceMul, Nat.reduceLT, reduceIte, Int.reduceToNat, w64_id, cast_succ]
  repeat (first | (with_reducible first | refine SW.seq ?_ | refine SW.block ?_ | refine SW.rowC ?_ | refine SW.skip ?_ | refine SW.exit ?_ | intro _ | refine And.intro (by omega) ?_) | simp (config := { maxSteps := 1000000 }) (disch := (first | omega | (simp only [go_sem]; try omega))) only [go_sem, Nat.reduceAdd, Nat.reduceEqDiff, Nat.reduceLeDiff, Nat.reduceMul, Nat.reduceLT, reduceIte, Int.reduceToNat, w64_id, cast_succ])
  refine SW.loopE (fun E0 H0 m E' H' => ∃ (i : Nat), i ≤ n ∧ m = n - i ∧ E' = aput (aput (aput E0 5 (I i)) 3 (I (outA (accC O D i)))) 4 (I ((lstC O D (accC O D i)).length : Int)) ∧ H' = H) n
    ⟨0, by omega, by omega, rfl, rfl⟩ ?_
  rintro m E' H' ⟨i, hi, rfl, rfl, rfl⟩
  have hsn := accC_succ O D i
  have hll := lstC_len O D (accC O D i)
  have hon : ∀ x, accC O D i = some x → x < n := fun x hx => by
    have := bst_some (O := O) (D := D) (List.range i) none (fun _ h => by cases h) x hx
    rcases this.2 with g | g
    · cases g
    · have := List.mem_range.1 g; omega
  generalize hacc : accC O D i = acc at *
  simp (config := { maxSteps := 1000000 }) (disch := (first | omega | (simp only [go_sem]; try omega))) only [go_sem, Nat.reduceAdd, Nat.reduceEqDiff, Nat.reduceLeDiff, Nat.reduceMul, Nat.reduceLT, reduceIte, Int.reduceToNat, w64_id, cast_succ]
  repeat (first | (with_reducible first | refine SW.seq ?_ | refine SW.block ?_ | refine SW.rowC ?_ | refine SW.skip ?_ | refine SW.exit ?_ | intro _ | refine And.intro (by omega) ?_) | simp (config := { maxSteps := 1000000 }) (disch := (first | omega | (simp only [go_sem]; try omega))) only [go_sem, Nat.reduceAdd, Nat.reduceEqDiff, Nat.reduceLeDiff, Nat.reduceMul, Nat.reduceLT, reduceIte, Int.reduceToNat, w64_id, cast_succ, hpa, hpl, hca, hcl])
  (first | refine SW.condD rfl (fun h2 => ?_) (fun h2 => ?_) | refine SW.condN rfl (fun h2 => ?_) (fun h2 => ?_) | refine SW.condNB rfl (fun h2 => ?_) (fun h2 => ?_) | refine SW.condB rfl (fun h2 => ?_) (fun h2 => ?_))
  · have hin : i < n := by omega
    have hg := marksB_get (n := n) (D := D) (x := (i : Int)) (by omega) (by omega)
    rw [Int.toNat_natCast] at hg
    cases hDi : D.contains (i : Int)
    · rw [hDi] at hg
      repeat (first | (with_reducible first | refine SW.seq ?_ | refine SW.block ?_ | refine SW.rowC ?_ | refine SW.skip ?_ | refine SW.exit ?_ | intro _ | refine And.intro (by omega) ?_) | simp (config := { maxSteps := 1000000 }) (disch := (first | omega | (simp only [go_sem]; try omega))) only [go_sem, Nat.reduceAdd, Nat.reduceEqDiff, Nat.reduceLeDiff, Nat.reduceMul, Nat.reduceLT, reduceIte, Int.reduceToNat, w64_id, cast_succ, hpa, hpl, hv, hg])
      refine SW.condF rfl ?_
      repeat (first | (with_reducible first | refine SW.seq ?_ | refine SW.block ?_ | refine SW.rowC ?_ | refine SW.skip ?_ | refine SW.exit ?_ | intro _ | refine And.intro (by omega) ?_) | simp (config := { maxSteps := 1000000 }) (disch := (first | omega | (simp only [go_sem]; try omega))) only [go_sem, Nat.reduceAdd, Nat.reduceEqDiff, Nat.reduceLeDiff, Nat.reduceMul, Nat.reduceLT, reduceIte, Int.reduceToNat, w64_id, cast_succ])
      refine SW.loopE (fun E0 H0 m E' H2 => ∃ (j : Nat), j ≤ O.length ∧ m = O.length - j ∧ E' = aput (aput E0 7 (I j)) 6 (I (((List.range j).filter (pickC O D (i : Int))).length : Int)) ∧ H2 = H') O.length
        ⟨0, by omega, by omega, rfl, rfl⟩ ?_
      rintro m E' H2 ⟨j, hj, rfl, rfl, rfl⟩
      have hfl : ((List.range j).filter (pickC O D (i : Int))).length ≤ 256 := Nat.le_trans (List.length_filter_le _ _) (by simp; omega)
      have hfs : ((List.range (j + 1)).filter (pickC O D (i : Int))).length = ((List.range j).filter (pickC O D (i : Int))).length + (if pickC O D (i : Int) j = true then 1 else 0) := by
        rw [List.range_succ, List.filter_append, List.length_append, List.filter_cons]
        split <;> rfl
      generalize hF : ((List.range j).filter (pickC O D (i : Int))).length = F at *
      simp (config := { maxSteps := 1000000 }) (disch := (first | omega | (simp only [go_sem]; try omega))) only [go_sem, Nat.reduceAdd, Nat.reduceEqDiff, Nat.reduceLeDiff, Nat.reduceMul, Nat.reduceLT, reduceIte, Int.reduceToNat, w64_id, cast_succ]
      repeat (first | (with_reducible first | refine SW.seq ?_ | refine SW.block ?_ | refine SW.rowC ?_ | refine SW.skip ?_ | refine SW.exit ?_ | intro _ | refine And.intro (by omega) ?_) | simp (config := { maxSteps := 1000000 }) (disch := (first | omega | (simp only [go_sem]; try omega))) only [go_sem, Nat.reduceAdd, Nat.reduceEqDiff, Nat.reduceLeDiff, Nat.reduceMul, Nat.reduceLT, reduceIte, Int.reduceToNat, w64_id, cast_succ, hpa, hpl, hca, hcl])
      (first | refine SW.condD rfl (fun h3 => ?_) (fun h3 => ?_) | refine SW.condN rfl (fun h3 => ?_) (fun h3 => ?_) | refine SW.condNB rfl (fun h3 => ?_) (fun h3 => ?_) | refine SW.condB rfl (fun h3 => ?_) (fun h3 => ?_))
      · have hjn : j < O.length := by omega
        have hgo : ((offL O ch).map I)[j]? = some (I ((ch.countP (meetC O j) : Nat) : Int)) := by
          rw [List.getElem?_map, List.getElem?_eq_getElem (by rw [offL_len]; exact hjn), ← getD_get (d := 0) (by rw [offL_len]; exact hjn), offL_get hjn]; rfl
        by_cases hz : ch.countP (meetC O j) = 0
        · have hop := (hoz j).1 hz
          have d1 : decide (((ch.countP (meetC O j) : Nat) : Int) = 0) = true := decide_eq_true (by omega)
          have hhas := l00Has_fn (O.getD j []) (i : Int)
          cases hhs : (O.getD j []).contains (i : Int)
          · rw [hhs] at hhas
            repeat (first | (with_reducible first | refine SW.seq ?_ | refine SW.block ?_ | refine SW.rowC ?_ | refine SW.skip ?_ | refine SW.exit ?_ | refine PFn.use (hhas) ?_ | refine PFn.useq (hhas) ?_ | intro _ | refine And.intro (by omega) ?_) | simp (config := { maxSteps := 1000000 }) (disch := (first | omega | (simp only [go_sem]; try omega))) only [go_sem, Nat.reduceAdd, Nat.reduceEqDiff, Nat.reduceLeDiff, Nat.reduceMul, Nat.reduceLT, reduceIte, Int.reduceToNat, w64_id, cast_succ, hpa, hpl, hca, hcl, hvo, hgo, d1])
            refine SW.condF rfl ?_
            repeat (first | (with_reducible first | refine SW.seq ?_ | refine SW.block ?_ | refine SW.rowC ?_ | refine SW.skip ?_ | refine SW.exit ?_ | intro _ | refine And.intro (by omega) ?_) | simp (config := { maxSteps := 1000000 }) (disch := (first | omega | (simp only [go_sem]; try omega))) only [go_sem, Nat.reduceAdd, Nat.reduceEqDiff, Nat.reduceLeDiff, Nat.reduceMul, Nat.reduceLT, reduceIte, Int.reduceToNat, w64_id, cast_succ])
            refine SLoop.next (O.length - (j + 1)) (by omega) ⟨j + 1, by omega, rfl, ?_, rfl⟩
            rw [hfs, if_neg (by unfold pickC; rw [hhs]; simp)]; simp [go_sem]
          · rw [hhs] at hhas
            repeat (first | (with_reducible first | refine SW.seq ?_ | refine SW.block ?_ | refine SW.rowC ?_ | refine SW.skip ?_ | refine SW.exit ?_ | refine PFn.use (hhas) ?_ | refine PFn.useq (hhas) ?_ | intro _ | refine And.intro (by omega) ?_) | simp (config := { maxSteps := 1000000 }) (disch := (first | omega | (simp only [go_sem]; try omega))) only [go_sem, Nat.reduceAdd, Nat.reduceEqDiff, Nat.reduceLeDiff, Nat.reduceMul, Nat.reduceLT, reduceIte, Int.reduceToNat, w64_id, cast_succ, hpa, hpl, hca, hcl, hvo, hgo, d1])
            refine SW.condT rfl ?_
            repeat (first | (with_reducible first | refine SW.seq ?_ | refine SW.block ?_ | refine SW.rowC ?_ | refine SW.skip ?_ | refine SW.exit ?_ | intro _ | refine And.intro (by omega) ?_) | simp (config := { maxSteps := 1000000 }) (disch := (first | omega | (simp only [go_sem]; try omega))) only [go_sem, Nat.reduceAdd, Nat.reduceEqDiff, Nat.reduceLeDiff, Nat.reduceMul, Nat.reduceLT, reduceIte, Int.reduceToNat, w64_id, cast_succ])
            refine SLoop.next (O.length - (j + 1)) (by omega) ⟨j + 1, by omega, rfl, ?_, rfl⟩
            rw [hfs, if_pos (by unfold pickC; rw [hhs, hop]; rfl)]; simp [go_sem]
        · have hop : ¬ opI O D (j : Int) = true := fun hh => hz ((hoz j).2 hh)
          have d1 : decide (((ch.countP (meetC O j) : Nat) : Int) = 0) = false := decide_eq_false (by omega)
          repeat (first | (with_reducible first | refine SW.seq ?_ | refine SW.block ?_ | refine SW.rowC ?_ | refine SW.skip ?_ | refine SW.exit ?_ | intro _ | refine And.intro (by omega) ?_) | simp (config := { maxSteps := 1000000 }) (disch := (first | omega | (simp only [go_sem]; try omega))) only [go_sem, Nat.reduceAdd, Nat.reduceEqDiff, Nat.reduceLeDiff, Nat.reduceMul, Nat.reduceLT, reduceIte, Int.reduceToNat, w64_id, cast_succ, hpa, hpl, hca, hcl, hvo, hgo, d1])
          refine SW.condF rfl ?_
          repeat (first | (with_reducible first | refine SW.seq ?_ | refine SW.block ?_ | refine SW.rowC ?_ | refine SW.skip ?_ | refine SW.exit ?_ | intro _ | refine And.intro (by omega) ?_) | simp (config := { maxSteps := 1000000 }) (disch := (first | omega | (simp only [go_sem]; try omega))) only [go_sem, Nat.reduceAdd, Nat.reduceEqDiff, Nat.reduceLeDiff, Nat.reduceMul, Nat.reduceLT, reduceIte, Int.reduceToNat, w64_id, cast_succ])
          refine SLoop.next (O.length - (j + 1)) (by omega) ⟨j + 1, by omega, rfl, ?_, rfl⟩
          rw [hfs, if_neg (by unfold pickC; rw [Bool.and_eq_true]; exact fun e => hop e.2)]; simp [go_sem]
      · have : j = O.length := by omega
        subst this
        rw [← pickC_len] at hF
        subst hF
        cases acc with
        | none =>
          have d1 : decide (outA none < 0) = true := rfl
          repeat (first | (with_reducible first | refine SW.seq ?_ | refine SW.block ?_ | refine SW.rowC ?_ | refine SW.skip ?_ | refine SW.exit ?_ | intro _ | refine And.intro (by omega) ?_) | simp (config := { maxSteps := 1000000 }) (disch := (first | omega | (simp only [go_sem]; try omega))) only [go_sem, Nat.reduceAdd, Nat.reduceEqDiff, Nat.reduceLeDiff, Nat.reduceMul, Nat.reduceLT, reduceIte, Int.reduceToNat, w64_id, cast_succ, d1])
          refine SW.condT rfl ?_
          repeat (first | (with_reducible first | refine SW.seq ?_ | refine SW.block ?_ | refine SW.rowC ?_ | refine SW.skip ?_ | refine SW.exit ?_ | intro _ | refine And.intro (by omega) ?_) | simp (config := { maxSteps := 1000000 }) (disch := (first | omega | (simp only [go_sem]; try omega))) only [go_sem, Nat.reduceAdd, Nat.reduceEqDiff, Nat.reduceLeDiff, Nat.reduceMul, Nat.reduceLT, reduceIte, Int.reduceToNat, w64_id, cast_succ])
          refine SLoop.next (n - (i + 1)) (by omega) ⟨i + 1, by omega, rfl, ?_, rfl⟩
          rw [hsn, bstS_none hDi]; simp [go_sem, outA, lstC]
        | some y =>
          have hyn := hon y rfl
          have hly := chL_len O D (y : Int)
          have d1 : decide (outA (some y) < 0) = false := decide_eq_false (by show ¬ ((y : Int) < 0); omega)
          have hl3 : (lstC O D (some y)).length = (chL O D (y : Int)).length := rfl
          by_cases hlt : (chL O D (i : Int)).length < (chL O D (y : Int)).length
          · have d2 : decide (((chL O D (i : Int)).length : Int) < ((lstC O D (some y)).length : Int)) = true := decide_eq_true (by rw [hl3]; omega)
            repeat (first | (with_reducible first | refine SW.seq ?_ | refine SW.block ?_ | refine SW.rowC ?_ | refine SW.skip ?_ | refine SW.exit ?_ | intro _ | refine And.intro (by omega) ?_) | simp (config := { maxSteps := 1000000 }) (disch := (first | omega | (simp only [go_sem]; try omega))) only [go_sem, Nat.reduceAdd, Nat.reduceEqDiff, Nat.reduceLeDiff, Nat.reduceMul, Nat.reduceLT, reduceIte, Int.reduceToNat, w64_id, cast_succ, d1, d2])
            refine SW.condT rfl ?_
            repeat (first | (with_reducible first | refine SW.seq ?_ | refine SW.block ?_ | refine SW.rowC ?_ | refine SW.skip ?_ | refine SW.exit ?_ | intro _ | refine And.intro (by omega) ?_) | simp (config := { maxSteps := 1000000 }) (disch := (first | omega | (simp only [go_sem]; try omega))) only [go_sem, Nat.reduceAdd, Nat.reduceEqDiff, Nat.reduceLeDiff, Nat.reduceMul, Nat.reduceLT, reduceIte, Int.reduceToNat, w64_id, cast_succ])
            refine SLoop.next (n - (i + 1)) (by omega) ⟨i + 1, by omega, rfl, ?_, rfl⟩
            rw [hsn, bstS_lt hDi hlt]; simp [go_sem, outA, lstC]
          · have d2 : decide (((chL O D (i : Int)).length : Int) < ((lstC O D (some y)).length : Int)) = false := decide_eq_false (by rw [hl3]; omega)
            repeat (first | (with_reducible first | refine SW.seq ?_ | refine SW.block ?_ | refine SW.rowC ?_ | refine SW.skip ?_ | refine SW.exit ?_ | intro _ | refine And.intro (by omega) ?_) | simp (config := { maxSteps := 1000000 }) (disch := (first | omega | (simp only [go_sem]; try omega))) only [go_sem, Nat.reduceAdd, Nat.reduceEqDiff, Nat.reduceLeDiff, Nat.reduceMul, Nat.reduceLT, reduceIte, Int.reduceToNat, w64_id, cast_succ, d1, d2])
            refine SW.condF rfl ?_
            repeat (first | (with_reducible first | refine SW.seq ?_ | refine SW.block ?_ | refine SW.rowC ?_ | refine SW.skip ?_ | refine SW.exit ?_ | intro _ | refine And.intro (by omega) ?_) | simp (config := { maxSteps := 1000000 }) (disch := (first | omega | (simp only [go_sem]; try omega))) only [go_sem, Nat.reduceAdd, Nat.reduceEqDiff, Nat.reduceLeDiff, Nat.reduceMul, Nat.reduceLT, reduceIte, Int.reduceToNat, w64_id, cast_succ])
            refine SLoop.next (n - (i + 1)) (by omega) ⟨i + 1, by omega, rfl, ?_, rfl⟩
            rw [hsn, bstS_ge hDi hlt]; simp [go_sem]
    · rw [hDi] at hg
      repeat (first | (with_reducible first | refine SW.seq ?_ | refine SW.block ?_ | refine SW.rowC ?_ | refine SW.skip ?_ | refine SW.exit ?_ | intro _ | refine And.intro (by omega) ?_) | simp (config := { maxSteps := 1000000 }) (disch := (first | omega | (simp only [go_sem]; try omega))) only [go_sem, Nat.reduceAdd, Nat.reduceEqDiff, Nat.reduceLeDiff, Nat.reduceMul, Nat.reduceLT, reduceIte, Int.reduceToNat, w64_id, cast_succ, hpa, hpl, hv, hg])
      refine SW.condT rfl ?_
      repeat (first | (with_reducible first | refine SW.seq ?_ | refine SW.block ?_ | refine SW.rowC ?_ | refine SW.skip ?_ | refine SW.exit ?_ | intro _ | refine And.intro (by omega) ?_) | simp (config := { maxSteps := 1000000 }) (disch := (first | omega | (simp only [go_sem]; try omega))) only [go_sem, Nat.reduceAdd, Nat.reduceEqDiff, Nat.reduceLeDiff, Nat.reduceMul, Nat.reduceLT, reduceIte, Int.reduceToNat, w64_id, cast_succ])
      refine SLoop.next (n - (i + 1)) (by omega) ⟨i + 1, by omega, rfl, ?_, rfl⟩
      rw [hsn, show bstS O D acc i = acc by unfold bstS; rw [if_pos hDi]]; simp [go_sem]
  · have : i = n := by omega
    subst this
    repeat (first | (with_reducible first | refine SW.seq ?_ | refine SW.block ?_ | refine SW.rowC ?_ | refine SW.skip ?_ | refine SW.exit ?_ | intro _ | refine And.intro (by omega) ?_) | simp (config := { maxSteps := 1000000 }) (disch := (first | omega | (simp only [go_sem]; try omega))) only [go_sem, Nat.reduceAdd, Nat.reduceEqDiff, Nat.reduceLeDiff, Nat.reduceMul, Nat.reduceLT, reduceIte, Int.reduceToNat, w64_id, cast_succ])
    refine SW.ret ?_; (try simp only [go_sem]); (first | refine FunPost.one ?_ | refine FunPost.two ?_ | refine FunPost.three ?_); (try simp (config := { maxSteps := 1000000 }) (disch := (first | omega | (simp only [go_sem]; try omega))) only [go_sem, Nat.reduceAdd, Nat.reduceEqDiff, Nat.reduceLeDiff, Nat.reduceMul, Nat.reduceLT, reduceIte, Int.reduceToNat, w64_id, cast_succ])
    rw [show bstI O D i = acc from hacc]
    exact GR.of ⟨rfl, rfl⟩
end
end Go.Proofs.Ytpaagkipnlbibaa
