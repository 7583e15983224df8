/- Copies of rows as squares of the caller's own. -/
import Derived.Test.YtchehdplcbffmaaProg
import Derived.KernelRfl
import Derived.Test.YtchehdplcbffmaazQZ
set_option linter.unusedSimpArgs false
set_option linter.unusedVariables false
set_option maxHeartbeats 4000000
set_option maxRecDepth 100000
namespace Go.Proofs.Ytchehdplcbffmaa
open Go.Av
abbrev f_spec_l06Own : Nat := 37
def c_spec_l06Own : SC :=
 .seq (.reg [
     ⟨(some 2), .mv (.const (.slice none 0 0)), none⟩] [0])
 (.seq (.reg [
     ⟨(some 5), .bslice 33 1 0 [] [], none⟩,
     ⟨(some 3), .mv (.tmp 5), none⟩] [0, 3])
 (.seq (.seq (.reg [
     ⟨(some 4), .mv (.const (.int .i64 0)), none⟩] [0, 3, 4])
 (.block 0 (.loop [0, 3, 4]
   (.seq (.seq (.reg [
       ⟨(some 6), .mv (.tmp 4), none⟩,
       ⟨(some 7), .mv (.tmp 0), none⟩,
       ⟨(some 8), .len (.tmp 7), none⟩,
       ⟨(some 9), .bin .lss (.tmp 6) (.tmp 8), none⟩] [0, 3, 4, 9])
   (.cond (.tmp 9)
    (.skip)
    (.exit 0)))
   (.seq (.block 1 (.reg [
        ⟨(some 12), .mv (.tmp 3), none⟩,
        ⟨(some 13), .mv (.tmp 0), none⟩,
        ⟨(some 14), .mv (.tmp 4), none⟩,
        ⟨(some 15), .iaddr 1 (.tmp 13) (.tmp 14), none⟩,
        ⟨(some 16), .load 1 false (.tmp 15), none⟩,
        ⟨(some 17), .call 80 [(.tmp 16)], none⟩,
        ⟨(some 18), .bslice 33 1 1 [(.slice none 0 0)] [(0, (.tmp 17))], none⟩,
        ⟨(some 19), .app 33 1 24 (.tmp 12) (.tmp 18), none⟩,
        ⟨(some 3), .mv (.tmp 19), none⟩] [0, 3, 4]))
   (.reg [
       ⟨(some 10), .mv (.tmp 4), none⟩,
       ⟨(some 11), .bin .add (.tmp 10) (.const (.int .i64 1)), none⟩,
       ⟨(some 4), .mv (.tmp 11), none⟩] [0, 3, 4]))))))
 (.seq (.reg [
     ⟨(some 20), .mv (.tmp 3), none⟩,
     ⟨(some 2), .mv (.tmp 20), none⟩] [2])
 (.ret))))
theorem s_spec_l06Own : stripF Try.prog 37 [[0], [0, 3], [0, 3, 4], [0, 3, 4], [0, 3, 4, 9], [0, 3, 4], [0, 3, 4], [2]] = some (c_spec_l06Own, [.tmp 2], 21) := by kernel_rfl
abbrev f_spec_l00Own : Nat := 80
def c_spec_l00Own : SC :=
 .seq (.reg [
     ⟨(some 2), .mv (.const (.slice none 0 0)), none⟩] [0])
 (.seq (.reg [
     ⟨(some 3), .bslice 2 1 0 [] [], none⟩,
     ⟨(some 4), .mv (.tmp 0), none⟩,
     ⟨(some 5), .app 2 1 8 (.tmp 3) (.tmp 4), none⟩,
     ⟨(some 2), .mv (.tmp 5), none⟩] [2])
 (.ret))
theorem s_spec_l00Own : stripF Try.prog 80 [[0], [2]] = some (c_spec_l00Own, [.tmp 2], 6) := by kernel_rfl
theorem l00Own_ok (H : List Blk) (a : AV) (xs : List Int) (ha : RdS H a xs) (hl : xs.length ≤ 1000000) : ACalls Try.prog f_spec_l00Own [a] H (fun r H' => r = .nm H.length 1 0 xs.length ∧ H' = H ++ [⟨1, 2, 1, xs.map I⟩]) := by
  have hva : ∀ ext, aview (H ++ ext) a = some (xs.length, xs.map I) := fun ext => ha.append ext
  refine ACalls.introB s_spec_l00Own (by simp) ?_; intro hB hA; unfold c_spec_l00Own; simp (config := { maxSteps := 1000000 }) (disch := (first | omega | (simp only [go_sem]; try omega))) only [go_sem, Nat.reduceAdd, Nat.reduceEqDiff, Nat.reduceLeDiff, Nat.reduceMul, Nat.reduceLT, reduceIte, Int.reduceToNat, w64_id, cast_succ]
  repeat (first | (with_reducible first | refine SW.seq ?_ | refine SW.block ?_ | refine SW.rowC ?_ | refine SW.skip ?_ | refine SW.exit ?_ | intro _ | refine And.intro (by omega) ?_) | simp (config := { maxSteps := 1000000 }) (disch := (first | omega | (simp only [go_sem]; try omega))) only [go_sem, Nat.reduceAdd, Nat.reduceEqDiff, Nat.reduceLeDiff, Nat.reduceMul, Nat.reduceLT, reduceIte, Int.reduceToNat, w64_id, cast_succ, hva])
  refine SW.ret ?_; (try simp only [go_sem]); (first | refine FunPost.one ?_ | refine FunPost.two ?_ | refine FunPost.three ?_); (try simp (config := { maxSteps := 1000000 }) (disch := (first | omega | (simp only [go_sem]; try omega))) only [go_sem, Nat.reduceAdd, Nat.reduceEqDiff, Nat.reduceLeDiff, Nat.reduceMul, Nat.reduceLT, reduceIte, Int.reduceToNat, w64_id, cast_succ])
  exact GR.of ⟨rfl, rfl⟩
theorem l06Own_sq (H : List Blk) (a : AV) (xss : List (List Int)) (ha : RdSS H a xss) (hx : xss.length ≤ 1000000) (hl : ∀ r ∈ xss, r.length ≤ 1000000) :
    ACalls Try.prog f_spec_l06Own [a] H (fun r H' => r = .nm H.length xss.length 0 xss.length ∧ H' = H ++ sqB xss.length 1 H.length xss) := by
  obtain ⟨cells, hv, hcl, hrd⟩ := ha
  have hva : ∀ ext, aview (H ++ ext) a = some (xss.length, cells) := fun ext => aview_append hv ext
  refine ACalls.introB s_spec_l06Own (by simp) ?_; intro hB hA; unfold c_spec_l06Own; simp (config := { maxSteps := 1000000 }) (disch := (first | omega | (simp only [go_sem]; try omega))) only [go_sem, Nat.reduceAdd, Nat.reduceEqDiff, Nat.reduceLeDiff, Nat.reduceMul, Nat.reduceLT, reduceIte, Int.reduceToNat, w64_id, cast_succ]
  repeat (first | (with_reducible first | refine SW.seq ?_ | refine SW.block ?_ | refine SW.rowC ?_ | refine SW.skip ?_ | refine SW.exit ?_ | intro _ | refine And.intro (by omega) ?_) | simp (config := { maxSteps := 1000000 }) (disch := (first | omega | (simp only [go_sem]; try omega))) only [go_sem, Nat.reduceAdd, Nat.reduceEqDiff, Nat.reduceLeDiff, Nat.reduceMul, Nat.reduceLT, reduceIte, Int.reduceToNat, w64_id, cast_succ, hva])
  refine SW.loopE (fun E0 H0 q E' H' => ∃ i : Nat, i ≤ xss.length ∧ q = xss.length - i ∧ E' = aput (aput E0 4 (I i)) 3 (.nm H.length i 0 i) ∧ H' = H ++ sqB i 1 H.length (xss.take i)) xss.length ⟨0, by omega, by omega, rfl, rfl⟩ ?_
  rintro q E' H' ⟨i, hi, rfl, rfl, rfl⟩
  have htl : (xss.take i).length = i := by simp; omega
  generalize hT : xss.take i = T at *
  have hL := sqB_length i 1 H.length T
  rw [htl] at hL
  simp (config := { maxSteps := 1000000 }) (disch := (first | omega | (simp only [go_sem]; try omega))) only [go_sem, Nat.reduceAdd, Nat.reduceEqDiff, Nat.reduceLeDiff, Nat.reduceMul, Nat.reduceLT, reduceIte, Int.reduceToNat, w64_id, cast_succ]
  repeat (first | (with_reducible first | refine SW.seq ?_ | refine SW.block ?_ | refine SW.rowC ?_ | refine SW.skip ?_ | refine SW.exit ?_ | intro _ | refine And.intro (by omega) ?_) | simp (config := { maxSteps := 1000000 }) (disch := (first | omega | (simp only [go_sem]; try omega))) only [go_sem, Nat.reduceAdd, Nat.reduceEqDiff, Nat.reduceLeDiff, Nat.reduceMul, Nat.reduceLT, reduceIte, Int.reduceToNat, w64_id, cast_succ, hva])
  (first | refine SW.condD rfl (fun h => ?_) (fun h => ?_) | refine SW.condN rfl (fun h => ?_) (fun h => ?_) | refine SW.condNB rfl (fun h => ?_) (fun h => ?_) | refine SW.condB rfl (fun h => ?_) (fun h => ?_))
  · have hlt : i < xss.length := by omega
    have hcl2 : i < cells.length := by omega
    have hci := List.getElem?_eq_getElem hcl2
    have hxi := List.getElem?_eq_getElem hlt
    have hrow := hrd i _ _ hci hxi
    have hts : xss.take (i + 1) = T ++ [xss[i]] := by rw [List.take_add_one, hT, hxi]; rfl
    have hlr := hl xss[i] (List.getElem_mem _)
    generalize cells[i] = c at *
    generalize xss[i] = row at *
    repeat (first | (with_reducible first | refine SW.seq ?_ | refine SW.block ?_ | refine SW.rowC ?_ | refine SW.skip ?_ | refine SW.exit ?_ | intro _ | refine And.intro (by omega) ?_) | simp (config := { maxSteps := 1000000 }) (disch := (first | omega | (simp only [go_sem]; try omega))) only [go_sem, Nat.reduceAdd, Nat.reduceEqDiff, Nat.reduceLeDiff, Nat.reduceMul, Nat.reduceLT, reduceIte, Int.reduceToNat, w64_id, cast_succ, hva, hci])
    refine (l00Own_ok _ c row (hrow.append _) (by omega)).mono ?_
    rintro r H1 ⟨rfl, rfl⟩
    have hg2 : ∀ a b : Blk, (sqB i 1 H.length T ++ [a, b])[i + 2]? = some b := by
      intro a b
      rw [List.getElem?_append_right (by omega), hL, show i + 2 - (i + 1) = 1 by omega]; rfl
    have hg2' : ∀ a b : Blk, (sqB i 1 H.length T ++ [a, b])[i + 1 + 1]? = some b := hg2
    have hSq : sqB i 1 H.length T = ⟨i, 33, 1, nmsV 1 (H.length + 1) T⟩ :: rowsV 1 T := rfl
    have hnt : (nmsV 1 (H.length + 1) T).take i = nmsV 1 (H.length + 1) T := List.take_of_length_le (by rw [nmsV_length]; omega)
    have hnl := nmsV_length 1 (H.length + 1) T
    repeat (first | (with_reducible first | refine SW.seq ?_ | refine SW.block ?_ | refine SW.rowC ?_ | refine SW.skip ?_ | refine SW.exit ?_ | intro _ | refine And.intro (by omega) ?_) | simp (config := { maxSteps := 1000000 }) (disch := (first | omega | (simp only [go_sem]; try omega))) only [go_sem, Nat.reduceAdd, Nat.reduceEqDiff, Nat.reduceLeDiff, Nat.reduceMul, Nat.reduceLT, reduceIte, Int.reduceToNat, w64_id, cast_succ, hL, hg2, hg2'])
    repeat (first | (with_reducible first | refine SW.seq ?_ | refine SW.block ?_ | refine SW.rowC ?_ | refine SW.skip ?_ | refine SW.exit ?_ | intro _ | refine And.intro (by omega) ?_) | simp (config := { maxSteps := 1000000 }) (disch := (first | omega | (simp only [go_sem]; try omega))) only [go_sem, Nat.reduceAdd, Nat.reduceEqDiff, Nat.reduceLeDiff, Nat.reduceMul, Nat.reduceLT, reduceIte, Int.reduceToNat, w64_id, cast_succ, hSq, hnt, hnl, htl])
    have hL1 : (sqB (i + 1) 1 H.length (T ++ [row])).length = i + 2 := by rw [sqB_length]; simp; omega
    refine SLoop.nextE (L := sqB (i + 1) 1 H.length (T ++ [row])) (xss.length - (i + 1)) ⟨_, by rw [sqB_snoc, List.cons_append, List.append_assoc, show H.length + 1 + T.length = H.length + (i + 1) by omega]; rfl⟩ hB (by omega) (by omega) ?_ ?_ ⟨i + 1, by omega, rfl, ?_, by rw [hts]⟩
    · rw [hL1]
      have ha2 : Bel H.length a := hA a (by simp)
      have ha3 := ha2.mono (show H.length ≤ H.length + (i + 2) by omega)
      simp only [go_sem, Nat.reduceAdd, Nat.reduceEqDiff, reduceIte, and_true, true_and]
      first | exact ⟨by omega, ha3⟩ | exact ⟨ha3, by omega⟩
    · rw [hL1]; exact sqB_BB (by simp; omega)
    · simp [go_sem]
  · have : i = xss.length := by omega
    subst this
    rw [List.take_length] at hT
    subst hT
    repeat (first | (with_reducible first | refine SW.seq ?_ | refine SW.block ?_ | refine SW.rowC ?_ | refine SW.skip ?_ | refine SW.exit ?_ | intro _ | refine And.intro (by omega) ?_) | simp (config := { maxSteps := 1000000 }) (disch := (first | omega | (simp only [go_sem]; try omega))) only [go_sem, Nat.reduceAdd, Nat.reduceEqDiff, Nat.reduceLeDiff, Nat.reduceMul, Nat.reduceLT, reduceIte, Int.reduceToNat, w64_id, cast_succ])
    refine SW.ret ?_; (try simp only [go_sem]); (first | refine FunPost.one ?_ | refine FunPost.two ?_ | refine FunPost.three ?_); (try simp (config := { maxSteps := 1000000 }) (disch := (first | omega | (simp only [go_sem]; try omega))) only [go_sem, Nat.reduceAdd, Nat.reduceEqDiff, Nat.reduceLeDiff, Nat.reduceMul, Nat.reduceLT, reduceIte, Int.reduceToNat, w64_id, cast_succ])
    exact GR.of ⟨rfl, rfl⟩
end Go.Proofs.Ytchehdplcbffmaa
