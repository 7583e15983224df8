/- Squares of zeros, filled in place. -/
import Derived.Test.YtflnjgeoegofdaaProg
import Derived.KernelRfl
import Derived.Test.YtflnjgeoegofdaazU1
import Derived.Test.YtflnjgeoegofdaazK20
set_option linter.unusedSimpArgs false
set_option linter.unusedVariables false
set_option maxHeartbeats 4000000
set_option maxRecDepth 100000
namespace Go.Proofs.Ytflnjgeoegofdaa
open Go.Av
abbrev f_spec_l06Zero : Nat := 14
def c_spec_l06Zero : SC :=
 .seq (.reg [
     ⟨(some 4), .mv (.const (.slice none 0 0)), none⟩] [0, 1])
 (.seq (.reg [
     ⟨(some 7), .bslice 30 1 0 [] [], none⟩,
     ⟨(some 5), .mv (.tmp 7), none⟩] [0, 1, 5])
 (.seq (.seq (.reg [
     ⟨(some 6), .mv (.const (.int .i64 0)), none⟩] [0, 1, 5, 6])
 (.block 0 (.loop [0, 1, 5, 6]
   (.seq (.seq (.reg [
       ⟨(some 8), .mv (.tmp 6), none⟩,
       ⟨(some 9), .mv (.tmp 0), none⟩,
       ⟨(some 10), .bin .lss (.tmp 8) (.tmp 9), none⟩] [0, 1, 5, 6, 10])
   (.cond (.tmp 10)
    (.skip)
    (.exit 0)))
   (.seq (.block 1 (.reg [
        ⟨(some 13), .mv (.tmp 5), none⟩,
        ⟨(some 14), .mv (.tmp 1), none⟩,
        ⟨(some 15), .mslice 2 8 (.int .i64 0) (.tmp 14) (.tmp 14), none⟩,
        ⟨(some 16), .bslice 30 1 1 [(.slice none 0 0)] [(0, (.tmp 15))], none⟩,
        ⟨(some 17), .app 30 1 24 (.tmp 13) (.tmp 16), none⟩,
        ⟨(some 5), .mv (.tmp 17), none⟩] [0, 1, 5, 6]))
   (.reg [
       ⟨(some 11), .mv (.tmp 6), none⟩,
       ⟨(some 12), .bin .add (.tmp 11) (.const (.int .i64 1)), none⟩,
       ⟨(some 6), .mv (.tmp 12), none⟩] [0, 1, 5, 6]))))))
 (.seq (.reg [
     ⟨(some 18), .mv (.tmp 5), none⟩,
     ⟨(some 4), .mv (.tmp 18), none⟩] [4])
 (.ret))))
theorem s_spec_l06Zero : stripF Try.prog 14 [[0, 1], [0, 1, 5], [0, 1, 5, 6], [0, 1, 5, 6], [0, 1, 5, 6, 10], [0, 1, 5, 6], [0, 1, 5, 6], [4]] = some (c_spec_l06Zero, [.tmp 4], 19) := by kernel_rfl
theorem getD_get {α : Type} {l : List α} {k : Nat} {d : α} (h : k < l.length) : l.getD k d = l[k] := by
  rw [List.getD_eq_getElem?_getD, List.getElem?_eq_getElem h]; rfl
def setC (sq : List (List Int)) (x y : Nat) (v : Int) : List (List Int) := sq.set x ((sq.getD x []).set y v)
theorem setC_ok {n : Nat} {sq : List (List Int)} (h : sq.length = n ∧ ∀ r ∈ sq, r.length = n) {x y : Nat} {v : Int} : (setC sq x y v).length = n ∧ ∀ r ∈ setC sq x y v, r.length = n := by
  refine ⟨by simp [setC, h.1], fun r hr => ?_⟩
  unfold setC at hr
  by_cases hx : x < sq.length
  · rcases List.mem_or_eq_of_mem_set hr with hr | rfl
    · exact h.2 r hr
    · rw [List.length_set]; exact h.2 _ (by rw [getD_get hx]; exact List.getElem_mem _)
  · rw [List.set_eq_of_length_le (by omega)] at hr; exact h.2 r hr
theorem setC_twice {sq : List (List Int)} {x y : Nat} {u v : Int} (hx : x < sq.length) : setC (setC sq x y u) x y v = setC sq x y v := by
  unfold setC
  have e : (sq.set x ((sq.getD x []).set y u)).getD x [] = (sq.getD x []).set y u := by simp [List.getD_eq_getElem?_getD, hx]
  rw [e, List.set_set, List.set_set]
section
variable {H : List Blk} {n w x y : Nat} {sq : List (List Int)} {ext : List Blk}
theorem q0w : (sqB n w H.length sq ++ ext)[0]? = some ⟨n, 30, 1, nmsV w (H.length + 1) sq⟩ := rfl
theorem qtakew (hs : sq.length = n) : (nmsV w (H.length + 1) sq).take n = nmsV w (H.length + 1) sq := List.take_of_length_le (by rw [nmsV_length]; omega)
theorem qcellw (hs : sq.length = n ∧ ∀ r ∈ sq, r.length = n) (hx : x < n) : (nmsV w (H.length + 1) sq)[x]? = some (.nm (H.length + (x + 1)) w 0 n) := by
  have hx' : x < sq.length := by omega
  have := sq_cell (Hb := H) (w := w) hx'
  rw [this, hs.2 (sq.getD x []) (by rw [getD_get hx']; exact List.getElem_mem _), show H.length + 1 + x = H.length + (x + 1) by omega]
theorem qroww (hs : sq.length = n) (hx : x < n) : (sqB n w H.length sq ++ ext)[x + 1]? = some ⟨w, 2, 1, (sq.getD x []).map I⟩ := by
  rw [List.getElem?_append_left (by rw [sqB_length]; omega)]
  simp [sqB, rowsV, List.getElem?_eq_getElem (show x < sq.length by omega)]
theorem qsetw (hs : sq.length = n) (hx : x < n) (v : Int) : (sqB n w H.length sq ++ ext).set (x + 1) ⟨w, 2, 1, ((sq.getD x []).set y v).map I⟩ = sqB n w H.length (setC sq x y v) ++ ext := by
  rw [List.set_append_left _ _ (by rw [sqB_length]; omega)]
  congr 1
  unfold sqB setC
  rw [List.set_cons_succ]
  congr 1
  · congr 1
    refine nmsV_congr _ _ ?_
    apply List.ext_getElem?
    intro i
    rw [List.getElem?_map, List.getElem?_map, List.getElem?_set]
    have hxl : x < sq.length := by omega
    by_cases hi : x = i
    · subst hi; simp [hxl]
    · simp [hi]
  · unfold rowsV
    simp only [List.map_set]
end
theorem l06Zero_sq (H : List Blk) (n m : Nat) (hn : n ≤ 1000 ∧ m ≤ 1000) :
    ACalls Try.prog f_spec_l06Zero [I n, I m] H (fun r H' => r = .nm H.length n 0 n ∧ H' = H ++ sqB n 0 H.length (List.replicate n (List.replicate m 0))) := by
  refine ACalls.introB s_spec_l06Zero (by simp) ?_; intro hB hA; unfold c_spec_l06Zero; simp (config := { maxSteps := 1000000 }) (disch := (first | omega | (simp only [go_sem]; try omega))) only [go_sem, Nat.reduceAdd, Nat.reduceEqDiff, Nat.reduceLeDiff, Nat.reduceMul, Nat.reduceLT, reduceIte, Int.reduceToNat, w64_id, cast_succ]
  repeat (first | (with_reducible first | refine SW.seq ?_ | refine SW.block ?_ | refine SW.rowC ?_ | refine SW.skip ?_ | refine SW.exit ?_ | intro _ | refine And.intro (by omega) ?_) | simp (config := { maxSteps := 1000000 }) (disch := (first | omega | (simp only [go_sem]; try omega))) only [go_sem, Nat.reduceAdd, Nat.reduceEqDiff, Nat.reduceLeDiff, Nat.reduceMul, Nat.reduceLT, reduceIte, Int.reduceToNat, w64_id, cast_succ])
  refine SW.loopE (fun E0 H0 q E' H' => ∃ i : Nat, i ≤ n ∧ q = n - i ∧ E' = aput (aput E0 6 (I i)) 5 (.nm H.length i 0 i) ∧ H' = H ++ sqB i 0 H.length (List.replicate i (List.replicate m 0))) n ⟨0, by omega, by omega, rfl, rfl⟩ ?_
  rintro q E' H' ⟨i, hi, rfl, rfl, rfl⟩
  have htl : (List.replicate i (List.replicate m (0 : Int))).length = i := by simp
  have hts : List.replicate (i + 1) (List.replicate m (0 : Int)) = List.replicate i (List.replicate m (0 : Int)) ++ [List.replicate m 0] := List.replicate_succ'
  have hrp : List.replicate m (AV.lit (Value.int .i64 0)) = (List.replicate m (0 : Int)).map I := by rw [List.map_replicate]; rfl
  have hrl : (List.replicate m (0 : Int)).length = m := by simp
  generalize hT : List.replicate i (List.replicate m (0 : Int)) = T at *
  have hL := sqB_length i 0 H.length T
  rw [htl] at hL
  simp (config := { maxSteps := 1000000 }) (disch := (first | omega | (simp only [go_sem]; try omega))) only [go_sem, Nat.reduceAdd, Nat.reduceEqDiff, Nat.reduceLeDiff, Nat.reduceMul, Nat.reduceLT, reduceIte, Int.reduceToNat, w64_id, cast_succ]
  repeat (first | (with_reducible first | refine SW.seq ?_ | refine SW.block ?_ | refine SW.rowC ?_ | refine SW.skip ?_ | refine SW.exit ?_ | intro _ | refine And.intro (by omega) ?_) | simp (config := { maxSteps := 1000000 }) (disch := (first | omega | (simp only [go_sem]; try omega))) only [go_sem, Nat.reduceAdd, Nat.reduceEqDiff, Nat.reduceLeDiff, Nat.reduceMul, Nat.reduceLT, reduceIte, Int.reduceToNat, w64_id, cast_succ])
  (first | refine SW.condD rfl (fun h => ?_) (fun h => ?_) | refine SW.condN rfl (fun h => ?_) (fun h => ?_) | refine SW.condNB rfl (fun h => ?_) (fun h => ?_) | refine SW.condB rfl (fun h => ?_) (fun h => ?_))
  · have hlt : i < n := by omega
    have hg2 : ∀ a b : Blk, (sqB i 0 H.length T ++ [a, b])[i + 2]? = some b := by
      intro a b
      rw [List.getElem?_append_right (by omega), hL, show i + 2 - (i + 1) = 1 by omega]; rfl
    have hg2' : ∀ a b : Blk, (sqB i 0 H.length T ++ [a, b])[i + 1 + 1]? = some b := hg2
    have hSq : sqB i 0 H.length T = ⟨i, 30, 1, nmsV 0 (H.length + 1) T⟩ :: rowsV 0 T := rfl
    have hnt : (nmsV 0 (H.length + 1) T).take i = nmsV 0 (H.length + 1) T := List.take_of_length_le (by rw [nmsV_length]; omega)
    have hnl := nmsV_length 0 (H.length + 1) T
    repeat (first | (with_reducible first | refine SW.seq ?_ | refine SW.block ?_ | refine SW.rowC ?_ | refine SW.skip ?_ | refine SW.exit ?_ | intro _ | refine And.intro (by omega) ?_) | simp (config := { maxSteps := 1000000 }) (disch := (first | omega | (simp only [go_sem]; try omega))) only [go_sem, Nat.reduceAdd, Nat.reduceEqDiff, Nat.reduceLeDiff, Nat.reduceMul, Nat.reduceLT, reduceIte, Int.reduceToNat, w64_id, cast_succ, hL, hg2, hg2', hrp])
    repeat (first | (with_reducible first | refine SW.seq ?_ | refine SW.block ?_ | refine SW.rowC ?_ | refine SW.skip ?_ | refine SW.exit ?_ | intro _ | refine And.intro (by omega) ?_) | simp (config := { maxSteps := 1000000 }) (disch := (first | omega | (simp only [go_sem]; try omega))) only [go_sem, Nat.reduceAdd, Nat.reduceEqDiff, Nat.reduceLeDiff, Nat.reduceMul, Nat.reduceLT, reduceIte, Int.reduceToNat, w64_id, cast_succ, hSq, hnt, hnl, htl, hrp])
    have hL1 : (sqB (i + 1) 0 H.length (T ++ [List.replicate m (0 : Int)])).length = i + 2 := by rw [sqB_length]; simp; omega
    refine SLoop.nextE (L := sqB (i + 1) 0 H.length (T ++ [List.replicate m (0 : Int)])) (n - (i + 1)) ⟨_, by rw [sqB_snoc, List.cons_append, List.append_assoc, show H.length + 1 + T.length = H.length + (i + 1) by omega, hrl]; rfl⟩ hB (by omega) (by omega) ?_ ?_ ⟨i + 1, by omega, rfl, ?_, by rw [hts]⟩
    · rw [hL1]
      (simp only [go_sem, Nat.reduceAdd, Nat.reduceEqDiff, reduceIte, go_sem, and_self, and_true, true_and, implies_true, List.take_succ_cons, List.take_zero, and_true, true_and]; try omega)
    · rw [hL1]; exact sqB_BB (by simp; omega)
    · simp [go_sem]
  · have : i = n := by omega
    subst this
    repeat (first | (with_reducible first | refine SW.seq ?_ | refine SW.block ?_ | refine SW.rowC ?_ | refine SW.skip ?_ | refine SW.exit ?_ | intro _ | refine And.intro (by omega) ?_) | simp (config := { maxSteps := 1000000 }) (disch := (first | omega | (simp only [go_sem]; try omega))) only [go_sem, Nat.reduceAdd, Nat.reduceEqDiff, Nat.reduceLeDiff, Nat.reduceMul, Nat.reduceLT, reduceIte, Int.reduceToNat, w64_id, cast_succ])
    refine SW.ret ?_; (try simp only [go_sem]); (first | refine FunPost.one ?_ | refine FunPost.two ?_ | refine FunPost.three ?_); (try simp (config := { maxSteps := 1000000 }) (disch := (first | omega | (simp only [go_sem]; try omega))) only [go_sem, Nat.reduceAdd, Nat.reduceEqDiff, Nat.reduceLeDiff, Nat.reduceMul, Nat.reduceLT, reduceIte, Int.reduceToNat, w64_id, cast_succ])
    exact GR.of ⟨rfl, by rw [hT]⟩
end Go.Proofs.Ytflnjgeoegofdaa
