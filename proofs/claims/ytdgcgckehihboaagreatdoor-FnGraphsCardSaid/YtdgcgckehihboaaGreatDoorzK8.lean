/- Subsets in order: ranks, the next one, all of them. -/
import Derived.Test.YtdgcgckehihboaaGreatDoorProg
import Derived.KernelRfl
import Derived.Test.YtdgcgckehihboaaGreatDoorzK2
set_option linter.unusedSimpArgs false
set_option linter.unusedVariables false
set_option linter.unusedSectionVars false
set_option maxHeartbeats 4000000
set_option maxRecDepth 100000
namespace Go.Proofs.YtdgcgckehihboaaGreatDoor
variable [Go.Av.DoorC]
open Go.Av
abbrev f_slices_Clone_Lint64_int64 : Nat := 32
def c_slices_Clone_Lint64_int64 : SC :=
 .seq (.reg [
     ⟨(some 2), .mv (.const (.slice none 0 0)), none⟩] [0])
 (.seq (.seq (.reg [
     ⟨(some 3), .mv (.tmp 0), none⟩,
     ⟨(some 4), .isnil false (.tmp 3), none⟩] [0, 4])
 (.cond (.tmp 4)
  (.seq (.reg [
      ⟨(some 2), .mv (.const (.slice none 0 0)), none⟩] [2])
  (.ret))
  (.skip)))
 (.seq (.reg [
     ⟨(some 5), .bslice 2 1 0 [] [], none⟩,
     ⟨(some 6), .mv (.tmp 0), none⟩,
     ⟨(some 7), .app 2 1 8 (.tmp 5) (.tmp 6), none⟩,
     ⟨(some 2), .mv (.tmp 7), none⟩] [2])
 (.ret)))
theorem s_slices_Clone_Lint64_int64 : stripF Tryz.prog 32 [[0], [0, 4], [2], [2]] = some (c_slices_Clone_Lint64_int64, [.tmp 2], 8) := by kernel_rfl
abbrev f_impl_identity : Nat := 53
def c_impl_identity : SC :=
 .seq (.reg [
     ⟨(some 2), .mv (.const (.slice none 0 0)), none⟩] [0])
 (.seq (.reg [
     ⟨(some 5), .mv (.tmp 0), none⟩,
     ⟨(some 6), .mslice 2 8 (.int .i64 0) (.tmp 5) (.tmp 5), none⟩,
     ⟨(some 3), .mv (.tmp 6), none⟩] [3])
 (.seq (.seq (.reg [
     ⟨(some 7), .mv (.tmp 3), none⟩,
     ⟨(some 8), .len (.tmp 7), none⟩,
     ⟨(some 9), .mv (.const (.int .i64 0)), none⟩] [3, 8, 9])
 (.block 0 (.loop [3, 8, 9]
   (.seq (.reg [
       ⟨(some 10), .bin .lss (.tmp 9) (.tmp 8), none⟩] [3, 8, 9, 10])
   (.seq (.cond (.tmp 10)
    (.skip)
    (.exit 0))
   (.seq (.block 1 (.seq (.reg [
        ⟨(some 11), .mv (.tmp 9), none⟩,
        ⟨(some 4), .mv (.tmp 11), none⟩] [3, 4, 8, 9])
    (.reg [
        ⟨(some 12), .mv (.tmp 3), none⟩,
        ⟨(some 13), .mv (.tmp 4), none⟩,
        ⟨(some 14), .mv (.tmp 4), none⟩,
        ⟨(some 15), .iaddr 1 (.tmp 12) (.tmp 13), none⟩,
        ⟨none, .store 1 (.tmp 15) (.tmp 14), none⟩] [3, 8, 9])))
   (.reg [
       ⟨(some 16), .bin .add (.tmp 9) (.const (.int .i64 1)), none⟩,
       ⟨(some 9), .mv (.tmp 16), none⟩] [3, 8, 9])))))))
 (.seq (.reg [
     ⟨(some 17), .mv (.tmp 3), none⟩,
     ⟨(some 2), .mv (.tmp 17), none⟩] [2])
 (.ret))))
theorem s_impl_identity : stripF Tryz.prog 53 [[0], [3], [3, 8, 9], [3, 8, 9], [3, 8, 9, 10], [3, 4, 8, 9], [3, 8, 9], [3, 8, 9], [2]] = some (c_impl_identity, [.tmp 2], 18) := by kernel_rfl
def tab (n : Nat) (f : Nat → Int) : List Int := (List.range n).map f
theorem tab_length (n : Nat) (f : Nat → Int) : (tab n f).length = n := by simp [tab]
theorem tab_set (n : Nat) (f : Nat → Int) (i : Nat) (v : Int) : (tab n f).set i v = tab n (fun j => if j = i then v else f j) := by
  unfold tab
  apply List.ext_getElem
  · simp
  · intro j h1 h2
    simp only [List.getElem_set, List.getElem_map, List.getElem_range]
    by_cases h : i = j
    · simp [h]
    · simp [h, Ne.symm h]
theorem tab_congr {n : Nat} {f g : Nat → Int} (h : ∀ j, j < n → f j = g j) : tab n f = tab n g := by
  unfold tab
  exact List.map_congr_left fun j hj => h j (List.mem_range.1 hj)
theorem tab_rep (n : Nat) (v : Int) : List.replicate n v = tab n fun _ => v := by
  unfold tab
  apply List.ext_getElem <;> simp
theorem take_tab (n : Nat) (f : Nat → Int) : ((tab n f).map I).take n = (tab n f).map I := List.take_of_length_le (by simp [tab_length])
theorem clone_ok (H : List Blk) (a : AV) (xs : List Int) (ha : RdS H a xs) (hl : xs.length ≤ 1073741824) :
    ACalls Tryz.prog f_slices_Clone_Lint64_int64 [a] H (fun r H' => ∃ ver, r = .nm H.length ver 0 xs.length ∧ H' = H ++ [⟨ver, 2, 1, xs.map I⟩]) := by
  refine ACalls.introB s_slices_Clone_Lint64_int64 (by simp) ?_; intro hB hA; unfold c_slices_Clone_Lint64_int64; simp (config := { maxSteps := 1000000 }) (disch := (first | omega | (simp only [go_sem]; try omega))) only [go_sem, Nat.reduceAdd, Nat.reduceEqDiff, Nat.reduceLeDiff, Nat.reduceMul, Nat.reduceLT, reduceIte, Int.reduceToNat, w64_id, cast_succ]
  have h2 := aview_append ha [⟨0, 2, 1, []⟩]
  refine SW.seq ?_; refine SW.rowC ?_; simp (config := { maxSteps := 1000000 }) (disch := (first | omega | (simp only [go_sem]; try omega))) only [go_sem, Nat.reduceAdd, Nat.reduceEqDiff, Nat.reduceLeDiff, Nat.reduceMul, Nat.reduceLT, reduceIte, Int.reduceToNat, w64_id, cast_succ]
  refine SW.seq ?_
  refine SW.seq ?_; refine SW.rowC ?_; simp (config := { maxSteps := 1000000 }) (disch := (first | omega | (simp only [go_sem]; try omega))) only [go_sem, Nat.reduceAdd, Nat.reduceEqDiff, Nat.reduceLeDiff, Nat.reduceMul, Nat.reduceLT, reduceIte, Int.reduceToNat, w64_id, cast_succ, ha]
  intro b hb
  refine SW.condB rfl (fun h => ?_) (fun h => ?_)
  · have : xs = [] := List.eq_nil_of_length_eq_zero (hb h)
    subst this
    repeat (first | (with_reducible first | refine SW.seq ?_ | refine SW.block ?_ | refine SW.rowC ?_ | refine SW.skip ?_ | refine SW.exit ?_ | intro _ | refine And.intro (by omega) ?_) | simp (config := { maxSteps := 1000000 }) (disch := (first | omega | (simp only [go_sem]; try omega))) only [go_sem, Nat.reduceAdd, Nat.reduceEqDiff, Nat.reduceLeDiff, Nat.reduceMul, Nat.reduceLT, reduceIte, Int.reduceToNat, w64_id, cast_succ])
    refine SW.ret ?_; (try simp only [go_sem]); (first | refine FunPost.one ?_ | refine FunPost.two ?_ | refine FunPost.three ?_); (try simp (config := { maxSteps := 1000000 }) (disch := (first | omega | (simp only [go_sem]; try omega))) only [go_sem, Nat.reduceAdd, Nat.reduceEqDiff, Nat.reduceLeDiff, Nat.reduceMul, Nat.reduceLT, reduceIte, Int.reduceToNat, w64_id, cast_succ])
    refine GR.name 2 1 (GR.of ?_)
    exact ⟨0, rfl, rfl⟩
  · repeat (first | (with_reducible first | refine SW.seq ?_ | refine SW.block ?_ | refine SW.rowC ?_ | refine SW.skip ?_ | refine SW.exit ?_ | intro _ | refine And.intro (by omega) ?_) | simp (config := { maxSteps := 1000000 }) (disch := (first | omega | (simp only [go_sem]; try omega))) only [go_sem, Nat.reduceAdd, Nat.reduceEqDiff, Nat.reduceLeDiff, Nat.reduceMul, Nat.reduceLT, reduceIte, Int.reduceToNat, w64_id, cast_succ, ha, h2])
    refine SW.ret ?_; (try simp only [go_sem]); (first | refine FunPost.one ?_ | refine FunPost.two ?_ | refine FunPost.three ?_); (try simp (config := { maxSteps := 1000000 }) (disch := (first | omega | (simp only [go_sem]; try omega))) only [go_sem, Nat.reduceAdd, Nat.reduceEqDiff, Nat.reduceLeDiff, Nat.reduceMul, Nat.reduceLT, reduceIte, Int.reduceToNat, w64_id, cast_succ])
    exact GR.of ⟨1, rfl, rfl⟩
def idL (k : Nat) : List Int := tab k fun i => i
theorem identity_fn (k : Nat) (hk : k ≤ 1000000) : PFn Tryz.prog f_impl_identity [I k] (ilS (idL k)) := by
  intro H; refine ACalls.introB s_impl_identity (by simp) ?_; intro hB hA; unfold c_impl_identity; simp (config := { maxSteps := 1000000 }) (disch := (first | omega | (simp only [go_sem]; try omega))) only [go_sem, Nat.reduceAdd, Nat.reduceEqDiff, Nat.reduceLeDiff, Nat.reduceMul, Nat.reduceLT, reduceIte, Int.reduceToNat, w64_id, cast_succ]
  repeat (first | (with_reducible first | refine SW.seq ?_ | refine SW.block ?_ | refine SW.rowC ?_ | refine SW.skip ?_ | refine SW.exit ?_ | intro _ | refine And.intro (by omega) ?_) | simp (config := { maxSteps := 1000000 }) (disch := (first | omega | (simp only [go_sem]; try omega))) only [go_sem, Nat.reduceAdd, Nat.reduceEqDiff, Nat.reduceLeDiff, Nat.reduceMul, Nat.reduceLT, reduceIte, Int.reduceToNat, w64_id, cast_succ])
  rw [tab_rep]
  refine SW.loopE (fun E0 H0 q E' H' => ∃ m : Nat, m ≤ k ∧ q = k - m ∧ E' = aput E0 9 (I m) ∧ H' = H ++ [⟨0, 2, 1, (tab k fun j => if j < m then (j : Int) else 0).map I⟩]) k ⟨0, by omega, by omega, rfl, by simp⟩ ?_
  rintro q E' H' ⟨m, hm, rfl, rfl, rfl⟩
  simp (config := { maxSteps := 1000000 }) (disch := (first | omega | (simp only [go_sem]; try omega))) only [go_sem, Nat.reduceAdd, Nat.reduceEqDiff, Nat.reduceLeDiff, Nat.reduceMul, Nat.reduceLT, reduceIte, Int.reduceToNat, w64_id, cast_succ]
  repeat (first | (with_reducible first | refine SW.seq ?_ | refine SW.block ?_ | refine SW.rowC ?_ | refine SW.skip ?_ | refine SW.exit ?_ | intro _ | refine And.intro (by omega) ?_) | simp (config := { maxSteps := 1000000 }) (disch := (first | omega | (simp only [go_sem]; try omega))) only [go_sem, Nat.reduceAdd, Nat.reduceEqDiff, Nat.reduceLeDiff, Nat.reduceMul, Nat.reduceLT, reduceIte, Int.reduceToNat, w64_id, cast_succ])
  have hll := tab_length k fun j => if j < m then (j : Int) else 0
  (first | refine SW.condD rfl (fun h => ?_) (fun h => ?_) | refine SW.condN rfl (fun h => ?_) (fun h => ?_) | refine SW.condNB rfl (fun h => ?_) (fun h => ?_) | refine SW.condB rfl (fun h => ?_) (fun h => ?_))
  · repeat (first | (with_reducible first | refine SW.seq ?_ | refine SW.block ?_ | refine SW.rowC ?_ | refine SW.skip ?_ | refine SW.exit ?_ | intro _ | refine And.intro (by omega) ?_) | simp (config := { maxSteps := 1000000 }) (disch := (first | omega | (simp only [go_sem]; try omega))) only [go_sem, Nat.reduceAdd, Nat.reduceEqDiff, Nat.reduceLeDiff, Nat.reduceMul, Nat.reduceLT, reduceIte, Int.reduceToNat, w64_id, cast_succ, take_tab])
    refine SLoop.next (k - (m + 1)) (by omega) ⟨m + 1, by omega, rfl, ?_, ?_⟩
    · simp [go_sem]
    · rw [tab_set]
      congr 4
      exact tab_congr fun j hj => by
        by_cases hjm : j = m
        · subst hjm; rw [if_pos rfl, if_pos (by omega)]
        · rw [if_neg hjm]
          by_cases h2 : j < m
          · rw [if_pos h2, if_pos (by omega)]
          · rw [if_neg h2, if_neg (by omega)]
  · have : m = k := by omega
    subst this
    repeat (first | (with_reducible first | refine SW.seq ?_ | refine SW.block ?_ | refine SW.rowC ?_ | refine SW.skip ?_ | refine SW.exit ?_ | intro _ | refine And.intro (by omega) ?_) | simp (config := { maxSteps := 1000000 }) (disch := (first | omega | (simp only [go_sem]; try omega))) only [go_sem, Nat.reduceAdd, Nat.reduceEqDiff, Nat.reduceLeDiff, Nat.reduceMul, Nat.reduceLT, reduceIte, Int.reduceToNat, w64_id, cast_succ])
    refine SW.ret ?_; (try simp only [go_sem]); (first | refine FunPost.one ?_ | refine FunPost.two ?_ | refine FunPost.three ?_); (try simp (config := { maxSteps := 1000000 }) (disch := (first | omega | (simp only [go_sem]; try omega))) only [go_sem, Nat.reduceAdd, Nat.reduceEqDiff, Nat.reduceLeDiff, Nat.reduceMul, Nat.reduceLT, reduceIte, Int.reduceToNat, w64_id, cast_succ])
    have hf := froz_rowI (H := H ++ [⟨0, 2, 1, (tab m fun j => if j < m then (j : Int) else 0).map I⟩]) (b := H.length) (r := H.length) (ver := 0) (ty := 2) (xs := tab m fun j => if j < m then (j : Int) else 0) (by omega) (by simp)
    rw [hll] at hf
    refine GR.froz hf ⟨?_, rfl⟩
    rw [idL]
    congr 1
    exact tab_congr fun j hj => by rw [if_pos hj]
end Go.Proofs.YtdgcgckehihboaaGreatDoor
