/- Graphs compared; orders of vertices. -/
import Derived.Test.YtdgcgckehihboaaGreatDoorProg
import Derived.KernelRfl
import Derived.Test.YtdgcgckehihboaaGreatDoorzR2
import Derived.Test.YtdgcgckehihboaaGreatDoorzRP
import Derived.Test.YtdgcgckehihboaaGreatDoorzL8
import Derived.Test.YtdgcgckehihboaaGreatDoorzK8
import Derived.Test.YtdgcgckehihboaaGreatDoorzQ2
import Derived.Test.YtdgcgckehihboaaGreatDoorzQZ
import Derived.Test.YtdgcgckehihboaaGreatDoorzE3
import Derived.Test.YtdgcgckehihboaaGreatDoorzE4
set_option linter.unusedSimpArgs false
set_option linter.unusedVariables false
set_option linter.unusedSectionVars false
set_option maxHeartbeats 4000000
set_option maxRecDepth 100000
namespace Go.Proofs.YtdgcgckehihboaaGreatDoor
variable [Go.Av.DoorC]
open Go.Av
abbrev f_slices_Equal_Limpl_Edge_impl_Edge : Nat := 25
def c_slices_Equal_Limpl_Edge_impl_Edge : SC :=
 .seq (.reg [
     ⟨(some 4), .mv (.const (.bool false)), none⟩] [0, 1])
 (.seq (.seq (.reg [
     ⟨(some 6), .mv (.tmp 0), none⟩,
     ⟨(some 7), .len (.tmp 6), none⟩,
     ⟨(some 8), .mv (.tmp 1), none⟩,
     ⟨(some 9), .len (.tmp 8), none⟩,
     ⟨(some 10), .bin .neq (.tmp 7) (.tmp 9), none⟩] [0, 1, 10])
 (.cond (.tmp 10)
  (.seq (.reg [
      ⟨(some 4), .mv (.const (.bool false)), none⟩] [4])
  (.ret))
  (.skip)))
 (.seq (.seq (.reg [
     ⟨(some 11), .mv (.tmp 0), none⟩,
     ⟨(some 12), .len (.tmp 11), none⟩,
     ⟨(some 13), .mv (.const (.int .i64 0)), none⟩] [0, 1, 12, 13])
 (.block 0 (.loop [0, 1, 12, 13]
   (.seq (.reg [
       ⟨(some 14), .bin .lss (.tmp 13) (.tmp 12), none⟩] [0, 1, 12, 13, 14])
   (.seq (.cond (.tmp 14)
    (.skip)
    (.exit 0))
   (.seq (.block 1 (.seq (.reg [
        ⟨(some 15), .mv (.tmp 13), none⟩,
        ⟨(some 5), .mv (.tmp 15), none⟩] [0, 1, 5, 12, 13])
    (.seq (.reg [
        ⟨(some 16), .mv (.tmp 0), none⟩,
        ⟨(some 17), .mv (.tmp 5), none⟩,
        ⟨(some 18), .iaddr 2 (.tmp 16) (.tmp 17), none⟩,
        ⟨(some 19), .load 2 true (.tmp 18), none⟩,
        ⟨(some 20), .mv (.tmp 1), none⟩,
        ⟨(some 21), .mv (.tmp 5), none⟩,
        ⟨(some 22), .iaddr 2 (.tmp 20) (.tmp 21), none⟩,
        ⟨(some 23), .load 2 true (.tmp 22), none⟩,
        ⟨(some 24), .eqs true (.tmp 19) (.tmp 23), none⟩] [0, 1, 12, 13, 24])
    (.cond (.tmp 24)
     (.seq (.reg [
         ⟨(some 4), .mv (.const (.bool false)), none⟩] [4])
     (.ret))
     (.skip)))))
   (.reg [
       ⟨(some 25), .bin .add (.tmp 13) (.const (.int .i64 1)), none⟩,
       ⟨(some 13), .mv (.tmp 25), none⟩] [0, 1, 12, 13])))))))
 (.seq (.reg [
     ⟨(some 4), .mv (.const (.bool true)), none⟩] [4])
 (.ret))))
theorem s_slices_Equal_Limpl_Edge_impl_Edge : stripF Tryz.prog 25 [[0, 1], [0, 1, 10], [4], [0, 1, 12, 13], [0, 1, 12, 13], [0, 1, 12, 13, 14], [0, 1, 5, 12, 13], [0, 1, 12, 13, 24], [4], [0, 1, 12, 13], [4]] = some (c_slices_Equal_Limpl_Edge_impl_Edge, [.tmp 4], 26) := by kernel_rfl
abbrev f_impl_isOrder : Nat := 27
def c_impl_isOrder : SC :=
 .seq (.reg [
     ⟨(some 4), .mv (.const (.bool false)), none⟩] [0, 1])
 (.seq (.reg [
     ⟨(some 6), .mv (.tmp 0), none⟩,
     ⟨(some 7), .call 32 [(.tmp 6)], none⟩,
     ⟨(some 5), .mv (.tmp 7), none⟩] [1, 5])
 (.seq (.reg [
     ⟨(some 8), .mv (.tmp 5), none⟩,
     ⟨(some 9), .call 52 [(.tmp 8)], none⟩] [1, 5])
 (.seq (.reg [
     ⟨(some 10), .mv (.tmp 5), none⟩,
     ⟨(some 11), .mv (.tmp 1), none⟩,
     ⟨(some 12), .call 53 [(.tmp 11)], none⟩,
     ⟨(some 13), .call 24 [(.tmp 10), (.tmp 12)], none⟩,
     ⟨(some 4), .mv (.tmp 13), none⟩] [4])
 (.ret))))
theorem s_impl_isOrder : stripF Tryz.prog 27 [[0, 1], [1, 5], [1, 5], [4]] = some (c_impl_isOrder, [.tmp 4], 14) := by kernel_rfl
theorem slicesEqualE_ok (H : List Blk) (a b : AV) (xs ys : List (Int × Int)) (ha : RdE H a xs) (hb : RdE H b ys) (hl : xs.length ≤ 2000000) :
    ACalls Tryz.prog f_slices_Equal_Limpl_Edge_impl_Edge [a, b] H (fun r H' => r = Bv (decide (xs = ys)) ∧ H' = H) := by
  have va : aview H a = some (xs.length, flatE xs) := ha
  have vb : aview H b = some (ys.length, flatE ys) := hb
  refine ACalls.introB s_slices_Equal_Limpl_Edge_impl_Edge (by simp) ?_; intro hB hA; unfold c_slices_Equal_Limpl_Edge_impl_Edge; simp (config := { maxSteps := 1000000 }) (disch := (first | omega | (simp only [go_sem]; try omega))) only [go_sem, Nat.reduceAdd, Nat.reduceEqDiff, Nat.reduceLeDiff, Nat.reduceMul, Nat.reduceLT, reduceIte, Int.reduceToNat, w64_id, cast_succ]
  repeat (first | (with_reducible first | refine SW.seq ?_ | refine SW.block ?_ | refine SW.rowC ?_ | refine SW.skip ?_ | refine SW.exit ?_ | intro _ | refine And.intro (by omega) ?_) | simp (config := { maxSteps := 1000000 }) (disch := (first | omega | (simp only [go_sem]; try omega))) only [go_sem, Nat.reduceAdd, Nat.reduceEqDiff, Nat.reduceLeDiff, Nat.reduceMul, Nat.reduceLT, reduceIte, Int.reduceToNat, w64_id, cast_succ, va, vb])
  by_cases hl2 : xs.length = ys.length
  rotate_left
  · have d1 : decide ((xs.length : Int) = (ys.length : Int)) = false := decide_eq_false (by omega)
    repeat (first | (with_reducible first | refine SW.seq ?_ | refine SW.block ?_ | refine SW.rowC ?_ | refine SW.skip ?_ | refine SW.exit ?_ | intro _ | refine And.intro (by omega) ?_) | simp (config := { maxSteps := 1000000 }) (disch := (first | omega | (simp only [go_sem]; try omega))) only [go_sem, Nat.reduceAdd, Nat.reduceEqDiff, Nat.reduceLeDiff, Nat.reduceMul, Nat.reduceLT, reduceIte, Int.reduceToNat, w64_id, cast_succ, d1])
    refine SW.condT rfl ?_
    repeat (first | (with_reducible first | refine SW.seq ?_ | refine SW.block ?_ | refine SW.rowC ?_ | refine SW.skip ?_ | refine SW.exit ?_ | intro _ | refine And.intro (by omega) ?_) | simp (config := { maxSteps := 1000000 }) (disch := (first | omega | (simp only [go_sem]; try omega))) only [go_sem, Nat.reduceAdd, Nat.reduceEqDiff, Nat.reduceLeDiff, Nat.reduceMul, Nat.reduceLT, reduceIte, Int.reduceToNat, w64_id, cast_succ])
    refine SW.ret ?_; (try simp only [go_sem]); (first | refine FunPost.one ?_ | refine FunPost.two ?_ | refine FunPost.three ?_); (try simp (config := { maxSteps := 1000000 }) (disch := (first | omega | (simp only [go_sem]; try omega))) only [go_sem, Nat.reduceAdd, Nat.reduceEqDiff, Nat.reduceLeDiff, Nat.reduceMul, Nat.reduceLT, reduceIte, Int.reduceToNat, w64_id, cast_succ]); (first | (with_reducible refine GR.drop ?_ ?_; (simp only [go_sem, and_self, and_true, true_and, implies_true, List.take_succ_cons, List.take_zero])) | refine GR.of ?_); refine ⟨?_, rfl⟩; (try with_reducible rfl)
    rw [decide_eq_false (show ¬ xs = ys from fun h => hl2 (by rw [h]))]
  have d1 : decide ((xs.length : Int) = (ys.length : Int)) = true := decide_eq_true (by omega)
  repeat (first | (with_reducible first | refine SW.seq ?_ | refine SW.block ?_ | refine SW.rowC ?_ | refine SW.skip ?_ | refine SW.exit ?_ | intro _ | refine And.intro (by omega) ?_) | simp (config := { maxSteps := 1000000 }) (disch := (first | omega | (simp only [go_sem]; try omega))) only [go_sem, Nat.reduceAdd, Nat.reduceEqDiff, Nat.reduceLeDiff, Nat.reduceMul, Nat.reduceLT, reduceIte, Int.reduceToNat, w64_id, cast_succ, d1])
  refine SW.condF rfl ?_
  repeat (first | (with_reducible first | refine SW.seq ?_ | refine SW.block ?_ | refine SW.rowC ?_ | refine SW.skip ?_ | refine SW.exit ?_ | intro _ | refine And.intro (by omega) ?_) | simp (config := { maxSteps := 1000000 }) (disch := (first | omega | (simp only [go_sem]; try omega))) only [go_sem, Nat.reduceAdd, Nat.reduceEqDiff, Nat.reduceLeDiff, Nat.reduceMul, Nat.reduceLT, reduceIte, Int.reduceToNat, w64_id, cast_succ, va])
  refine SW.loopE (fun E0 H0 q E' H' => ∃ i : Nat, i ≤ xs.length ∧ q = xs.length - i ∧ E' = aput E0 13 (I i) ∧ H' = H0 ∧ ∀ j, j < i → xs.getD j (0, 0) = ys.getD j (0, 0)) xs.length ⟨0, by omega, by omega, rfl, rfl, by simp⟩ ?_
  rintro q E' H' ⟨i, hi, rfl, rfl, rfl, hj⟩
  simp (config := { maxSteps := 1000000 }) (disch := (first | omega | (simp only [go_sem]; try omega))) only [go_sem, Nat.reduceAdd, Nat.reduceEqDiff, Nat.reduceLeDiff, Nat.reduceMul, Nat.reduceLT, reduceIte, Int.reduceToNat, w64_id, cast_succ]
  repeat (first | (with_reducible first | refine SW.seq ?_ | refine SW.block ?_ | refine SW.rowC ?_ | refine SW.skip ?_ | refine SW.exit ?_ | intro _ | refine And.intro (by omega) ?_) | simp (config := { maxSteps := 1000000 }) (disch := (first | omega | (simp only [go_sem]; try omega))) only [go_sem, Nat.reduceAdd, Nat.reduceEqDiff, Nat.reduceLeDiff, Nat.reduceMul, Nat.reduceLT, reduceIte, Int.reduceToNat, w64_id, cast_succ, va])
  (first | refine SW.condD rfl (fun h3 => ?_) (fun h3 => ?_) | refine SW.condN rfl (fun h3 => ?_) (fun h3 => ?_) | refine SW.condNB rfl (fun h3 => ?_) (fun h3 => ?_) | refine SW.condB rfl (fun h3 => ?_) (fun h3 => ?_))
  · have l1 := ha.ld (j := i) (by omega)
    have l2 := hb.ld (j := i) (by omega)
    have de : (decide ((xs.getD i (0, 0)).1 = (ys.getD i (0, 0)).1) && decide ((xs.getD i (0, 0)).2 = (ys.getD i (0, 0)).2)) = decide (xs.getD i (0, 0) = ys.getD i (0, 0)) := by
      rw [Bool.eq_iff_iff, Bool.and_eq_true, decide_eq_true_eq, decide_eq_true_eq, decide_eq_true_eq, Prod.ext_iff]
    repeat (first | (with_reducible first | refine SW.seq ?_ | refine SW.block ?_ | refine SW.rowC ?_ | refine SW.skip ?_ | refine SW.exit ?_ | intro _ | refine And.intro (by omega) ?_) | simp (config := { maxSteps := 1000000 }) (disch := (first | omega | (simp only [go_sem]; try omega))) only [go_sem, Nat.reduceAdd, Nat.reduceEqDiff, Nat.reduceLeDiff, Nat.reduceMul, Nat.reduceLT, reduceIte, Int.reduceToNat, w64_id, cast_succ, va, vb, l1, l2])
    rw [de]
    by_cases h4 : xs.getD i (0, 0) = ys.getD i (0, 0)
    · rw [decide_eq_true h4]
      refine SW.condF rfl ?_
      repeat (first | (with_reducible first | refine SW.seq ?_ | refine SW.block ?_ | refine SW.rowC ?_ | refine SW.skip ?_ | refine SW.exit ?_ | intro _ | refine And.intro (by omega) ?_) | simp (config := { maxSteps := 1000000 }) (disch := (first | omega | (simp only [go_sem]; try omega))) only [go_sem, Nat.reduceAdd, Nat.reduceEqDiff, Nat.reduceLeDiff, Nat.reduceMul, Nat.reduceLT, reduceIte, Int.reduceToNat, w64_id, cast_succ])
      refine SLoop.next (xs.length - (i + 1)) (by omega) ⟨i + 1, by omega, rfl, by simp [go_sem], rfl, fun j hji => ?_⟩
      by_cases e : j = i
      · rw [e]; exact h4
      · exact hj j (by omega)
    · rw [decide_eq_false h4]
      refine SW.condT rfl ?_
      repeat (first | (with_reducible first | refine SW.seq ?_ | refine SW.block ?_ | refine SW.rowC ?_ | refine SW.skip ?_ | refine SW.exit ?_ | intro _ | refine And.intro (by omega) ?_) | simp (config := { maxSteps := 1000000 }) (disch := (first | omega | (simp only [go_sem]; try omega))) only [go_sem, Nat.reduceAdd, Nat.reduceEqDiff, Nat.reduceLeDiff, Nat.reduceMul, Nat.reduceLT, reduceIte, Int.reduceToNat, w64_id, cast_succ])
      refine SW.ret ?_; (try simp only [go_sem]); (first | refine FunPost.one ?_ | refine FunPost.two ?_ | refine FunPost.three ?_); (try simp (config := { maxSteps := 1000000 }) (disch := (first | omega | (simp only [go_sem]; try omega))) only [go_sem, Nat.reduceAdd, Nat.reduceEqDiff, Nat.reduceLeDiff, Nat.reduceMul, Nat.reduceLT, reduceIte, Int.reduceToNat, w64_id, cast_succ]); (first | (with_reducible refine GR.drop ?_ ?_; (simp only [go_sem, and_self, and_true, true_and, implies_true, List.take_succ_cons, List.take_zero])) | refine GR.of ?_); refine ⟨?_, rfl⟩; (try with_reducible rfl)
      rw [decide_eq_false (fun h => h4 (by rw [h]))]
  · have : i = xs.length := by omega
    subst this
    repeat (first | (with_reducible first | refine SW.seq ?_ | refine SW.block ?_ | refine SW.rowC ?_ | refine SW.skip ?_ | refine SW.exit ?_ | intro _ | refine And.intro (by omega) ?_) | simp (config := { maxSteps := 1000000 }) (disch := (first | omega | (simp only [go_sem]; try omega))) only [go_sem, Nat.reduceAdd, Nat.reduceEqDiff, Nat.reduceLeDiff, Nat.reduceMul, Nat.reduceLT, reduceIte, Int.reduceToNat, w64_id, cast_succ])
    refine SW.ret ?_; (try simp only [go_sem]); (first | refine FunPost.one ?_ | refine FunPost.two ?_ | refine FunPost.three ?_); (try simp (config := { maxSteps := 1000000 }) (disch := (first | omega | (simp only [go_sem]; try omega))) only [go_sem, Nat.reduceAdd, Nat.reduceEqDiff, Nat.reduceLeDiff, Nat.reduceMul, Nat.reduceLT, reduceIte, Int.reduceToNat, w64_id, cast_succ]); (first | (with_reducible refine GR.drop ?_ ?_; (simp only [go_sem, and_self, and_true, true_and, implies_true, List.take_succ_cons, List.take_zero])) | refine GR.of ?_); refine ⟨?_, rfl⟩; (try with_reducible rfl)
    have e : xs = ys := by
      refine List.ext_getElem hl2 fun j h1 h2 => ?_
      have := hj j h1
      rwa [getD_get h1, getD_get h2] at this
    rw [decide_eq_true e]
theorem idL_range (k : Nat) : idL k = (List.range k).map fun (i : Nat) => (i : Int) := by
  refine List.ext_getElem (by simp [idL, tab_length]) fun j h1 h2 => ?_
  simp [idL, tab]
theorem ordB_sorted (n : Nat) (p : List Int) : ordB n p = decide (isort p = idL n) := by
  unfold ordB
  rw [decide_eq_decide, idL_range]
  have hp : (isort p).Perm p := List.mergeSort_perm _ _
  have hs : (isort p).Pairwise (fun a b => a ≤ b) := (List.pairwise_mergeSort (le := fun x y => decide (x ≤ y)) (by simp; omega) (by simp; omega) p).imp (by simp)
  have hl : (isort p).length = p.length := hp.length_eq
  constructor
  · rintro ⟨rfl, h1, h2⟩
    have hn : (isort p).Nodup := hp.nodup_iff.2 h2
    have hlt : (isort p).Pairwise (· < ·) := by
      rw [List.nodup_iff_pairwise_ne] at hn
      exact (hs.and hn).imp (fun h => by omega)
    have hm : ∀ x ∈ isort p, 0 ≤ x ∧ x < ((isort p).length : Int) := fun x hx => by rw [hl]; exact h1 x (hp.mem_iff.1 hx)
    rw [← hl]
    exact rise_range hlt hm
  · intro h
    have hln : p.length = n := by rw [← hl, h]; simp
    refine ⟨hln, fun x hx => ?_, ?_⟩
    · have := hp.mem_iff.2 hx
      rw [h] at this
      simp at this
      omega
    · refine hp.nodup_iff.1 ?_
      rw [h, List.nodup_iff_pairwise_ne, List.pairwise_map]
      exact List.pairwise_lt_range.imp (fun h => by omega)
theorem isOrder_fn (p : List Int) (n : Nat) (hl : p.length ≤ 2000000) (hn : n ≤ 1000) : PFn Tryz.prog f_impl_isOrder [ilS p, I n] (Bv (ordB n p)) := by
  rw [ordB_sorted]
  intro H; refine ACalls.introB s_impl_isOrder (by simp) ?_; intro hB hA; unfold c_impl_isOrder; simp (config := { maxSteps := 1000000 }) (disch := (first | omega | (simp only [go_sem]; try omega))) only [go_sem, Nat.reduceAdd, Nat.reduceEqDiff, Nat.reduceLeDiff, Nat.reduceMul, Nat.reduceLT, reduceIte, Int.reduceToNat, w64_id, cast_succ]
  repeat (first | (with_reducible first | refine SW.seq ?_ | refine SW.block ?_ | refine SW.rowC ?_ | refine SW.skip ?_ | refine SW.exit ?_ | intro _ | refine And.intro (by omega) ?_) | simp (config := { maxSteps := 1000000 }) (disch := (first | omega | (simp only [go_sem]; try omega))) only [go_sem, Nat.reduceAdd, Nat.reduceEqDiff, Nat.reduceLeDiff, Nat.reduceMul, Nat.reduceLT, reduceIte, Int.reduceToNat, w64_id, cast_succ])
  refine (clone_ok H (ilS p) p (rd_ilS _ _) (by omega)).mono ?_
  rintro r H' ⟨ver, rfl, rfl⟩
  repeat (first | (with_reducible first | refine SW.seq ?_ | refine SW.block ?_ | refine SW.rowC ?_ | refine SW.skip ?_ | refine SW.exit ?_ | intro _ | refine And.intro (by omega) ?_) | simp (config := { maxSteps := 1000000 }) (disch := (first | omega | (simp only [go_sem]; try omega))) only [go_sem, Nat.reduceAdd, Nat.reduceEqDiff, Nat.reduceLeDiff, Nat.reduceMul, Nat.reduceLT, reduceIte, Int.reduceToNat, w64_id, cast_succ])
  refine (sortI_ok sortL_p sortL_n _ H.length ver 2 p (by simp) (by omega)).mono ?_
  rintro r H' ⟨rfl, rfl⟩
  have hil : (isort p).length = p.length := isort_length p
  have hset : (H ++ [(⟨ver, 2, 1, p.map I⟩ : Blk)]).set H.length (⟨ver, 2, 1, (isort p).map I⟩ : Blk) = H ++ [(⟨ver, 2, 1, (isort p).map I⟩ : Blk)] := by rw [List.set_append_right _ _ (Nat.le_refl _), Nat.sub_self]; rfl
  rw [hset]
  have hid := identity_fn n (by omega)
  have hrd : RdS (H ++ [⟨ver, 2, 1, (isort p).map I⟩]) (.nm H.length ver 0 p.length) (isort p) := by
    rw [← hil]; exact view_nm (ty := 2) (ver := ver) (by rw [List.getElem?_append_right (Nat.le_refl _), Nat.sub_self]; rfl) (by simp)
  repeat (first | (with_reducible first | refine SW.seq ?_ | refine SW.block ?_ | refine SW.rowC ?_ | refine SW.skip ?_ | refine SW.exit ?_ | refine PFn.use (hid) ?_ | refine PFn.useq (hid) ?_ | intro _ | refine And.intro (by omega) ?_) | simp (config := { maxSteps := 1000000 }) (disch := (first | omega | (simp only [go_sem]; try omega))) only [go_sem, Nat.reduceAdd, Nat.reduceEqDiff, Nat.reduceLeDiff, Nat.reduceMul, Nat.reduceLT, reduceIte, Int.reduceToNat, w64_id, cast_succ])
  refine (slicesEqual_ok _ _ _ _ _ hrd (rd_ilS _ _)).mono ?_
  rintro r H' ⟨rfl, rfl⟩
  repeat (first | (with_reducible first | refine SW.seq ?_ | refine SW.block ?_ | refine SW.rowC ?_ | refine SW.skip ?_ | refine SW.exit ?_ | intro _ | refine And.intro (by omega) ?_) | simp (config := { maxSteps := 1000000 }) (disch := (first | omega | (simp only [go_sem]; try omega))) only [go_sem, Nat.reduceAdd, Nat.reduceEqDiff, Nat.reduceLeDiff, Nat.reduceMul, Nat.reduceLT, reduceIte, Int.reduceToNat, w64_id, cast_succ])
  refine SW.ret ?_; (try simp only [go_sem]); (first | refine FunPost.one ?_ | refine FunPost.two ?_ | refine FunPost.three ?_); (try simp (config := { maxSteps := 1000000 }) (disch := (first | omega | (simp only [go_sem]; try omega))) only [go_sem, Nat.reduceAdd, Nat.reduceEqDiff, Nat.reduceLeDiff, Nat.reduceMul, Nat.reduceLT, reduceIte, Int.reduceToNat, w64_id, cast_succ]); (first | (with_reducible refine GR.drop ?_ ?_; (simp only [go_sem, and_self, and_true, true_and, implies_true, List.take_succ_cons, List.take_zero])) | refine GR.of ?_); refine ⟨?_, rfl⟩; (try with_reducible rfl)
end Go.Proofs.YtdgcgckehihboaaGreatDoor
namespace Go.Proofs.YtdgcgckehihboaaGreatDoor
variable [Go.Av.DoorC]
open Go.Av
abbrev f_impl_SameGraph : Nat := 9
def c_impl_SameGraph : SC :=
 .seq (.reg [
     ⟨(some 2), .box 27 (.tmp 0), none⟩,
     ⟨(some 3), .box 27 (.tmp 1), none⟩,
     ⟨(some 4), .mv (.const (.bool false)), none⟩] [2, 3])
 (.seq (.reg [
     ⟨(some 5), .faddr 0 (.tmp 2), none⟩,
     ⟨(some 6), .load 1 false (.tmp 5), none⟩,
     ⟨(some 7), .faddr 0 (.tmp 3), none⟩,
     ⟨(some 8), .load 1 false (.tmp 7), none⟩,
     ⟨(some 9), .call 24 [(.tmp 6), (.tmp 8)], none⟩,
     ⟨(some 10), .mv (.tmp 9), none⟩,
     ⟨(some 11), .faddr 1 (.tmp 2), (some (10, true))⟩,
     ⟨(some 12), .load 1 false (.tmp 11), (some (10, true))⟩,
     ⟨(some 13), .faddr 1 (.tmp 3), (some (10, true))⟩,
     ⟨(some 14), .load 1 false (.tmp 13), (some (10, true))⟩,
     ⟨(some 15), .call 25 [(.tmp 12), (.tmp 14)], (some (10, true))⟩,
     ⟨(some 16), .pick (.tmp 10) (.tmp 15) (.const (.bool false)), none⟩,
     ⟨(some 4), .mv (.tmp 16), none⟩] [4])
 (.ret))
theorem s_impl_SameGraph : stripF Tryz.prog 9 [[2, 3], [4]] = some (c_impl_SameGraph, [.tmp 4], 17) := by kernel_rfl
abbrev f_impl_relabeledGraph : Nat := 29
def c_impl_relabeledGraph : SC :=
 .seq (.reg [
     ⟨(some 2), .box 27 (.tmp 0), none⟩,
     ⟨(some 4), .alloc 27 [(.slice none 0 0), (.slice none 0 0)], none⟩] [1, 2, 4])
 (.seq (.reg [
     ⟨(some 10), .faddr 0 (.tmp 2), none⟩,
     ⟨(some 11), .load 1 false (.tmp 10), none⟩,
     ⟨(some 12), .len (.tmp 11), none⟩,
     ⟨(some 13), .mslice 2 8 (.int .i64 0) (.tmp 12) (.tmp 12), none⟩,
     ⟨(some 14), .build [(.slice none 0 0), (.slice none 0 0)] [(0, 1, (.tmp 13))], none⟩,
     ⟨(some 5), .alloc 27 [(.slice none 0 0), (.slice none 0 0)], none⟩,
     ⟨none, .store 2 (.tmp 5) (.tmp 14), none⟩] [1, 2, 4, 5])
 (.seq (.seq (.reg [
     ⟨(some 15), .faddr 0 (.tmp 2), none⟩,
     ⟨(some 16), .load 1 false (.tmp 15), none⟩,
     ⟨(some 17), .len (.tmp 16), none⟩,
     ⟨(some 18), .mv (.const (.int .i64 0)), none⟩] [1, 2, 4, 5, 16, 17, 18])
 (.block 0 (.loop [1, 2, 4, 5, 16, 17, 18]
   (.seq (.reg [
       ⟨(some 19), .bin .lss (.tmp 18) (.tmp 17), none⟩] [1, 2, 4, 5, 16, 17, 18, 19])
   (.seq (.cond (.tmp 19)
    (.skip)
    (.exit 0))
   (.seq (.block 1 (.seq (.reg [
        ⟨(some 20), .mv (.tmp 18), none⟩,
        ⟨(some 21), .iaddr 1 (.tmp 16) (.tmp 18), none⟩,
        ⟨(some 22), .load 1 false (.tmp 21), none⟩,
        ⟨(some 6), .mv (.tmp 20), none⟩,
        ⟨(some 7), .mv (.tmp 22), none⟩] [1, 2, 4, 5, 6, 7, 16, 17, 18])
    (.reg [
        ⟨(some 23), .faddr 0 (.tmp 5), none⟩,
        ⟨(some 24), .load 1 false (.tmp 23), none⟩,
        ⟨(some 25), .mv (.tmp 1), none⟩,
        ⟨(some 26), .mv (.tmp 6), none⟩,
        ⟨(some 27), .iaddr 1 (.tmp 25) (.tmp 26), none⟩,
        ⟨(some 28), .load 1 false (.tmp 27), none⟩,
        ⟨(some 29), .mv (.tmp 7), none⟩,
        ⟨(some 30), .iaddr 1 (.tmp 24) (.tmp 28), none⟩,
        ⟨none, .store 1 (.tmp 30) (.tmp 29), none⟩] [1, 2, 4, 5, 16, 17, 18])))
   (.reg [
       ⟨(some 31), .bin .add (.tmp 18) (.const (.int .i64 1)), none⟩,
       ⟨(some 18), .mv (.tmp 31), none⟩] [1, 2, 4, 5, 16, 17, 18])))))))
 (.seq (.seq (.reg [
     ⟨(some 32), .faddr 1 (.tmp 2), none⟩,
     ⟨(some 33), .load 1 false (.tmp 32), none⟩,
     ⟨(some 34), .len (.tmp 33), none⟩,
     ⟨(some 35), .mv (.const (.int .i64 0)), none⟩] [1, 4, 5, 33, 34, 35])
 (.block 2 (.loop [1, 4, 5, 33, 34, 35]
   (.seq (.reg [
       ⟨(some 36), .bin .lss (.tmp 35) (.tmp 34), none⟩] [1, 4, 5, 33, 34, 35, 36])
   (.seq (.cond (.tmp 36)
    (.skip)
    (.exit 2))
   (.seq (.block 3 (.seq (.reg [
        ⟨(some 37), .iaddr 2 (.tmp 33) (.tmp 35), none⟩,
        ⟨(some 38), .load 2 true (.tmp 37), none⟩,
        ⟨(some 9), .alloc 49 [(.int .i64 0), (.int .i64 0)], none⟩,
        ⟨none, .store 2 (.tmp 9) (.tmp 38), none⟩] [1, 4, 5, 9, 33, 34, 35])
    (.reg [
        ⟨(some 39), .faddr 1 (.tmp 5), none⟩,
        ⟨(some 40), .load 1 false (.tmp 39), none⟩,
        ⟨(some 41), .mv (.tmp 1), none⟩,
        ⟨(some 42), .faddr 0 (.tmp 9), none⟩,
        ⟨(some 43), .load 1 false (.tmp 42), none⟩,
        ⟨(some 44), .iaddr 1 (.tmp 41) (.tmp 43), none⟩,
        ⟨(some 45), .load 1 false (.tmp 44), none⟩,
        ⟨(some 46), .mv (.tmp 1), none⟩,
        ⟨(some 47), .faddr 1 (.tmp 9), none⟩,
        ⟨(some 48), .load 1 false (.tmp 47), none⟩,
        ⟨(some 49), .iaddr 1 (.tmp 46) (.tmp 48), none⟩,
        ⟨(some 50), .load 1 false (.tmp 49), none⟩,
        ⟨(some 51), .build [(.int .i64 0), (.int .i64 0)] [(0, 1, (.tmp 45)), (1, 1, (.tmp 50))], none⟩,
        ⟨(some 52), .bslice 49 2 1 [(.int .i64 0), (.int .i64 0)] [(0, (.tmp 51))], none⟩,
        ⟨(some 53), .app 49 2 16 (.tmp 40) (.tmp 52), none⟩,
        ⟨(some 54), .faddr 1 (.tmp 5), none⟩,
        ⟨none, .store 1 (.tmp 54) (.tmp 53), none⟩] [1, 4, 5, 33, 34, 35])))
   (.reg [
       ⟨(some 55), .bin .add (.tmp 35) (.const (.int .i64 1)), none⟩,
       ⟨(some 35), .mv (.tmp 55), none⟩] [1, 4, 5, 33, 34, 35])))))))
 (.seq (.reg [
     ⟨(some 56), .faddr 1 (.tmp 5), none⟩,
     ⟨(some 57), .load 1 false (.tmp 56), none⟩,
     ⟨(some 58), .call 54 [(.tmp 57)], none⟩,
     ⟨(some 59), .faddr 1 (.tmp 5), none⟩,
     ⟨none, .store 1 (.tmp 59) (.tmp 58), none⟩] [4, 5])
 (.seq (.reg [
     ⟨(some 60), .load 2 true (.tmp 5), none⟩,
     ⟨none, .store 2 (.tmp 4) (.tmp 60), none⟩] [4])
 (.ret))))))
theorem s_impl_relabeledGraph : stripF Tryz.prog 29 [[1, 2, 4], [1, 2, 4, 5], [1, 2, 4, 5, 16, 17, 18], [1, 2, 4, 5, 16, 17, 18], [1, 2, 4, 5, 16, 17, 18, 19], [1, 2, 4, 5, 6, 7, 16, 17, 18], [1, 2, 4, 5, 16, 17, 18], [1, 2, 4, 5, 16, 17, 18], [1, 4, 5, 33, 34, 35], [1, 4, 5, 33, 34, 35], [1, 4, 5, 33, 34, 35, 36], [1, 4, 5, 9, 33, 34, 35], [1, 4, 5, 33, 34, 35], [1, 4, 5, 33, 34, 35], [4, 5], [4]] = some (c_impl_relabeledGraph, [.cell 4 2], 61) := by kernel_rfl
theorem SameGraph_ok (H : List Blk) (a b c d : AV) (xs ys : List Int) (es fs : List (Int × Int)) (ca : a.cell1 = true ∧ partsOf a = [a]) (cb : b.cell1 = true ∧ partsOf b = [b]) (cc : c.cell1 = true ∧ partsOf c = [c]) (cd : d.cell1 = true ∧ partsOf d = [d]) (ha : RdS H a xs) (hb : RdS H b ys) (hc : RdE H c es) (hd : RdE H d fs) (hl : es.length ≤ 2000000) :
    ACalls Tryz.prog f_impl_SameGraph [.agg [a, c], .agg [b, d]] H (fun r H' => r = Bv (decide (xs = ys) && decide (es = fs)) ∧ H' = H) := by
  have e1 := fun ext => slicesEqual_ok (H ++ ext) a b xs ys (aview_append ha ext) (aview_append hb ext)
  have e2 := fun ext => slicesEqualE_ok (H ++ ext) c d es fs (hc.append ext) (hd.append ext) hl
  have p1 : partsOf (.agg [a, c]) = [a, c] := by simp [partsOf, ca.2, cc.2]
  have p2 : partsOf (.agg [b, d]) = [b, d] := by simp [partsOf, cb.2, cd.2]
  refine ACalls.introB s_impl_SameGraph (by simp) ?_; intro hB hA; unfold c_impl_SameGraph; simp (config := { maxSteps := 1000000 }) (disch := (first | omega | (simp only [go_sem]; try omega))) only [go_sem, Nat.reduceAdd, Nat.reduceEqDiff, Nat.reduceLeDiff, Nat.reduceMul, Nat.reduceLT, reduceIte, Int.reduceToNat, w64_id, cast_succ]
  repeat (first | (with_reducible first | refine SW.seq ?_ | refine SW.block ?_ | refine SW.rowC ?_ | refine SW.skip ?_ | refine SW.exit ?_ | intro _ | refine And.intro (by omega) ?_) | simp (config := { maxSteps := 1000000 }) (disch := (first | omega | (simp only [go_sem]; try omega))) only [go_sem, Nat.reduceAdd, Nat.reduceEqDiff, Nat.reduceLeDiff, Nat.reduceMul, Nat.reduceLT, reduceIte, Int.reduceToNat, w64_id, cast_succ, p1, p2, ca.1, cb.1, cc.1, cd.1])
  refine (e1 _).mono ?_
  rintro r H' ⟨rfl, rfl⟩
  cases h : decide (xs = ys)
  · repeat (first | (with_reducible first | refine SW.seq ?_ | refine SW.block ?_ | refine SW.rowC ?_ | refine SW.skip ?_ | refine SW.exit ?_ | intro _ | refine And.intro (by omega) ?_) | simp (config := { maxSteps := 1000000 }) (disch := (first | omega | (simp only [go_sem]; try omega))) only [go_sem, Nat.reduceAdd, Nat.reduceEqDiff, Nat.reduceLeDiff, Nat.reduceMul, Nat.reduceLT, reduceIte, Int.reduceToNat, w64_id, cast_succ])
    refine SW.ret ?_; (try simp only [go_sem]); (first | refine FunPost.one ?_ | refine FunPost.two ?_ | refine FunPost.three ?_); (try simp (config := { maxSteps := 1000000 }) (disch := (first | omega | (simp only [go_sem]; try omega))) only [go_sem, Nat.reduceAdd, Nat.reduceEqDiff, Nat.reduceLeDiff, Nat.reduceMul, Nat.reduceLT, reduceIte, Int.reduceToNat, w64_id, cast_succ])
    exact GR.froz (froz_B' _) ⟨rfl, rfl⟩
  · repeat (first | (with_reducible first | refine SW.seq ?_ | refine SW.block ?_ | refine SW.rowC ?_ | refine SW.skip ?_ | refine SW.exit ?_ | intro _ | refine And.intro (by omega) ?_) | simp (config := { maxSteps := 1000000 }) (disch := (first | omega | (simp only [go_sem]; try omega))) only [go_sem, Nat.reduceAdd, Nat.reduceEqDiff, Nat.reduceLeDiff, Nat.reduceMul, Nat.reduceLT, reduceIte, Int.reduceToNat, w64_id, cast_succ])
    refine (e2 _).mono ?_
    rintro r H' ⟨rfl, rfl⟩
    repeat (first | (with_reducible first | refine SW.seq ?_ | refine SW.block ?_ | refine SW.rowC ?_ | refine SW.skip ?_ | refine SW.exit ?_ | intro _ | refine And.intro (by omega) ?_) | simp (config := { maxSteps := 1000000 }) (disch := (first | omega | (simp only [go_sem]; try omega))) only [go_sem, Nat.reduceAdd, Nat.reduceEqDiff, Nat.reduceLeDiff, Nat.reduceMul, Nat.reduceLT, reduceIte, Int.reduceToNat, w64_id, cast_succ])
    refine SW.ret ?_; (try simp only [go_sem]); (first | refine FunPost.one ?_ | refine FunPost.two ?_ | refine FunPost.three ?_); (try simp (config := { maxSteps := 1000000 }) (disch := (first | omega | (simp only [go_sem]; try omega))) only [go_sem, Nat.reduceAdd, Nat.reduceEqDiff, Nat.reduceLeDiff, Nat.reduceMul, Nat.reduceLT, reduceIte, Int.reduceToNat, w64_id, cast_succ])
    exact GR.froz (froz_B' _) ⟨rfl, rfl⟩
theorem sortedEdgesR_ok (H : List Blk) (s : AV) (es : List (Int × Int)) (hs : RdE H s es) (hnd : (es.map ordE).Nodup) (hl : es.length ≤ 2000000) :
    ACalls Tryz.prog f_impl_sortedEdges [s] H (fun r H' => ∃ ext, H' = H ++ ext ∧ OwnE H' (Btw H.length H'.length) r (sortU cmpE (es.map ordE))) := by
  have hsv : ∀ ext, aview (H ++ ext) s = some (es.length, flatE es) := fun ext => hs.append ext
  have hsv0 : aview H s = some (es.length, flatE es) := hs
  refine ACalls.introB s_impl_sortedEdges (by simp) ?_; intro hB hA; unfold c_impl_sortedEdges; simp (config := { maxSteps := 1000000 }) (disch := (first | omega | (simp only [go_sem]; try omega))) only [go_sem, Nat.reduceAdd, Nat.reduceEqDiff, Nat.reduceLeDiff, Nat.reduceMul, Nat.reduceLT, reduceIte, Int.reduceToNat, w64_id, cast_succ]
  have hsb : ∀ k, H.length ≤ k → Bel k s := fun k hk => (hA s (by simp)).mono hk
  repeat (first | (with_reducible first | refine SW.seq ?_ | refine SW.block ?_ | refine SW.rowC ?_ | refine SW.skip ?_ | refine SW.exit ?_ | intro _ | refine And.intro (by omega) ?_) | simp (config := { maxSteps := 1000000 }) (disch := (first | omega | (simp only [go_sem]; try omega))) only [go_sem, Nat.reduceAdd, Nat.reduceEqDiff, Nat.reduceLeDiff, Nat.reduceMul, Nat.reduceLT, reduceIte, Int.reduceToNat, w64_id, cast_succ, hsv, hsv0])
  refine SW.ghost (Gh.name 3 tyE 2 rfl) ?_
  simp (config := { maxSteps := 1000000 }) (disch := (first | omega | (simp only [go_sem]; try omega))) only [go_sem, Nat.reduceAdd, Nat.reduceEqDiff, Nat.reduceLeDiff, Nat.reduceMul, Nat.reduceLT, reduceIte, Int.reduceToNat, w64_id, cast_succ]
  refine SW.loopE (fun E0 H0 q E' H' => ∃ (pre post : List (Int × Int)) (ver : Nat), es = pre ++ post ∧ q = post.length ∧ E' = aput (aput E0 8 (I pre.length)) 3 (.nm H.length ver 0 pre.length) ∧ H' = H ++ [⟨ver, tyE, 2, flatE (pre.map ordE)⟩]) es.length ⟨[], es, 0, rfl, rfl, rfl, rfl⟩ ?_
  rintro q E' H' ⟨pre, post, ver, hpp, rfl, rfl, rfl⟩
  have hpl : pre.length ≤ 2000000 := by rw [hpp] at hl; simp at hl; omega
  simp (config := { maxSteps := 1000000 }) (disch := (first | omega | (simp only [go_sem]; try omega))) only [go_sem, Nat.reduceAdd, Nat.reduceEqDiff, Nat.reduceLeDiff, Nat.reduceMul, Nat.reduceLT, reduceIte, Int.reduceToNat, w64_id, cast_succ]
  repeat (first | (with_reducible first | refine SW.seq ?_ | refine SW.block ?_ | refine SW.rowC ?_ | refine SW.skip ?_ | refine SW.exit ?_ | intro _ | refine And.intro (by omega) ?_) | simp (config := { maxSteps := 1000000 }) (disch := (first | omega | (simp only [go_sem]; try omega))) only [go_sem, Nat.reduceAdd, Nat.reduceEqDiff, Nat.reduceLeDiff, Nat.reduceMul, Nat.reduceLT, reduceIte, Int.reduceToNat, w64_id, cast_succ, hsv])
  (first | refine SW.condD rfl (fun h => ?_) (fun h => ?_) | refine SW.condN rfl (fun h => ?_) (fun h => ?_) | refine SW.condNB rfl (fun h => ?_) (fun h => ?_) | refine SW.condB rfl (fun h => ?_) (fun h => ?_))
  · obtain ⟨x, post, rfl, hg, -⟩ := consOf (d := (0, 0)) hpp (by omega)
    have l1 : ∀ ext, acells (H ++ ext) 2 (.el s (pre.length * 2)) = some [I x.1, I x.2] := fun ext => by
      have := (hs.append ext).ld (j := pre.length) (by omega)
      rwa [hg] at this
    have hml : (pre.map ordE).length = pre.length := List.length_map _
    have hfl := flatE_length (pre.map ordE)
    rw [hml] at hfl
    have htl : (flatE (pre.map ordE)).take (pre.length * 2) = flatE (pre.map ordE) := List.take_of_length_le (by omega)
    have hmin : (if x.2 < x.1 then x.2 else x.1) = (ordE x).1 := by
      show _ = min x.1 x.2
      split <;> omega
    have hmax : (if x.1 < x.2 then x.2 else x.1) = (ordE x).2 := by
      show _ = max x.1 x.2
      split <;> omega
    have nm2 : ∀ (ty : Nat) (a b : AV), NmV 0 0 1 (some ⟨0, ty, 2, [a, b]⟩) = some (1, [a, b]) := fun ty a b => by simp [NmV]
    have hsb1 := hsb (H.length + 1) (by omega)
    repeat (first | (with_reducible first | refine SW.seq ?_ | refine SW.block ?_ | refine SW.rowC ?_ | refine SW.skip ?_ | refine SW.exit ?_ | intro _ | refine And.intro (by omega) ?_) | simp (config := { maxSteps := 1000000 }) (disch := (first | omega | (simp only [go_sem]; try omega))) only [go_sem, Nat.reduceAdd, Nat.reduceEqDiff, Nat.reduceLeDiff, Nat.reduceMul, Nat.reduceLT, reduceIte, Int.reduceToNat, w64_id, cast_succ, hsv, l1, htl, hfl, hmin, hmax, nm2])
    refine SLoop.nextT 1 post.length hB (by omega) (by simp) (by simp) ?_ ?_ ⟨pre ++ [x], post, ver + 1, by simp [hpp], rfl, ?_, ?_⟩
    · (simp only [go_sem, Nat.reduceAdd, Nat.reduceEqDiff, reduceIte, go_sem, and_self, and_true, true_and, implies_true, List.take_succ_cons, List.take_zero, and_true, true_and, hsb1]; try omega)
    · rw [← flatE_snoc]
      simp only [List.take_succ_cons, List.take_zero, BB_cons, BB_nil, and_true]
      intro c hc
      rw [flatE_lit] at hc
      obtain ⟨v, _, rfl⟩ := List.mem_map.1 hc
      exact .lit v
    · simp [go_sem]
    · rw [List.map_append, show [x].map ordE = [ordE x] from rfl, flatE_snoc]; simp
  · obtain ⟨rfl, rfl⟩ := nilOf hpp (by omega)
    have hml : (pre.map ordE).length = pre.length := List.length_map _
    repeat (first | (with_reducible first | refine SW.seq ?_ | refine SW.block ?_ | refine SW.rowC ?_ | refine SW.skip ?_ | refine SW.exit ?_ | intro _ | refine And.intro (by omega) ?_) | simp (config := { maxSteps := 1000000 }) (disch := (first | omega | (simp only [go_sem]; try omega))) only [go_sem, Nat.reduceAdd, Nat.reduceEqDiff, Nat.reduceLeDiff, Nat.reduceMul, Nat.reduceLT, reduceIte, Int.reduceToNat, w64_id, cast_succ, hsv])
    rw [← hml]
    refine (sortE_ok sortE_p sortE_n compareEdges_call cmpE cmpE_tot.swo (@compareEdges_fn ⟨False⟩) _ H.length ver tyE (pre.map ordE) (by simp) (by omega)).mono ?_
    rintro r H' ⟨rfl, fs, hpm, hsd, rfl⟩
    have hfs : fs = sortU cmpE (pre.map ordE) := sorted_is cmpE_tot hpm hsd hnd
    have hlen : (pre.map ordE).length = fs.length := hpm.length_eq.symm
    rw [hlen]
    repeat (first | (with_reducible first | refine SW.seq ?_ | refine SW.block ?_ | refine SW.rowC ?_ | refine SW.skip ?_ | refine SW.exit ?_ | intro _ | refine And.intro (by omega) ?_) | simp (config := { maxSteps := 1000000 }) (disch := (first | omega | (simp only [go_sem]; try omega))) only [go_sem, Nat.reduceAdd, Nat.reduceEqDiff, Nat.reduceLeDiff, Nat.reduceMul, Nat.reduceLT, reduceIte, Int.reduceToNat, w64_id, cast_succ])
    refine (compactE_ok _ H.length ver tyE fs (by simp) (by rw [hfs]; exact sortU_asc cmpE_tot _) (by omega)).mono ?_
    rintro r H' ⟨rfl, rfl⟩
    repeat (first | (with_reducible first | refine SW.seq ?_ | refine SW.block ?_ | refine SW.rowC ?_ | refine SW.skip ?_ | refine SW.exit ?_ | intro _ | refine And.intro (by omega) ?_) | simp (config := { maxSteps := 1000000 }) (disch := (first | omega | (simp only [go_sem]; try omega))) only [go_sem, Nat.reduceAdd, Nat.reduceEqDiff, Nat.reduceLeDiff, Nat.reduceMul, Nat.reduceLT, reduceIte, Int.reduceToNat, w64_id, cast_succ])
    refine SW.ret ?_; (try simp only [go_sem]); (first | refine FunPost.one ?_ | refine FunPost.two ?_ | refine FunPost.three ?_); (try simp (config := { maxSteps := 1000000 }) (disch := (first | omega | (simp only [go_sem]; try omega))) only [go_sem, Nat.reduceAdd, Nat.reduceEqDiff, Nat.reduceLeDiff, Nat.reduceMul, Nat.reduceLT, reduceIte, Int.reduceToNat, w64_id, cast_succ])
    rw [← hfs]
    exact GR.of ⟨_, rfl, .inl ⟨H.length, ver, tyE, rfl, ⟨by omega, by simp⟩, by simp⟩⟩
theorem ext_ofR {H H1 : List Blk} (hl : H.length ≤ H1.length) (hs : ∀ j, j < H.length → H1[j]? = H[j]?) : ∃ ext, H1 = H ++ ext := by
  refine ⟨H1.drop H.length, ?_⟩
  have e : H1.take H.length = H := by
    refine List.ext_getElem? fun j => ?_
    rw [List.getElem?_take]
    split
    · exact hs j (by assumption)
    · rw [List.getElem?_eq_none (by omega)]
  conv => rhs; rw [← e]
  rw [List.length_take, Nat.min_eq_left hl, List.take_append_drop]
theorem rel_nodup {p : List Int} {n : Nat} {es : List (Int × Int)} (hl : p.length = n) (hn : p.Nodup) (he : ∀ e ∈ es, 0 ≤ e.1 ∧ e.1 < e.2 ∧ e.2 < (n : Int)) (hnd : es.Nodup) : ((es.map (relE p)).map ordE).Nodup := by
  rw [List.map_map]
  unfold List.Nodup at hnd ⊢
  rw [List.pairwise_map]
  refine List.Pairwise.imp_of_mem (fun {a b} ha hb hab heq => hab ?_) hnd
  have h1 := he a ha
  have h2 := he b hb
  obtain ⟨a1, a2⟩ := a
  obtain ⟨b1, b2⟩ := b
  simp only at h1 h2
  obtain ⟨a1, rfl⟩ := Int.eq_ofNat_of_zero_le h1.1
  obtain ⟨a2, rfl⟩ := Int.eq_ofNat_of_zero_le (show 0 ≤ a2 by omega)
  obtain ⟨b1, rfl⟩ := Int.eq_ofNat_of_zero_le h2.1
  obtain ⟨b2, rfl⟩ := Int.eq_ofNat_of_zero_le (show 0 ≤ b2 by omega)
  simp only [Function.comp, ordE, relE, Int.toNat_natCast, Prod.mk.injEq] at heq
  have k1 := fun h => perm_inj hn (a := a1) (b := b1) (by omega) (by omega) h
  have k2 := fun h => perm_inj hn (a := a1) (b := b2) (by omega) (by omega) h
  have k3 := fun h => perm_inj hn (a := a2) (b := b1) (by omega) (by omega) h
  have k4 := fun h => perm_inj hn (a := a2) (b := b2) (by omega) (by omega) h
  generalize p.getD a1 0 = x1 at *
  generalize p.getD a2 0 = x2 at *
  generalize p.getD b1 0 = y1 at *
  generalize p.getD b2 0 = y2 at *
  by_cases q1 : x1 = y1
  · have := k1 q1
    have : x2 = y2 := by omega
    have := k4 this
    rw [Prod.mk.injEq]; omega
  · have q2 : x1 = y2 := by omega
    have q3 : x2 = y1 := by omega
    have := k2 q2
    have := k3 q3
    omega
theorem relabeledGraph_ok (H : List Blk) (cols p : List Int) (es : List (Int × Int)) (hg : grB cols es = true) (hp : ordB cols.length p = true) :
    ACalls Tryz.prog f_impl_relabeledGraph [.agg [ilS cols, ilE es], ilS p] H (fun r H' => ∃ ext v u, H' = H ++ ext ∧ r = .agg [v, u] ∧ RdS H' v (relC cols p cols.length) ∧ Froz H' H.length v (ilS (relC cols p cols.length)) ∧ OwnE H' (Btw H.length H'.length) u (sortU cmpE (es.map fun e => ordE (relE p e))) ∧ v.cell1 = true ∧ partsOf v = [v]) := by
  unfold ordB at hp
  rw [decide_eq_true_eq] at hp
  obtain ⟨hpl, hpr, hpn⟩ := hp
  have hgf : cols.length ≤ 64 ∧ es.length ≤ 512 ∧ ∀ e ∈ es, 0 ≤ e.1 ∧ e.1 < e.2 ∧ e.2 < cols.length := by
    unfold grB edsB colsB edB at hg
    simp only [Bool.and_eq_true, decide_eq_true_eq, List.all_eq_true] at hg
    exact ⟨hg.2.1.1, hg.2.2, fun e he => hg.1.1 e he⟩
  have hbe := fun b => Bel_ilE b es
  refine ACalls.introB s_impl_relabeledGraph (by simp) ?_; intro hB hA; unfold c_impl_relabeledGraph; simp (config := { maxSteps := 1000000 }) (disch := (first | omega | (simp only [go_sem]; try omega))) only [go_sem, Nat.reduceAdd, Nat.reduceEqDiff, Nat.reduceLeDiff, Nat.reduceMul, Nat.reduceLT, reduceIte, Int.reduceToNat, w64_id, cast_succ]
  repeat (first | (with_reducible first | refine SW.seq ?_ | refine SW.block ?_ | refine SW.rowC ?_ | refine SW.skip ?_ | refine SW.exit ?_ | intro _ | refine And.intro (by omega) ?_) | simp (config := { maxSteps := 1000000 }) (disch := (first | omega | (simp only [go_sem]; try omega))) only [go_sem, Nat.reduceAdd, Nat.reduceEqDiff, Nat.reduceLeDiff, Nat.reduceMul, Nat.reduceLT, reduceIte, Int.reduceToNat, w64_id, cast_succ])
  have hcn : ∀ v, v < cols.length → ∃ k : Nat, p.getD v 0 = k ∧ k < cols.length := fun v hv => by
    have := hpr (p.getD v 0) (by rw [getD_get (by omega)]; exact List.getElem_mem _)
    obtain ⟨k, hk⟩ := Int.eq_ofNat_of_zero_le this.1
    exact ⟨k, hk, by omega⟩
  refine SW.loopE (fun E0 H0 m E' H' => ∃ (i : Nat), i ≤ cols.length ∧ m = cols.length - i ∧ E' = aput E0 18 (I i) ∧ H' = H ++ [⟨0, tyGr, 1, [ilS cols, ilE es]⟩, ⟨0, tyGr, 1, [nilS, nilS]⟩, ⟨0, 2, 1, (relC cols p i).map I⟩, ⟨0, tyGr, 1, [.nm (H.length + 2) 0 0 cols.length, nilS]⟩]) cols.length
    ⟨0, by omega, by omega, rfl, rfl⟩ ?_
  rintro m E' H' ⟨i, hi, rfl, rfl, rfl⟩
  have hsn := relC_succ cols p i
  have hrl := relC_len cols p i
  generalize hR : relC cols p i = R at *
  simp (config := { maxSteps := 1000000 }) (disch := (first | omega | (simp only [go_sem]; try omega))) only [go_sem, Nat.reduceAdd, Nat.reduceEqDiff, Nat.reduceLeDiff, Nat.reduceMul, Nat.reduceLT, reduceIte, Int.reduceToNat, w64_id, cast_succ]
  repeat (first | (with_reducible first | refine SW.seq ?_ | refine SW.block ?_ | refine SW.rowC ?_ | refine SW.skip ?_ | refine SW.exit ?_ | intro _ | refine And.intro (by omega) ?_) | simp (config := { maxSteps := 1000000 }) (disch := (first | omega | (simp only [go_sem]; try omega))) only [go_sem, Nat.reduceAdd, Nat.reduceEqDiff, Nat.reduceLeDiff, Nat.reduceMul, Nat.reduceLT, reduceIte, Int.reduceToNat, w64_id, cast_succ])
  (first | refine SW.condD rfl (fun h2 => ?_) (fun h2 => ?_) | refine SW.condN rfl (fun h2 => ?_) (fun h2 => ?_) | refine SW.condNB rfl (fun h2 => ?_) (fun h2 => ?_) | refine SW.condB rfl (fun h2 => ?_) (fun h2 => ?_))
  · have hin : i < cols.length := by omega
    obtain ⟨k, hk, hkn⟩ := hcn i hin
    rw [hk, Int.toNat_natCast] at hsn
    have hil : (i : Int) < p.length := by omega
    repeat (first | (with_reducible first | refine SW.seq ?_ | refine SW.block ?_ | refine SW.rowC ?_ | refine SW.skip ?_ | refine SW.exit ?_ | intro _ | refine And.intro (by omega) ?_) | simp (config := { maxSteps := 1000000 }) (disch := (first | omega | (simp only [go_sem]; try omega))) only [go_sem, Nat.reduceAdd, Nat.reduceEqDiff, Nat.reduceLeDiff, Nat.reduceMul, Nat.reduceLT, reduceIte, Int.reduceToNat, w64_id, cast_succ, hk, hrl])
    refine SLoop.next (cols.length - (i + 1)) (by omega) ⟨i + 1, by omega, rfl, by simp [go_sem], by rw [hsn]⟩
  · have : i = cols.length := by omega
    subst this
    repeat (first | (with_reducible first | refine SW.seq ?_ | refine SW.block ?_ | refine SW.rowC ?_ | refine SW.skip ?_ | refine SW.exit ?_ | intro _ | refine And.intro (by omega) ?_) | simp (config := { maxSteps := 1000000 }) (disch := (first | omega | (simp only [go_sem]; try omega))) only [go_sem, Nat.reduceAdd, Nat.reduceEqDiff, Nat.reduceLeDiff, Nat.reduceMul, Nat.reduceLT, reduceIte, Int.reduceToNat, w64_id, cast_succ])
    refine SW.loopE (fun E0 H0 m E' X => ∃ (i : Nat) (vE : AV), i ≤ es.length ∧ m = es.length - i ∧ E' = aput E0 35 (I i) ∧ X[H.length + 1]? = some ⟨0, tyGr, 1, [nilS, nilS]⟩ ∧ X[H.length + 2]? = some ⟨0, 2, 1, R.map I⟩ ∧ X[H.length + 3]? = some ⟨0, tyGr, 1, [.nm (H.length + 2) 0 0 cols.length, vE]⟩ ∧ GrowF X (H.length + 4) tyE 2 vE i (flatE ((es.take i).map (relE p))) ∧ H.length + 4 ≤ X.length ∧ ∀ j, j < H.length → X[j]? = H[j]?) es.length
      ⟨0, nilS, by omega, by omega, rfl, by simp, by simp, by simp, .inl ⟨rfl, rfl, rfl⟩, by simp, fun j hj => by rw [List.getElem?_append_left hj]⟩ ?_
    rintro m E' X ⟨i, vE, hi, rfl, rfl, m1, m2, m3, gw, hlX, hfX⟩
    have ha3 := fun o => pc_alive (off := o) m3
    have hl3 := fun o => pc_ld (off := o) m3
    have hse : (es.take (i + 1)).map (relE p) = (es.take i).map (relE p) ++ ((es[i]?).map (relE p)).toList := by
      rw [List.take_add_one, List.map_append]; cases es[i]? <;> rfl
    simp (config := { maxSteps := 1000000 }) (disch := (first | omega | (simp only [go_sem]; try omega))) only [go_sem, Nat.reduceAdd, Nat.reduceEqDiff, Nat.reduceLeDiff, Nat.reduceMul, Nat.reduceLT, reduceIte, Int.reduceToNat, w64_id, cast_succ]
    repeat (first | (with_reducible first | refine SW.seq ?_ | refine SW.block ?_ | refine SW.rowC ?_ | refine SW.skip ?_ | refine SW.exit ?_ | intro _ | refine And.intro (by omega) ?_) | simp (config := { maxSteps := 1000000 }) (disch := (first | omega | (simp only [go_sem]; try omega))) only [go_sem, Nat.reduceAdd, Nat.reduceEqDiff, Nat.reduceLeDiff, Nat.reduceMul, Nat.reduceLT, reduceIte, Int.reduceToNat, w64_id, cast_succ])
    (first | refine SW.condD rfl (fun h3 => ?_) (fun h3 => ?_) | refine SW.condN rfl (fun h3 => ?_) (fun h3 => ?_) | refine SW.condNB rfl (fun h3 => ?_) (fun h3 => ?_) | refine SW.condB rfl (fun h3 => ?_) (fun h3 => ?_))
    · have hin : i < es.length := by omega
      have l1 : ∀ H, acells H 2 (.el (ilE es) (i * 2)) = some [I (es.getD i (0, 0)).1, I (es.getD i (0, 0)).2] := fun H => (rd_ilE H es).ld (j := i) hin
      have hem := hgf.2.2 (es.getD i (0, 0)) (by rw [getD_get hin]; exact List.getElem_mem _)
      rw [List.getElem?_eq_getElem hin, ← getD_get (d := (0, 0)) hin] at hse
      generalize hx : es.getD i (0, 0) = x at *
      obtain ⟨xa, xb⟩ := x
      simp only at hem
      obtain ⟨xa, rfl⟩ := Int.eq_ofNat_of_zero_le hem.1
      obtain ⟨xb, rfl⟩ := Int.eq_ofNat_of_zero_le (show 0 ≤ xb by omega)
      have g1 : (xa : Int) < p.length := by omega
      have g2 : (xb : Int) < p.length := by omega
      have g3 : xa < p.length := by omega
      have g4 : xb < p.length := by omega
      have ha3e := fun o ext => pc_alive (off := o) (get_appU m3 ext)
      have hl3e := fun o ext => pc_ld (off := o) (get_appU m3 ext)
      repeat (first | (with_reducible first | refine SW.seq ?_ | refine SW.block ?_ | refine SW.rowC ?_ | refine SW.skip ?_ | refine SW.exit ?_ | intro _ | refine And.intro (by omega) ?_) | simp (config := { maxSteps := 1000000 }) (disch := (first | omega | (simp only [go_sem]; try omega))) only [go_sem, Nat.reduceAdd, Nat.reduceEqDiff, Nat.reduceLeDiff, Nat.reduceMul, Nat.reduceLT, reduceIte, Int.reduceToNat, w64_id, cast_succ, l1, ha3e, hl3e])
      rw [show X ++ [(⟨0, tyE, 1, [I (xa : Int), I (xb : Int)]⟩ : Blk), ⟨0, tyE, 2, [I (p.getD xa 0), I (p.getD xb 0)]⟩] = (X ++ [⟨0, tyE, 1, [I (xa : Int), I (xb : Int)]⟩]) ++ [⟨0, tyE, 2, [I (p.getD xa 0), I (p.getD xb 0)]⟩] by simp]
      refine GrowF.appX (gw.same (fun j b _ hb => get_appU hb _)) (by simp; omega) rfl (by simp [AV.cell1]; exact ⟨rfl, rfl⟩) (by omega) (by omega) ?_
      intro v' X1 g5 g6 g7
      have hx1 : X.length ≤ X1.length := by simp at g6; omega
      have k1 : X1[H.length + 1]? = some ⟨0, tyGr, 1, [nilS, nilS]⟩ := by rw [g7 _ (by omega)]; exact get_appU m1 _
      have k2 : X1[H.length + 2]? = some ⟨0, 2, 1, R.map I⟩ := by rw [g7 _ (by omega)]; exact get_appU m2 _
      have k3 : X1[H.length + 3]? = some ⟨0, tyGr, 1, [.nm (H.length + 2) 0 0 cols.length, vE]⟩ := by rw [g7 _ (by omega)]; exact get_appU m3 _
      have hp3l := (List.getElem?_eq_some_iff.1 k3).1
      have w1 : astore X1 [v'] (.pc (H.length + 3) 0 1) = some (X1.set (H.length + 3) ⟨0, tyGr, 1, [.nm (H.length + 2) 0 0 cols.length, v']⟩) := by rw [pc_st k3 (by simp)]; rfl
      have ra := fun o => pc_alive (off := o) k3
      have rl := fun o => pc_ld (off := o) k3
      simp (config := { maxSteps := 1000000 }) (disch := (first | omega | (simp only [go_sem]; try omega))) only [go_sem, Nat.reduceAdd, Nat.reduceEqDiff, Nat.reduceLeDiff, Nat.reduceMul, Nat.reduceLT, reduceIte, Int.reduceToNat, w64_id, cast_succ, ra, rl, w1, g5.one.1, g5.one.2]
      repeat (first | (with_reducible first | refine SW.seq ?_ | refine SW.block ?_ | refine SW.rowC ?_ | refine SW.skip ?_ | refine SW.exit ?_ | intro _ | refine And.intro (by omega) ?_) | simp (config := { maxSteps := 1000000 }) (disch := (first | omega | (simp only [go_sem]; try omega))) only [go_sem, Nat.reduceAdd, Nat.reduceEqDiff, Nat.reduceLeDiff, Nat.reduceMul, Nat.reduceLT, reduceIte, Int.reduceToNat, w64_id, cast_succ, ra, rl, w1, g5.one.1, g5.one.2])
      refine SLoop.next (es.length - (i + 1)) (by omega) ⟨i + 1, v', by omega, rfl, by simp [go_sem], by rw [List.getElem?_set_ne (by omega)]; exact k1, by rw [List.getElem?_set_ne (by omega)]; exact k2, List.getElem?_set_self hp3l, ?_, by rw [List.length_set]; omega, fun j hj => ?_⟩
      · rw [hse, Option.map_some, Option.toList_some, show relE p ((xa : Int), (xb : Int)) = (p.getD xa 0, p.getD xb 0) by unfold relE; simp, flatE_snoc]
        exact g5.same fun j b hj hb => by rw [List.getElem?_set_ne (by omega)]; exact hb
      · rw [List.getElem?_set_ne (by omega), g7 j (by omega), List.getElem?_append_left (by omega)]
        exact hfX j hj
    · have : i = es.length := by omega
      subst this
      repeat (first | (with_reducible first | refine SW.seq ?_ | refine SW.block ?_ | refine SW.rowC ?_ | refine SW.skip ?_ | refine SW.exit ?_ | intro _ | refine And.intro (by omega) ?_) | simp (config := { maxSteps := 1000000 }) (disch := (first | omega | (simp only [go_sem]; try omega))) only [go_sem, Nat.reduceAdd, Nat.reduceEqDiff, Nat.reduceLeDiff, Nat.reduceMul, Nat.reduceLT, reduceIte, Int.reduceToNat, w64_id, cast_succ, ha3, hl3])
      rw [List.take_length] at gw
      have hrd : RdE X vE (es.map (relE p)) := by
        have := gw.view
        unfold RdE
        rw [List.length_map]; exact this
      have hnde : es.Nodup := by
        unfold grB edsB at hg
        simp only [Bool.and_eq_true, decide_eq_true_eq] at hg
        exact hg.1.2.imp fun h e => by
          subst e
          have := cmpE_lt.1 h
          omega
      refine (sortedEdgesR_ok X vE (es.map (relE p)) hrd (rel_nodup hpl hpn hgf.2.2 hnde) (by rw [List.length_map]; omega)).mono ?_
      rintro r X1 ⟨ext, rfl, ho⟩
      rw [List.map_map] at ho
      have k1 := get_appU m1 ext
      have k2 := get_appU m2 ext
      have k3 := get_appU m3 ext
      have hp3l := (List.getElem?_eq_some_iff.1 k3).1
      have w1 : astore (X ++ ext) [r] (.pc (H.length + 3) 0 1) = some ((X ++ ext).set (H.length + 3) ⟨0, tyGr, 1, [.nm (H.length + 2) 0 0 cols.length, r]⟩) := by rw [pc_st k3 (by simp)]; rfl
      have ra := fun o => pc_alive (off := o) k3
      have j1 : ((X ++ ext).set (H.length + 3) ⟨0, tyGr, 1, [.nm (H.length + 2) 0 0 cols.length, r]⟩)[H.length + 1]? = some ⟨0, tyGr, 1, [nilS, nilS]⟩ := by rw [List.getElem?_set_ne (by omega)]; exact k1
      have j3 : ((X ++ ext).set (H.length + 3) ⟨0, tyGr, 1, [.nm (H.length + 2) 0 0 cols.length, r]⟩)[H.length + 3]? = some ⟨0, tyGr, 1, [.nm (H.length + 2) 0 0 cols.length, r]⟩ := List.getElem?_set_self hp3l
      have ra1 := fun o => pc_alive (off := o) j1
      have ra3 := fun o => pc_alive (off := o) j3
      have rl3 := fun o => pc_ld (off := o) j3
      have rls := fun l (hl : 0 + l ≤ 2) => pc_lds (off := 0) (n := l) j3 (by simpa using hl)
      repeat (first | (with_reducible first | refine SW.seq ?_ | refine SW.block ?_ | refine SW.rowC ?_ | refine SW.skip ?_ | refine SW.exit ?_ | intro _ | refine And.intro (by omega) ?_) | simp (config := { maxSteps := 1000000 }) (disch := (first | omega | (simp only [go_sem]; try omega))) only [go_sem, Nat.reduceAdd, Nat.reduceEqDiff, Nat.reduceLeDiff, Nat.reduceMul, Nat.reduceLT, reduceIte, Int.reduceToNat, w64_id, cast_succ, ra, w1, ho.one.1, ho.one.2])
      have hl1 := (List.getElem?_eq_some_iff.1 j1).1
      have w2 : astore ((X ++ ext).set (H.length + 3) ⟨0, tyGr, 1, [.nm (H.length + 2) 0 0 cols.length, r]⟩) [.nm (H.length + 2) 0 0 cols.length, r] (.pc (H.length + 1) 0 0) = some (((X ++ ext).set (H.length + 3) ⟨0, tyGr, 1, [.nm (H.length + 2) 0 0 cols.length, r]⟩).set (H.length + 1) ⟨0, tyGr, 1, [.nm (H.length + 2) 0 0 cols.length, r]⟩) := by rw [pc_st j1 (by simp)]; rfl
      have hlen : (((X ++ ext).set (H.length + 3) ⟨0, tyGr, 1, [.nm (H.length + 2) 0 0 cols.length, r]⟩).set (H.length + 1) ⟨0, tyGr, 1, [.nm (H.length + 2) 0 0 cols.length, r]⟩).length = (X ++ ext).length := by rw [List.length_set, List.length_set]
      have q1 : (((X ++ ext).set (H.length + 3) ⟨0, tyGr, 1, [.nm (H.length + 2) 0 0 cols.length, r]⟩).set (H.length + 1) ⟨0, tyGr, 1, [.nm (H.length + 2) 0 0 cols.length, r]⟩)[H.length + 1]? = some ⟨0, tyGr, 1, [.nm (H.length + 2) 0 0 cols.length, r]⟩ := List.getElem?_set_self hl1
      have q2 : (((X ++ ext).set (H.length + 3) ⟨0, tyGr, 1, [.nm (H.length + 2) 0 0 cols.length, r]⟩).set (H.length + 1) ⟨0, tyGr, 1, [.nm (H.length + 2) 0 0 cols.length, r]⟩)[H.length + 2]? = some ⟨0, 2, 1, R.map I⟩ := by rw [List.getElem?_set_ne (by omega), List.getElem?_set_ne (by omega)]; exact k2
      have ho2 : OwnE (((X ++ ext).set (H.length + 3) ⟨0, tyGr, 1, [.nm (H.length + 2) 0 0 cols.length, r]⟩).set (H.length + 1) ⟨0, tyGr, 1, [.nm (H.length + 2) 0 0 cols.length, r]⟩) (Btw H.length (X ++ ext).length) r (sortU cmpE (es.map (ordE ∘ relE p))) :=
        (ho.same fun j b hj hb => by unfold Btw at hj; rw [List.getElem?_set_ne (by omega), List.getElem?_set_ne (by omega)]; exact hb).weak fun j hj _ => by unfold Btw at hj ⊢; omega
      obtain ⟨ext2, he2⟩ : ∃ ext2, ((X ++ ext).set (H.length + 3) ⟨0, tyGr, 1, [.nm (H.length + 2) 0 0 cols.length, r]⟩).set (H.length + 1) ⟨0, tyGr, 1, [.nm (H.length + 2) 0 0 cols.length, r]⟩ = H ++ ext2 := ext_ofR (by rw [hlen, List.length_append]; omega) (fun j hj => by
        rw [List.getElem?_set_ne (by omega), List.getElem?_set_ne (by omega), List.getElem?_append_left (by omega)]; exact hfX j hj)
      rw [he2] at w2 q1 q2 ho2 hlen
      repeat (first | (with_reducible first | refine SW.seq ?_ | refine SW.block ?_ | refine SW.rowC ?_ | refine SW.skip ?_ | refine SW.exit ?_ | intro _ | refine And.intro (by omega) ?_) | simp (config := { maxSteps := 1000000 }) (disch := (first | omega | (simp only [go_sem]; try omega))) only [go_sem, Nat.reduceAdd, Nat.reduceEqDiff, Nat.reduceLeDiff, Nat.reduceMul, Nat.reduceLT, reduceIte, Int.reduceToNat, w64_id, cast_succ, ra1, ra3, rl3, rls])
      repeat (first | (with_reducible first | refine SW.seq ?_ | refine SW.block ?_ | refine SW.rowC ?_ | refine SW.skip ?_ | refine SW.exit ?_ | intro _ | refine And.intro (by omega) ?_) | simp (config := { maxSteps := 1000000 }) (disch := (first | omega | (simp only [go_sem]; try omega))) only [go_sem, Nat.reduceAdd, Nat.reduceEqDiff, Nat.reduceLeDiff, Nat.reduceMul, Nat.reduceLT, reduceIte, Int.reduceToNat, w64_id, cast_succ, ho.one.1, w2])
      refine SW.ret (FunPost.cell (cs := [.nm (H.length + 2) 0 0 cols.length, r]) ?_ (GR.of ⟨ext2, _, r, rfl, rfl, ?_, ?_, ?_, rfl, rfl⟩))
      · rw [show aget [(4, AV.pc (H.length + 1) 0 0)] 4 = AV.pc (H.length + 1) 0 0 from rfl]
        exact pc_lds (off := 0) (n := 2) q1 (by simp)
      · have := view_nm (n := cols.length) q2 (by rw [List.length_map, hrl])
        unfold RdS
        rw [hR, hrl]; exact this
      · rw [hR]; exact hrl ▸ froz_rowI (by omega) q2
      · rw [hlen]; exact ho2
end Go.Proofs.YtdgcgckehihboaaGreatDoor
namespace Go.Proofs.YtdgcgckehihboaaGreatDoor
variable [Go.Av.DoorC]
open Go.Av
theorem OwnE.frozR {H : List Blk} {N : Nat → Prop} {b : Nat} {c : AV} {es : List (Int × Int)} (h : OwnE H N c es) (hN : ∀ r, N r → b ≤ r) : Froz H b c (ilE es) := by
  rcases h with ⟨r, ver, ty, rfl, h1, h2⟩ | ⟨rfl, rfl | rfl⟩
  · exact froz_edges (hN _ h1) h2
  · exact .nil
  · exact .old _ (show Bel b (ilE []) from Bel_ilE b [])
theorem relabeledGraph_fn (cols p : List Int) (es : List (Int × Int)) (hg : grB cols es = true) (hp : ordB cols.length p = true) : PFn Tryz.prog f_impl_relabeledGraph [.agg [ilS cols, ilE es], ilS p] (.agg [ilS (relC cols p cols.length), ilE (sortU cmpE (es.map fun e => ordE (relE p e)))]) := by
  intro H
  refine (relabeledGraph_ok H cols p es hg hp).gr ?_
  rintro r H1 ⟨ext, v, u, rfl, rfl, hrd, hfz, how, hv1, hv2⟩
  exact GR.froz (froz_agg2 hfz (how.frozR fun r hr => hr.1)) ⟨rfl, rfl⟩
theorem SameGraph_fn (xs ys : List Int) (es fs : List (Int × Int)) (hl : es.length ≤ 2000000) : PFn Tryz.prog f_impl_SameGraph [.agg [ilS xs, ilE es], .agg [ilS ys, ilE fs]] (Bv (decide (xs = ys) && decide (es = fs))) := fun H =>
  SameGraph_ok H _ _ _ _ xs ys es fs ⟨rfl, rfl⟩ ⟨rfl, rfl⟩ ⟨rfl, rfl⟩ ⟨rfl, rfl⟩ (rd_ilS _ _) (rd_ilS _ _) (rd_ilE _ _) (rd_ilE _ _) hl
end Go.Proofs.YtdgcgckehihboaaGreatDoor
