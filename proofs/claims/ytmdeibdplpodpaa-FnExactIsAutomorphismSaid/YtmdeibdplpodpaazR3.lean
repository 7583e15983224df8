/- Graphs compared; orders of vertices. -/
import Derived.Test.YtmdeibdplpodpaaProg
import Derived.KernelRfl
import Derived.Test.YtmdeibdplpodpaazR2
import Derived.Test.YtmdeibdplpodpaazL8
import Derived.Test.YtmdeibdplpodpaazK8
import Derived.Test.YtmdeibdplpodpaazQ2
import Derived.Test.YtmdeibdplpodpaazQZ
set_option linter.unusedSimpArgs false
set_option linter.unusedVariables false
set_option maxHeartbeats 4000000
set_option maxRecDepth 100000
namespace Go.Proofs.Ytmdeibdplpodpaa
open Go.Av
abbrev f_spec_l21Perm : Nat := 26
def c_spec_l21Perm : SC :=
 .seq (.reg [
     ⟨(some 4), .mv (.const (.bool false)), none⟩] [0, 1])
 (.seq (.seq (.reg [
     ⟨(some 7), .mv (.tmp 0), none⟩,
     ⟨(some 8), .len (.tmp 7), none⟩,
     ⟨(some 9), .mv (.tmp 1), none⟩,
     ⟨(some 10), .bin .neq (.tmp 8) (.tmp 9), none⟩] [0, 1, 10])
 (.cond (.tmp 10)
  (.seq (.reg [
      ⟨(some 4), .mv (.const (.bool false)), none⟩] [4])
  (.ret))
  (.skip)))
 (.seq (.reg [
     ⟨(some 11), .mv (.tmp 1), none⟩,
     ⟨(some 12), .mslice 4 1 (.bool false) (.tmp 11) (.tmp 11), none⟩,
     ⟨(some 5), .mv (.tmp 12), none⟩] [0, 1, 5])
 (.seq (.seq (.reg [
     ⟨(some 6), .mv (.const (.int .i64 0)), none⟩] [0, 1, 5, 6])
 (.block 0 (.loop [0, 1, 5, 6]
   (.seq (.seq (.reg [
       ⟨(some 13), .mv (.tmp 6), none⟩,
       ⟨(some 14), .mv (.tmp 1), none⟩,
       ⟨(some 15), .bin .lss (.tmp 13) (.tmp 14), none⟩] [0, 1, 5, 6, 15])
   (.cond (.tmp 15)
    (.skip)
    (.exit 0)))
   (.seq (.block 1 (.seq (.seq (.reg [
        ⟨(some 18), .mv (.tmp 0), none⟩,
        ⟨(some 19), .mv (.tmp 6), none⟩,
        ⟨(some 20), .iaddr 1 (.tmp 18) (.tmp 19), none⟩,
        ⟨(some 21), .load 1 false (.tmp 20), none⟩,
        ⟨(some 22), .mv (.tmp 1), none⟩,
        ⟨(some 23), .bin .sub (.tmp 22) (.const (.int .i64 1)), none⟩,
        ⟨(some 24), .call 53 [(.tmp 21), (.const (.int .i64 0)), (.tmp 23)], none⟩,
        ⟨(some 25), .un .not (.tmp 24), none⟩,
        ⟨(some 26), .mv (.tmp 25), none⟩,
        ⟨(some 27), .mv (.tmp 5), (some (26, false))⟩,
        ⟨(some 28), .mv (.tmp 0), (some (26, false))⟩,
        ⟨(some 29), .mv (.tmp 6), (some (26, false))⟩,
        ⟨(some 30), .iaddr 1 (.tmp 28) (.tmp 29), (some (26, false))⟩,
        ⟨(some 31), .load 1 false (.tmp 30), (some (26, false))⟩,
        ⟨(some 32), .iaddr 1 (.tmp 27) (.tmp 31), (some (26, false))⟩,
        ⟨(some 33), .load 1 false (.tmp 32), (some (26, false))⟩,
        ⟨(some 34), .pick (.tmp 26) (.const (.bool true)) (.tmp 33), none⟩] [0, 1, 5, 6, 34])
    (.cond (.tmp 34)
     (.seq (.reg [
         ⟨(some 4), .mv (.const (.bool false)), none⟩] [4])
     (.ret))
     (.skip)))
    (.reg [
        ⟨(some 35), .mv (.tmp 5), none⟩,
        ⟨(some 36), .mv (.tmp 0), none⟩,
        ⟨(some 37), .mv (.tmp 6), none⟩,
        ⟨(some 38), .iaddr 1 (.tmp 36) (.tmp 37), none⟩,
        ⟨(some 39), .load 1 false (.tmp 38), none⟩,
        ⟨(some 40), .iaddr 1 (.tmp 35) (.tmp 39), none⟩,
        ⟨none, .store 1 (.tmp 40) (.const (.bool true)), none⟩] [0, 1, 5, 6])))
   (.reg [
       ⟨(some 16), .mv (.tmp 6), none⟩,
       ⟨(some 17), .bin .add (.tmp 16) (.const (.int .i64 1)), none⟩,
       ⟨(some 6), .mv (.tmp 17), none⟩] [0, 1, 5, 6]))))))
 (.seq (.reg [
     ⟨(some 4), .mv (.const (.bool true)), none⟩] [4])
 (.ret)))))
theorem s_spec_l21Perm : stripF Try.prog 26 [[0, 1], [0, 1, 10], [4], [0, 1, 5], [0, 1, 5, 6], [0, 1, 5, 6], [0, 1, 5, 6, 15], [0, 1, 5, 6, 34], [4], [0, 1, 5, 6], [0, 1, 5, 6], [4]] = some (c_spec_l21Perm, [.tmp 4], 41) := by kernel_rfl
abbrev f_impl_isOrder : Nat := 31
def c_impl_isOrder : SC :=
 .seq (.reg [
     ⟨(some 4), .mv (.const (.bool false)), none⟩] [0, 1])
 (.seq (.reg [
     ⟨(some 6), .mv (.tmp 0), none⟩,
     ⟨(some 7), .call 61 [(.tmp 6)], none⟩,
     ⟨(some 5), .mv (.tmp 7), none⟩] [1, 5])
 (.seq (.reg [
     ⟨(some 8), .mv (.tmp 5), none⟩,
     ⟨(some 9), .call 62 [(.tmp 8)], none⟩] [1, 5])
 (.seq (.reg [
     ⟨(some 10), .mv (.tmp 5), none⟩,
     ⟨(some 11), .mv (.tmp 1), none⟩,
     ⟨(some 12), .call 63 [(.tmp 11)], none⟩,
     ⟨(some 13), .call 37 [(.tmp 10), (.tmp 12)], none⟩,
     ⟨(some 4), .mv (.tmp 13), none⟩] [4])
 (.ret))))
theorem s_impl_isOrder : stripF Try.prog 31 [[0, 1], [1, 5], [1, 5], [4]] = some (c_impl_isOrder, [.tmp 4], 14) := by kernel_rfl
abbrev f_slices_Equal_Limpl_Edge_impl_Edge : Nat := 64
def c_slices_Equal_Limpl_Edge_impl_Edge : SC :=
 .seq (.reg [
     ⟨(some 4), .mv (.const (.bool false)), none⟩] [0, 1])
 (.seq (.seq (.reg [
     ⟨(some 6), .mv (.tmp 0), none⟩,
     ⟨(some 7), .len (.tmp 6), none⟩,
     ⟨(some 8), .mv (.tmp 1), none⟩,
     ⟨(some 9), .len (.tmp 8), none⟩,
     ⟨(some 10), .bin .neq (.tmp 7) (.tmp 9), none⟩] [0, 1, 10])
 (.cond (.tmp 10)
  (.seq (.reg [
      ⟨(some 4), .mv (.const (.bool false)), none⟩] [4])
  (.ret))
  (.skip)))
 (.seq (.seq (.reg [
     ⟨(some 11), .mv (.tmp 0), none⟩,
     ⟨(some 12), .len (.tmp 11), none⟩,
     ⟨(some 13), .mv (.const (.int .i64 0)), none⟩] [0, 1, 12, 13])
 (.block 0 (.loop [0, 1, 12, 13]
   (.seq (.reg [
       ⟨(some 14), .bin .lss (.tmp 13) (.tmp 12), none⟩] [0, 1, 12, 13, 14])
   (.seq (.cond (.tmp 14)
    (.skip)
    (.exit 0))
   (.seq (.block 1 (.seq (.reg [
        ⟨(some 15), .mv (.tmp 13), none⟩,
        ⟨(some 5), .mv (.tmp 15), none⟩] [0, 1, 5, 12, 13])
    (.seq (.reg [
        ⟨(some 16), .mv (.tmp 0), none⟩,
        ⟨(some 17), .mv (.tmp 5), none⟩,
        ⟨(some 18), .iaddr 2 (.tmp 16) (.tmp 17), none⟩,
        ⟨(some 19), .load 2 true (.tmp 18), none⟩,
        ⟨(some 20), .mv (.tmp 1), none⟩,
        ⟨(some 21), .mv (.tmp 5), none⟩,
        ⟨(some 22), .iaddr 2 (.tmp 20) (.tmp 21), none⟩,
        ⟨(some 23), .load 2 true (.tmp 22), none⟩,
        ⟨(some 24), .eqs true (.tmp 19) (.tmp 23), none⟩] [0, 1, 12, 13, 24])
    (.cond (.tmp 24)
     (.seq (.reg [
         ⟨(some 4), .mv (.const (.bool false)), none⟩] [4])
     (.ret))
     (.skip)))))
   (.reg [
       ⟨(some 25), .bin .add (.tmp 13) (.const (.int .i64 1)), none⟩,
       ⟨(some 13), .mv (.tmp 25), none⟩] [0, 1, 12, 13])))))))
 (.seq (.reg [
     ⟨(some 4), .mv (.const (.bool true)), none⟩] [4])
 (.ret))))
theorem s_slices_Equal_Limpl_Edge_impl_Edge : stripF Try.prog 64 [[0, 1], [0, 1, 10], [4], [0, 1, 12, 13], [0, 1, 12, 13], [0, 1, 12, 13, 14], [0, 1, 5, 12, 13], [0, 1, 12, 13, 24], [4], [0, 1, 12, 13], [4]] = some (c_slices_Equal_Limpl_Edge_impl_Edge, [.tmp 4], 26) := by kernel_rfl
theorem slicesEqualE_ok (H : List Blk) (a b : AV) (xs ys : List (Int × Int)) (ha : RdE H a xs) (hb : RdE H b ys) (hl : xs.length ≤ 2000000) :
    ACalls Try.prog f_slices_Equal_Limpl_Edge_impl_Edge [a, b] H (fun r H' => r = Bv (decide (xs = ys)) ∧ H' = H) := by
  have va : aview H a = some (xs.length, flatE xs) := ha
  have vb : aview H b = some (ys.length, flatE ys) := hb
  refine ACalls.introB s_slices_Equal_Limpl_Edge_impl_Edge (by simp) ?_; intro hB hA; unfold c_slices_Equal_Limpl_Edge_impl_Edge; simp (config := { maxSteps := 1000000 }) (disch := (first | omega | (simp only [go_sem]; try omega))) only [go_sem, Nat.reduceAdd, Nat.reduceEqDiff, Nat.reduceLeDiff, Nat.reduceMul, Nat.reduceLT, reduceIte, Int.reduceToNat, w64_id, cast_succ]
  repeat (first | (with_reducible first | refine SW.seq ?_ | refine SW.block ?_ | refine SW.rowC ?_ | refine SW.skip ?_ | refine SW.exit ?_ | intro _ | refine And.intro (by omega) ?_) | simp (config := { maxSteps := 1000000 }) (disch := (first | omega | (simp only [go_sem]; try omega))) only [go_sem, Nat.reduceAdd, Nat.reduceEqDiff, Nat.reduceLeDiff, Nat.reduceMul, Nat.reduceLT, reduceIte, Int.reduceToNat, w64_id, cast_succ, va, vb])
  by_cases hl2 : xs.length = ys.length
  rotate_left
  · have d1 : decide ((xs.length : Int) = (ys.length : Int)) = false := decide_eq_false (by omega)
    repeat (first | (with_reducible first | refine SW.seq ?_ | refine SW.block ?_ | refine SW.rowC ?_ | refine SW.skip ?_ | refine SW.exit ?_ | intro _ | refine And.intro (by omega) ?_) | simp (config := { maxSteps := 1000000 }) (disch := (first | omega | (simp only [go_sem]; try omega))) only [go_sem, Nat.reduceAdd, Nat.reduceEqDiff, Nat.reduceLeDiff, Nat.reduceMul, Nat.reduceLT, reduceIte, Int.reduceToNat, w64_id, cast_succ, d1])
    refine SW.condT rfl ?_
    repeat (first | (with_reducible first | refine SW.seq ?_ | refine SW.block ?_ | refine SW.rowC ?_ | refine SW.skip ?_ | refine SW.exit ?_ | intro _ | refine And.intro (by omega) ?_) | simp (config := { maxSteps := 1000000 }) (disch := (first | omega | (simp only [go_sem]; try omega))) only [go_sem, Nat.reduceAdd, Nat.reduceEqDiff, Nat.reduceLeDiff, Nat.reduceMul, Nat.reduceLT, reduceIte, Int.reduceToNat, w64_id, cast_succ])
    refine SW.ret ?_; (try simp only [go_sem]); (first | refine FunPost.one ?_ | refine FunPost.two ?_ | refine FunPost.three ?_); (try simp (config := { maxSteps := 1000000 }) (disch := (first | omega | (simp only [go_sem]; try omega))) only [go_sem, Nat.reduceAdd, Nat.reduceEqDiff, Nat.reduceLeDiff, Nat.reduceMul, Nat.reduceLT, reduceIte, Int.reduceToNat, w64_id, cast_succ]); (first | (with_reducible refine GR.drop ?_ ?_; (simp only [go_sem, and_self, and_true, true_and, implies_true, List.take_succ_cons, List.take_zero])) | refine GR.of ?_); refine ⟨?_, rfl⟩; (try with_reducible rfl)
    rw [decide_eq_false (show ¬ xs = ys from fun h => hl2 (by rw [h]))]
  have d1 : decide ((xs.length : Int) = (ys.length : Int)) = true := decide_eq_true (by omega)
  repeat (first | (with_reducible first | refine SW.seq ?_ | refine SW.block ?_ | refine SW.rowC ?_ | refine SW.skip ?_ | refine SW.exit ?_ | intro _ | refine And.intro (by omega) ?_) | simp (config := { maxSteps := 1000000 }) (disch := (first | omega | (simp only [go_sem]; try omega))) only [go_sem, Nat.reduceAdd, Nat.reduceEqDiff, Nat.reduceLeDiff, Nat.reduceMul, Nat.reduceLT, reduceIte, Int.reduceToNat, w64_id, cast_succ, d1])
  refine SW.condF rfl ?_
  repeat (first | (with_reducible first | refine SW.seq ?_ | refine SW.block ?_ | refine SW.rowC ?_ | refine SW.skip ?_ | refine SW.exit ?_ | intro _ | refine And.intro (by omega) ?_) | simp (config := { maxSteps := 1000000 }) (disch := (first | omega | (simp only [go_sem]; try omega))) only [go_sem, Nat.reduceAdd, Nat.reduceEqDiff, Nat.reduceLeDiff, Nat.reduceMul, Nat.reduceLT, reduceIte, Int.reduceToNat, w64_id, cast_succ, va])
  refine SW.loopE (fun E0 H0 q E' H' => ∃ i : Nat, i ≤ xs.length ∧ q = xs.length - i ∧ E' = aput E0 13 (I i) ∧ H' = H0 ∧ ∀ j, j < i → xs.getD j (0, 0) = ys.getD j (0, 0)) xs.length ⟨0, by omega, by omega, rfl, rfl, by simp⟩ ?_
  rintro q E' H' ⟨i, hi, rfl, rfl, rfl, hj⟩
  simp (config := { maxSteps := 1000000 }) (disch := (first | omega | (simp only [go_sem]; try omega))) only [go_sem, Nat.reduceAdd, Nat.reduceEqDiff, Nat.reduceLeDiff, Nat.reduceMul, Nat.reduceLT, reduceIte, Int.reduceToNat, w64_id, cast_succ]
  repeat (first | (with_reducible first | refine SW.seq ?_ | refine SW.block ?_ | refine SW.rowC ?_ | refine SW.skip ?_ | refine SW.exit ?_ | intro _ | refine And.intro (by omega) ?_) | simp (config := { maxSteps := 1000000 }) (disch := (first | omega | (simp only [go_sem]; try omega))) only [go_sem, Nat.reduceAdd, Nat.reduceEqDiff, Nat.reduceLeDiff, Nat.reduceMul, Nat.reduceLT, reduceIte, Int.reduceToNat, w64_id, cast_succ, va])
  (first | refine SW.condD rfl (fun h3 => ?_) (fun h3 => ?_) | refine SW.condN rfl (fun h3 => ?_) (fun h3 => ?_) | refine SW.condNB rfl (fun h3 => ?_) (fun h3 => ?_) | refine SW.condB rfl (fun h3 => ?_) (fun h3 => ?_))
  · have l1 := ha.ld (j := i) (by omega)
    have l2 := hb.ld (j := i) (by omega)
    have de : (decide ((xs.getD i (0, 0)).1 = (ys.getD i (0, 0)).1) && decide ((xs.getD i (0, 0)).2 = (ys.getD i (0, 0)).2)) = decide (xs.getD i (0, 0) = ys.getD i (0, 0)) := by
      rw [Bool.eq_iff_iff, Bool.and_eq_true, decide_eq_true_eq, decide_eq_true_eq, decide_eq_true_eq, Prod.ext_iff]
    repeat (first | (with_reducible first | refine SW.seq ?_ | refine SW.block ?_ | refine SW.rowC ?_ | refine SW.skip ?_ | refine SW.exit ?_ | intro _ | refine And.intro (by omega) ?_) | simp (config := { maxSteps := 1000000 }) (disch := (first | omega | (simp only [go_sem]; try omega))) only [go_sem, Nat.reduceAdd, Nat.reduceEqDiff, Nat.reduceLeDiff, Nat.reduceMul, Nat.reduceLT, reduceIte, Int.reduceToNat, w64_id, cast_succ, va, vb, l1, l2])
    rw [de]
    by_cases h4 : xs.getD i (0, 0) = ys.getD i (0, 0)
    · rw [decide_eq_true h4]
      refine SW.condF rfl ?_
      repeat (first | (with_reducible first | refine SW.seq ?_ | refine SW.block ?_ | refine SW.rowC ?_ | refine SW.skip ?_ | refine SW.exit ?_ | intro _ | refine And.intro (by omega) ?_) | simp (config := { maxSteps := 1000000 }) (disch := (first | omega | (simp only [go_sem]; try omega))) only [go_sem, Nat.reduceAdd, Nat.reduceEqDiff, Nat.reduceLeDiff, Nat.reduceMul, Nat.reduceLT, reduceIte, Int.reduceToNat, w64_id, cast_succ])
      refine SLoop.next (xs.length - (i + 1)) (by omega) ⟨i + 1, by omega, rfl, by simp [go_sem], rfl, fun j hji => ?_⟩
      by_cases e : j = i
      · rw [e]; exact h4
      · exact hj j (by omega)
    · rw [decide_eq_false h4]
      refine SW.condT rfl ?_
      repeat (first | (with_reducible first | refine SW.seq ?_ | refine SW.block ?_ | refine SW.rowC ?_ | refine SW.skip ?_ | refine SW.exit ?_ | intro _ | refine And.intro (by omega) ?_) | simp (config := { maxSteps := 1000000 }) (disch := (first | omega | (simp only [go_sem]; try omega))) only [go_sem, Nat.reduceAdd, Nat.reduceEqDiff, Nat.reduceLeDiff, Nat.reduceMul, Nat.reduceLT, reduceIte, Int.reduceToNat, w64_id, cast_succ])
      refine SW.ret ?_; (try simp only [go_sem]); (first | refine FunPost.one ?_ | refine FunPost.two ?_ | refine FunPost.three ?_); (try simp (config := { maxSteps := 1000000 }) (disch := (first | omega | (simp only [go_sem]; try omega))) only [go_sem, Nat.reduceAdd, Nat.reduceEqDiff, Nat.reduceLeDiff, Nat.reduceMul, Nat.reduceLT, reduceIte, Int.reduceToNat, w64_id, cast_succ]); (first | (with_reducible refine GR.drop ?_ ?_; (simp only [go_sem, and_self, and_true, true_and, implies_true, List.take_succ_cons, List.take_zero])) | refine GR.of ?_); refine ⟨?_, rfl⟩; (try with_reducible rfl)
      rw [decide_eq_false (fun h => h4 (by rw [h]))]
  · have : i = xs.length := by omega
    subst this
    repeat (first | (with_reducible first | refine SW.seq ?_ | refine SW.block ?_ | refine SW.rowC ?_ | refine SW.skip ?_ | refine SW.exit ?_ | intro _ | refine And.intro (by omega) ?_) | simp (config := { maxSteps := 1000000 }) (disch := (first | omega | (simp only [go_sem]; try omega))) only [go_sem, Nat.reduceAdd, Nat.reduceEqDiff, Nat.reduceLeDiff, Nat.reduceMul, Nat.reduceLT, reduceIte, Int.reduceToNat, w64_id, cast_succ])
    refine SW.ret ?_; (try simp only [go_sem]); (first | refine FunPost.one ?_ | refine FunPost.two ?_ | refine FunPost.three ?_); (try simp (config := { maxSteps := 1000000 }) (disch := (first | omega | (simp only [go_sem]; try omega))) only [go_sem, Nat.reduceAdd, Nat.reduceEqDiff, Nat.reduceLeDiff, Nat.reduceMul, Nat.reduceLT, reduceIte, Int.reduceToNat, w64_id, cast_succ]); (first | (with_reducible refine GR.drop ?_ ?_; (simp only [go_sem, and_self, and_true, true_and, implies_true, List.take_succ_cons, List.take_zero])) | refine GR.of ?_); refine ⟨?_, rfl⟩; (try with_reducible rfl)
    have e : xs = ys := by
      refine List.ext_getElem hl2 fun j h1 h2 => ?_
      have := hj j h1
      rwa [getD_get h1, getD_get h2] at this
    rw [decide_eq_true e]
theorem marksB_getR {n : Nat} {D : List Int} {x : Int} (h0 : 0 ≤ x) (h1 : x < n) : ((marks n D).map Bv)[x.toNat]? = some (Bv (D.contains x)) := by
  rw [List.getElem?_map, List.getElem?_eq_getElem (by rw [marks_length]; omega), ← getD_get (d := false) (by rw [marks_length]; omega), marks_get n D x h0 h1]; rfl
def ordB (n : Nat) (p : List Int) : Bool := decide (p.length = n ∧ (∀ x ∈ p, 0 ≤ x ∧ x < (n : Int)) ∧ p.Nodup)
theorem idL_range (k : Nat) : idL k = (List.range k).map fun (i : Nat) => (i : Int) := by
  refine List.ext_getElem (by simp [idL, tab_length]) fun j h1 h2 => ?_
  simp [idL, tab]
theorem ordB_sorted (n : Nat) (p : List Int) : ordB n p = decide (isort p = idL n) := by
  unfold ordB
  rw [decide_eq_decide, idL_range]
  have hp : (isort p).Perm p := List.mergeSort_perm _ _
  have hs : (isort p).Pairwise (fun a b => a ≤ b) := (List.pairwise_mergeSort (le := fun x y => decide (x ≤ y)) (by simp; omega) (by simp; omega) p).imp (by simp)
  have hl : (isort p).length = p.length := hp.length_eq
  constructor
  · rintro ⟨rfl, h1, h2⟩
    have hn : (isort p).Nodup := hp.nodup_iff.2 h2
    have hlt : (isort p).Pairwise (· < ·) := by
      rw [List.nodup_iff_pairwise_ne] at hn
      exact (hs.and hn).imp (fun h => by omega)
    have hm : ∀ x ∈ isort p, 0 ≤ x ∧ x < ((isort p).length : Int) := fun x hx => by rw [hl]; exact h1 x (hp.mem_iff.1 hx)
    rw [← hl]
    exact rise_range hlt hm
  · intro h
    have hln : p.length = n := by rw [← hl, h]; simp
    refine ⟨hln, fun x hx => ?_, ?_⟩
    · have := hp.mem_iff.2 hx
      rw [h] at this
      simp at this
      omega
    · refine hp.nodup_iff.1 ?_
      rw [h, List.nodup_iff_pairwise_ne, List.pairwise_map]
      exact List.pairwise_lt_range.imp (fun h => by omega)
theorem isOrder_fn (p : List Int) (n : Nat) (hl : p.length ≤ 2000000) (hn : n ≤ 1000) : PFn Try.prog f_impl_isOrder [ilS p, I n] (Bv (ordB n p)) := by
  rw [ordB_sorted]
  intro H; refine ACalls.introB s_impl_isOrder (by simp) ?_; intro hB hA; unfold c_impl_isOrder; simp (config := { maxSteps := 1000000 }) (disch := (first | omega | (simp only [go_sem]; try omega))) only [go_sem, Nat.reduceAdd, Nat.reduceEqDiff, Nat.reduceLeDiff, Nat.reduceMul, Nat.reduceLT, reduceIte, Int.reduceToNat, w64_id, cast_succ]
  repeat (first | (with_reducible first | refine SW.seq ?_ | refine SW.block ?_ | refine SW.rowC ?_ | refine SW.skip ?_ | refine SW.exit ?_ | intro _ | refine And.intro (by omega) ?_) | simp (config := { maxSteps := 1000000 }) (disch := (first | omega | (simp only [go_sem]; try omega))) only [go_sem, Nat.reduceAdd, Nat.reduceEqDiff, Nat.reduceLeDiff, Nat.reduceMul, Nat.reduceLT, reduceIte, Int.reduceToNat, w64_id, cast_succ])
  refine (clone_ok H (ilS p) p (rd_ilS _ _) (by omega)).mono ?_
  rintro r H' ⟨ver, rfl, rfl⟩
  repeat (first | (with_reducible first | refine SW.seq ?_ | refine SW.block ?_ | refine SW.rowC ?_ | refine SW.skip ?_ | refine SW.exit ?_ | intro _ | refine And.intro (by omega) ?_) | simp (config := { maxSteps := 1000000 }) (disch := (first | omega | (simp only [go_sem]; try omega))) only [go_sem, Nat.reduceAdd, Nat.reduceEqDiff, Nat.reduceLeDiff, Nat.reduceMul, Nat.reduceLT, reduceIte, Int.reduceToNat, w64_id, cast_succ])
  refine (sortI_ok sortL_p sortL_n _ H.length ver 2 p (by simp) (by omega)).mono ?_
  rintro r H' ⟨rfl, rfl⟩
  have hil : (isort p).length = p.length := isort_length p
  have hset : (H ++ [(⟨ver, 2, 1, p.map I⟩ : Blk)]).set H.length (⟨ver, 2, 1, (isort p).map I⟩ : Blk) = H ++ [(⟨ver, 2, 1, (isort p).map I⟩ : Blk)] := by rw [List.set_append_right _ _ (Nat.le_refl _), Nat.sub_self]; rfl
  rw [hset]
  have hid := identity_fn n (by omega)
  have hrd : RdS (H ++ [⟨ver, 2, 1, (isort p).map I⟩]) (.nm H.length ver 0 p.length) (isort p) := by
    rw [← hil]; exact view_nm (ty := 2) (ver := ver) (by rw [List.getElem?_append_right (Nat.le_refl _), Nat.sub_self]; rfl) (by simp)
  repeat (first | (with_reducible first | refine SW.seq ?_ | refine SW.block ?_ | refine SW.rowC ?_ | refine SW.skip ?_ | refine SW.exit ?_ | refine PFn.use (hid) ?_ | refine PFn.useq (hid) ?_ | intro _ | refine And.intro (by omega) ?_) | simp (config := { maxSteps := 1000000 }) (disch := (first | omega | (simp only [go_sem]; try omega))) only [go_sem, Nat.reduceAdd, Nat.reduceEqDiff, Nat.reduceLeDiff, Nat.reduceMul, Nat.reduceLT, reduceIte, Int.reduceToNat, w64_id, cast_succ])
  refine (slicesEqual_ok _ _ _ _ _ hrd (rd_ilS _ _)).mono ?_
  rintro r H' ⟨rfl, rfl⟩
  repeat (first | (with_reducible first | refine SW.seq ?_ | refine SW.block ?_ | refine SW.rowC ?_ | refine SW.skip ?_ | refine SW.exit ?_ | intro _ | refine And.intro (by omega) ?_) | simp (config := { maxSteps := 1000000 }) (disch := (first | omega | (simp only [go_sem]; try omega))) only [go_sem, Nat.reduceAdd, Nat.reduceEqDiff, Nat.reduceLeDiff, Nat.reduceMul, Nat.reduceLT, reduceIte, Int.reduceToNat, w64_id, cast_succ])
  refine SW.ret ?_; (try simp only [go_sem]); (first | refine FunPost.one ?_ | refine FunPost.two ?_ | refine FunPost.three ?_); (try simp (config := { maxSteps := 1000000 }) (disch := (first | omega | (simp only [go_sem]; try omega))) only [go_sem, Nat.reduceAdd, Nat.reduceEqDiff, Nat.reduceLeDiff, Nat.reduceMul, Nat.reduceLT, reduceIte, Int.reduceToNat, w64_id, cast_succ]); (first | (with_reducible refine GR.drop ?_ ?_; (simp only [go_sem, and_self, and_true, true_and, implies_true, List.take_succ_cons, List.take_zero])) | refine GR.of ?_); refine ⟨?_, rfl⟩; (try with_reducible rfl)
theorem l21Perm_fn (p : List Int) (n : Nat) (hl : p.length ≤ 2000000) (hn : n ≤ 1000) : PFn Try.prog f_spec_l21Perm [ilS p, I n] (Bv (ordB n p)) := by
  by_cases hln : p.length = n
  · have d0 : decide ((p.length : Int) = (n : Int)) = true := decide_eq_true (by omega)
    have mar : ∀ pre : List Int, ∀ x : Int, ¬ ((∀ y ∈ pre ++ [x], 0 ≤ y ∧ y < (n : Int)) ∧ (pre ++ [x]).Nodup) → ∀ post, p = pre ++ x :: post → ordB n p = false := fun pre x hno post hq => by
      unfold ordB
      refine decide_eq_false fun h => hno ⟨fun y hy => h.2.1 y (by rw [hq]; simp at hy ⊢; rcases hy with h | h; exact .inl h; exact .inr (.inl h)), ?_⟩
      have := h.2.2
      rw [hq, show pre ++ x :: post = (pre ++ [x]) ++ post by simp] at this
      exact (List.nodup_append.1 this).1
    intro H; refine ACalls.introB s_spec_l21Perm (by simp) ?_; intro hB hA; unfold c_spec_l21Perm; simp (config := { maxSteps := 1000000 }) (disch := (first | omega | (simp only [go_sem]; try omega))) only [go_sem, Nat.reduceAdd, Nat.reduceEqDiff, Nat.reduceLeDiff, Nat.reduceMul, Nat.reduceLT, reduceIte, Int.reduceToNat, w64_id, cast_succ]
    repeat (first | (with_reducible first | refine SW.seq ?_ | refine SW.block ?_ | refine SW.rowC ?_ | refine SW.skip ?_ | refine SW.exit ?_ | intro _ | refine And.intro (by omega) ?_) | simp (config := { maxSteps := 1000000 }) (disch := (first | omega | (simp only [go_sem]; try omega))) only [go_sem, Nat.reduceAdd, Nat.reduceEqDiff, Nat.reduceLeDiff, Nat.reduceMul, Nat.reduceLT, reduceIte, Int.reduceToNat, w64_id, cast_succ, d0])
    refine SW.condF rfl ?_
    repeat (first | (with_reducible first | refine SW.seq ?_ | refine SW.block ?_ | refine SW.rowC ?_ | refine SW.skip ?_ | refine SW.exit ?_ | intro _ | refine And.intro (by omega) ?_) | simp (config := { maxSteps := 1000000 }) (disch := (first | omega | (simp only [go_sem]; try omega))) only [go_sem, Nat.reduceAdd, Nat.reduceEqDiff, Nat.reduceLeDiff, Nat.reduceMul, Nat.reduceLT, reduceIte, Int.reduceToNat, w64_id, cast_succ])
    refine SW.loopE (fun E0 H0 q E' H' => ∃ (pre post : List Int), p = pre ++ post ∧ q = post.length ∧ E' = aput E0 6 (I pre.length) ∧ H' = H ++ [⟨0, 4, 1, (marks n pre).map Bv⟩] ∧ (∀ x ∈ pre, 0 ≤ x ∧ x < (n : Int)) ∧ pre.Nodup) p.length ⟨[], p, rfl, rfl, rfl, by rw [← marks_nil], by simp, by simp⟩ ?_
    rintro q E' H' ⟨pre, post, hq, rfl, rfl, rfl, hpr, hpn⟩
    simp (config := { maxSteps := 1000000 }) (disch := (first | omega | (simp only [go_sem]; try omega))) only [go_sem, Nat.reduceAdd, Nat.reduceEqDiff, Nat.reduceLeDiff, Nat.reduceMul, Nat.reduceLT, reduceIte, Int.reduceToNat, w64_id, cast_succ]
    repeat (first | (with_reducible first | refine SW.seq ?_ | refine SW.block ?_ | refine SW.rowC ?_ | refine SW.skip ?_ | refine SW.exit ?_ | intro _ | refine And.intro (by omega) ?_) | simp (config := { maxSteps := 1000000 }) (disch := (first | omega | (simp only [go_sem]; try omega))) only [go_sem, Nat.reduceAdd, Nat.reduceEqDiff, Nat.reduceLeDiff, Nat.reduceMul, Nat.reduceLT, reduceIte, Int.reduceToNat, w64_id, cast_succ])
    (first | refine SW.condD rfl (fun h2 => ?_) (fun h2 => ?_) | refine SW.condN rfl (fun h2 => ?_) (fun h2 => ?_) | refine SW.condNB rfl (fun h2 => ?_) (fun h2 => ?_) | refine SW.condB rfl (fun h2 => ?_) (fun h2 => ?_))
    · obtain ⟨x, post, rfl, hg, -⟩ := consOf (d := 0) hq (by omega)
      have hi := l00In_fn x 0 ((n : Int) - 1)
      cases c1 : (decide (0 ≤ x) && decide (x ≤ (n : Int) - 1))
      · rw [c1] at hi
        rw [Bool.and_eq_false_iff, decide_eq_false_iff_not, decide_eq_false_iff_not] at c1
        repeat (first | (with_reducible first | refine SW.seq ?_ | refine SW.block ?_ | refine SW.rowC ?_ | refine SW.skip ?_ | refine SW.exit ?_ | refine PFn.use (hi) ?_ | refine PFn.useq (hi) ?_ | intro _ | refine And.intro (by omega) ?_) | simp (config := { maxSteps := 1000000 }) (disch := (first | omega | (simp only [go_sem]; try omega))) only [go_sem, Nat.reduceAdd, Nat.reduceEqDiff, Nat.reduceLeDiff, Nat.reduceMul, Nat.reduceLT, reduceIte, Int.reduceToNat, w64_id, cast_succ, hg])
        refine SW.condT rfl ?_
        repeat (first | (with_reducible first | refine SW.seq ?_ | refine SW.block ?_ | refine SW.rowC ?_ | refine SW.skip ?_ | refine SW.exit ?_ | intro _ | refine And.intro (by omega) ?_) | simp (config := { maxSteps := 1000000 }) (disch := (first | omega | (simp only [go_sem]; try omega))) only [go_sem, Nat.reduceAdd, Nat.reduceEqDiff, Nat.reduceLeDiff, Nat.reduceMul, Nat.reduceLT, reduceIte, Int.reduceToNat, w64_id, cast_succ])
        refine SW.ret ?_; (try simp only [go_sem]); (first | refine FunPost.one ?_ | refine FunPost.two ?_ | refine FunPost.three ?_); (try simp (config := { maxSteps := 1000000 }) (disch := (first | omega | (simp only [go_sem]; try omega))) only [go_sem, Nat.reduceAdd, Nat.reduceEqDiff, Nat.reduceLeDiff, Nat.reduceMul, Nat.reduceLT, reduceIte, Int.reduceToNat, w64_id, cast_succ])
        rw [mar pre x (fun h => by have := h.1 x (by simp); omega) post hq]
        exact GR.froz (froz_B' _) ⟨rfl, rfl⟩
      rw [c1] at hi
      rw [Bool.and_eq_true, decide_eq_true_eq, decide_eq_true_eq] at c1
      have hgm := marksB_getR (n := n) (D := pre) (x := x) c1.1 (by omega)
      have hst := marks_set n pre x c1.1
      obtain ⟨x, rfl⟩ := Int.eq_ofNat_of_zero_le c1.1
      rw [Int.toNat_natCast] at hgm hst
      have hml := marks_length n pre
      have hxn : x < n := by omega
      have hb0 : (H ++ [⟨0, 4, 1, (marks n pre).map Bv⟩])[H.length]? = some ⟨0, 4, 1, (marks n pre).map Bv⟩ := by rw [List.getElem?_append_right (Nat.le_refl _), Nat.sub_self]; rfl
      have hvv := view_nm (n := n) hb0 (by rw [List.length_map, hml])
      have hss := store_nm (c := Bv true) (n := n) hb0 (i := x) (by rw [List.length_map, hml]; exact hxn)
      rw [← List.map_set, hst, List.set_append_right _ _ (Nat.le_refl _), Nat.sub_self] at hss
      change _ = some (H ++ [⟨0, 4, 1, (marks n (pre ++ [(x : Int)])).map Bv⟩]) at hss
      cases c2 : pre.contains (x : Int)
      · rw [c2] at hgm
        repeat (first | (with_reducible first | refine SW.seq ?_ | refine SW.block ?_ | refine SW.rowC ?_ | refine SW.skip ?_ | refine SW.exit ?_ | refine PFn.use (hi) ?_ | refine PFn.useq (hi) ?_ | intro _ | refine And.intro (by omega) ?_) | simp (config := { maxSteps := 1000000 }) (disch := (first | omega | (simp only [go_sem]; try omega))) only [go_sem, Nat.reduceAdd, Nat.reduceEqDiff, Nat.reduceLeDiff, Nat.reduceMul, Nat.reduceLT, reduceIte, Int.reduceToNat, w64_id, cast_succ, hg, hgm, hvv])
        refine SW.condF rfl ?_
        repeat (first | (with_reducible first | refine SW.seq ?_ | refine SW.block ?_ | refine SW.rowC ?_ | refine SW.skip ?_ | refine SW.exit ?_ | intro _ | refine And.intro (by omega) ?_) | simp (config := { maxSteps := 1000000 }) (disch := (first | omega | (simp only [go_sem]; try omega))) only [go_sem, Nat.reduceAdd, Nat.reduceEqDiff, Nat.reduceLeDiff, Nat.reduceMul, Nat.reduceLT, reduceIte, Int.reduceToNat, w64_id, cast_succ, hg, hvv, hss])
        refine SLoop.next post.length (by simp) ⟨pre ++ [(x : Int)], post, by simp [hq], rfl, by simp [go_sem], rfl, ?_, ?_⟩
        · intro y hy
          rcases List.mem_append.1 hy with hy | hy
          · exact hpr y hy
          · rw [List.mem_singleton.1 hy]; omega
        · rw [List.nodup_append]
          refine ⟨hpn, by simp, fun a ha b hb => ?_⟩
          rw [List.mem_singleton.1 hb]
          rintro rfl
          rw [← Bool.not_eq_true, List.contains_iff_mem] at c2
          exact c2 ha
      · rw [c2] at hgm
        repeat (first | (with_reducible first | refine SW.seq ?_ | refine SW.block ?_ | refine SW.rowC ?_ | refine SW.skip ?_ | refine SW.exit ?_ | refine PFn.use (hi) ?_ | refine PFn.useq (hi) ?_ | intro _ | refine And.intro (by omega) ?_) | simp (config := { maxSteps := 1000000 }) (disch := (first | omega | (simp only [go_sem]; try omega))) only [go_sem, Nat.reduceAdd, Nat.reduceEqDiff, Nat.reduceLeDiff, Nat.reduceMul, Nat.reduceLT, reduceIte, Int.reduceToNat, w64_id, cast_succ, hg, hgm, hvv])
        refine SW.condT rfl ?_
        repeat (first | (with_reducible first | refine SW.seq ?_ | refine SW.block ?_ | refine SW.rowC ?_ | refine SW.skip ?_ | refine SW.exit ?_ | intro _ | refine And.intro (by omega) ?_) | simp (config := { maxSteps := 1000000 }) (disch := (first | omega | (simp only [go_sem]; try omega))) only [go_sem, Nat.reduceAdd, Nat.reduceEqDiff, Nat.reduceLeDiff, Nat.reduceMul, Nat.reduceLT, reduceIte, Int.reduceToNat, w64_id, cast_succ])
        refine SW.ret ?_; (try simp only [go_sem]); (first | refine FunPost.one ?_ | refine FunPost.two ?_ | refine FunPost.three ?_); (try simp (config := { maxSteps := 1000000 }) (disch := (first | omega | (simp only [go_sem]; try omega))) only [go_sem, Nat.reduceAdd, Nat.reduceEqDiff, Nat.reduceLeDiff, Nat.reduceMul, Nat.reduceLT, reduceIte, Int.reduceToNat, w64_id, cast_succ])
        rw [mar pre (x : Int) (fun h => by
          have h3 := (List.nodup_append.1 h.2).2.2 (x : Int) (List.contains_iff_mem.1 c2) (x : Int) (by simp)
          exact h3 rfl) post hq]
        exact GR.froz (froz_B' _) ⟨rfl, rfl⟩
    · obtain ⟨rfl, rfl⟩ := nilOf hq (by omega)
      repeat (first | (with_reducible first | refine SW.seq ?_ | refine SW.block ?_ | refine SW.rowC ?_ | refine SW.skip ?_ | refine SW.exit ?_ | intro _ | refine And.intro (by omega) ?_) | simp (config := { maxSteps := 1000000 }) (disch := (first | omega | (simp only [go_sem]; try omega))) only [go_sem, Nat.reduceAdd, Nat.reduceEqDiff, Nat.reduceLeDiff, Nat.reduceMul, Nat.reduceLT, reduceIte, Int.reduceToNat, w64_id, cast_succ])
      refine SW.ret ?_; (try simp only [go_sem]); (first | refine FunPost.one ?_ | refine FunPost.two ?_ | refine FunPost.three ?_); (try simp (config := { maxSteps := 1000000 }) (disch := (first | omega | (simp only [go_sem]; try omega))) only [go_sem, Nat.reduceAdd, Nat.reduceEqDiff, Nat.reduceLeDiff, Nat.reduceMul, Nat.reduceLT, reduceIte, Int.reduceToNat, w64_id, cast_succ])
      have : ordB n pre = true := by unfold ordB; exact decide_eq_true ⟨hln, hpr, hpn⟩
      rw [this]
      exact GR.froz (froz_B' _) ⟨rfl, rfl⟩
  · have d0 : decide ((p.length : Int) = (n : Int)) = false := decide_eq_false (by omega)
    have hb : ordB n p = false := by unfold ordB; exact decide_eq_false fun h => hln h.1
    rw [hb]
    intro H; refine ACalls.introB s_spec_l21Perm (by simp) ?_; intro hB hA; unfold c_spec_l21Perm; simp (config := { maxSteps := 1000000 }) (disch := (first | omega | (simp only [go_sem]; try omega))) only [go_sem, Nat.reduceAdd, Nat.reduceEqDiff, Nat.reduceLeDiff, Nat.reduceMul, Nat.reduceLT, reduceIte, Int.reduceToNat, w64_id, cast_succ]
    repeat (first | (with_reducible first | refine SW.seq ?_ | refine SW.block ?_ | refine SW.rowC ?_ | refine SW.skip ?_ | refine SW.exit ?_ | intro _ | refine And.intro (by omega) ?_) | simp (config := { maxSteps := 1000000 }) (disch := (first | omega | (simp only [go_sem]; try omega))) only [go_sem, Nat.reduceAdd, Nat.reduceEqDiff, Nat.reduceLeDiff, Nat.reduceMul, Nat.reduceLT, reduceIte, Int.reduceToNat, w64_id, cast_succ, d0])
    refine SW.condT rfl ?_
    repeat (first | (with_reducible first | refine SW.seq ?_ | refine SW.block ?_ | refine SW.rowC ?_ | refine SW.skip ?_ | refine SW.exit ?_ | intro _ | refine And.intro (by omega) ?_) | simp (config := { maxSteps := 1000000 }) (disch := (first | omega | (simp only [go_sem]; try omega))) only [go_sem, Nat.reduceAdd, Nat.reduceEqDiff, Nat.reduceLeDiff, Nat.reduceMul, Nat.reduceLT, reduceIte, Int.reduceToNat, w64_id, cast_succ])
    refine SW.ret ?_; (try simp only [go_sem]); (first | refine FunPost.one ?_ | refine FunPost.two ?_ | refine FunPost.three ?_); (try simp (config := { maxSteps := 1000000 }) (disch := (first | omega | (simp only [go_sem]; try omega))) only [go_sem, Nat.reduceAdd, Nat.reduceEqDiff, Nat.reduceLeDiff, Nat.reduceMul, Nat.reduceLT, reduceIte, Int.reduceToNat, w64_id, cast_succ]); (first | (with_reducible refine GR.drop ?_ ?_; (simp only [go_sem, and_self, and_true, true_and, implies_true, List.take_succ_cons, List.take_zero])) | refine GR.of ?_); refine ⟨?_, rfl⟩; (try with_reducible rfl)
end Go.Proofs.Ytmdeibdplpodpaa
