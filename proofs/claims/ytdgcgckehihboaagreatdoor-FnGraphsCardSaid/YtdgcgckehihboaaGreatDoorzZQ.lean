/- Some permutation of a degree up to 64, and the one that leads back. -/
import Derived.Test.YtdgcgckehihboaaGreatDoorProg
import Derived.KernelRfl
import Derived.Test.YtdgcgckehihboaaGreatDoorzDP
import Derived.Test.YtdgcgckehihboaaGreatDoorzRP
set_option linter.unusedSimpArgs false
set_option linter.unusedVariables false
set_option linter.unusedSectionVars false
set_option maxHeartbeats 4000000
set_option maxRecDepth 100000
namespace Go.Proofs.YtdgcgckehihboaaGreatDoor
variable [Go.Av.DoorC]
open Go.Av
abbrev f_laws_b10Perm : Nat := 10
def c_laws_b10Perm : SC :=
 .seq (.reg [
     ⟨(some 4), .mv (.const (.slice none 0 0)), none⟩] [0, 1])
 (.seq (.reg [
     ⟨(some 10), .bslice 2 1 0 [] [], none⟩,
     ⟨(some 5), .mv (.tmp 10), none⟩] [0, 1, 5])
 (.seq (.seq (.reg [
     ⟨(some 6), .mv (.const (.int .i64 0)), none⟩] [0, 1, 5, 6])
 (.block 0 (.loop [0, 1, 5, 6]
   (.seq (.seq (.reg [
       ⟨(some 11), .mv (.tmp 6), none⟩,
       ⟨(some 12), .mv (.tmp 1), none⟩,
       ⟨(some 13), .bin .lss (.tmp 11) (.tmp 12), none⟩] [0, 1, 5, 6, 13])
   (.cond (.tmp 13)
    (.skip)
    (.exit 0)))
   (.seq (.block 1 (.reg [
        ⟨(some 16), .mv (.tmp 5), none⟩,
        ⟨(some 17), .mv (.tmp 6), none⟩,
        ⟨(some 18), .bslice 2 1 1 [(.int .i64 0)] [(0, (.tmp 17))], none⟩,
        ⟨(some 19), .app 2 1 8 (.tmp 16) (.tmp 18), none⟩,
        ⟨(some 5), .mv (.tmp 19), none⟩] [0, 1, 5, 6]))
   (.reg [
       ⟨(some 14), .mv (.tmp 6), none⟩,
       ⟨(some 15), .bin .add (.tmp 14) (.const (.int .i64 1)), none⟩,
       ⟨(some 6), .mv (.tmp 15), none⟩] [0, 1, 5, 6]))))))
 (.seq (.seq (.reg [
     ⟨(some 20), .mv (.tmp 1), none⟩,
     ⟨(some 21), .bin .sub (.tmp 20) (.const (.int .i64 1)), none⟩,
     ⟨(some 7), .mv (.tmp 21), none⟩] [0, 5, 7])
 (.block 2 (.loop [0, 5, 7]
   (.seq (.seq (.reg [
       ⟨(some 22), .mv (.tmp 7), none⟩,
       ⟨(some 23), .bin .gtr (.tmp 22) (.const (.int .i64 0)), none⟩] [0, 5, 7, 23])
   (.cond (.tmp 23)
    (.skip)
    (.exit 2)))
   (.seq (.block 3 (.seq (.reg [
        ⟨(some 26), .mv (.tmp 0), none⟩,
        ⟨(some 27), .mv (.tmp 7), none⟩,
        ⟨(some 28), .mv (.tmp 7), none⟩,
        ⟨(some 29), .bin .add (.tmp 28) (.const (.int .i64 1)), none⟩,
        ⟨(some 30), .call 26 [(.tmp 26), (.tmp 27), (.tmp 29)], none⟩,
        ⟨(some 8), .mv (.tmp 30), none⟩] [0, 5, 7, 8])
    (.seq (.reg [
        ⟨(some 31), .mv (.tmp 5), none⟩,
        ⟨(some 32), .mv (.tmp 7), none⟩,
        ⟨(some 33), .iaddr 1 (.tmp 31) (.tmp 32), none⟩,
        ⟨(some 34), .load 1 false (.tmp 33), none⟩,
        ⟨(some 9), .mv (.tmp 34), none⟩] [0, 5, 7, 8, 9])
    (.seq (.reg [
        ⟨(some 35), .mv (.tmp 5), none⟩,
        ⟨(some 36), .mv (.tmp 7), none⟩,
        ⟨(some 37), .mv (.tmp 5), none⟩,
        ⟨(some 38), .mv (.tmp 8), none⟩,
        ⟨(some 39), .iaddr 1 (.tmp 37) (.tmp 38), none⟩,
        ⟨(some 40), .load 1 false (.tmp 39), none⟩,
        ⟨(some 41), .iaddr 1 (.tmp 35) (.tmp 36), none⟩,
        ⟨none, .store 1 (.tmp 41) (.tmp 40), none⟩] [0, 5, 7, 8, 9])
    (.reg [
        ⟨(some 42), .mv (.tmp 5), none⟩,
        ⟨(some 43), .mv (.tmp 8), none⟩,
        ⟨(some 44), .mv (.tmp 9), none⟩,
        ⟨(some 45), .iaddr 1 (.tmp 42) (.tmp 43), none⟩,
        ⟨none, .store 1 (.tmp 45) (.tmp 44), none⟩] [0, 5, 7])))))
   (.reg [
       ⟨(some 24), .mv (.tmp 7), none⟩,
       ⟨(some 25), .bin .sub (.tmp 24) (.const (.int .i64 1)), none⟩,
       ⟨(some 7), .mv (.tmp 25), none⟩] [0, 5, 7]))))))
 (.seq (.reg [
     ⟨(some 46), .mv (.tmp 5), none⟩,
     ⟨(some 4), .mv (.tmp 46), none⟩] [4])
 (.ret)))))
theorem s_laws_b10Perm : stripF Tryz.prog 10 [[0, 1], [0, 1, 5], [0, 1, 5, 6], [0, 1, 5, 6], [0, 1, 5, 6, 13], [0, 1, 5, 6], [0, 1, 5, 6], [0, 5, 7], [0, 5, 7], [0, 5, 7, 23], [0, 5, 7, 8], [0, 5, 7, 8, 9], [0, 5, 7, 8, 9], [0, 5, 7], [0, 5, 7], [4]] = some (c_laws_b10Perm, [.tmp 4], 47) := by kernel_rfl
theorem permOk_ord {n : Nat} {p : List Int} (h : permOk n p) : ordB n p = true := by
  unfold ordB
  exact decide_eq_true ⟨h.1, h.2.2, h.2.1⟩
theorem b10PermZ_ok (H : List Blk) (ns : List Int) (n : Nat) (hz : ∀ z ∈ ns, 0 ≤ z ∧ z < 256) (hl : ns.length ≤ 2000000) (hn : n ≤ 64) :
    ACalls Tryz.prog f_laws_b10Perm [ilY ns, I n] H (fun r H' => H' = H ∧ ∃ p, r = ilS p ∧ ordB n p = true) := by
  have hbn := fun k => Bel_ilY k ns
  refine ACalls.introB s_laws_b10Perm (by simp) ?_; intro hB hA; unfold c_laws_b10Perm; simp (config := { maxSteps := 1000000 }) (disch := (first | omega | (simp only [go_sem]; try omega))) only [go_sem, Nat.reduceAdd, Nat.reduceEqDiff, Nat.reduceLeDiff, Nat.reduceMul, Nat.reduceLT, reduceIte, Int.reduceToNat, w64_id, cast_succ]
  repeat (first | (with_reducible first | refine SW.seq ?_ | refine SW.block ?_ | refine SW.rowC ?_ | refine SW.skip ?_ | refine SW.exit ?_ | intro _ | refine And.intro (by omega) ?_) | simp (config := { maxSteps := 1000000 }) (disch := (first | omega | (simp only [go_sem]; try omega))) only [go_sem, Nat.reduceAdd, Nat.reduceEqDiff, Nat.reduceLeDiff, Nat.reduceMul, Nat.reduceLT, reduceIte, Int.reduceToNat, w64_id, cast_succ])
  refine SW.loopE (fun E0 H0 q E' H' => ∃ i : Nat, i ≤ n ∧ q = n - i ∧ E' = aput (aput E0 6 (I i)) 5 (.nm H.length i 0 i) ∧ H' = H ++ [⟨i, 2, 1, (idL i).map I⟩]) n ⟨0, by omega, by omega, rfl, rfl⟩ ?_
  rintro q E' H' ⟨i, hi, rfl, rfl, rfl⟩
  have hil : (idL i).length = i := (idL_ok i).1
  have htk := (List.take_of_length_le (l := (idL i).map I) (i := i) (by rw [List.length_map, hil]; exact Nat.le_refl _))
  simp (config := { maxSteps := 1000000 }) (disch := (first | omega | (simp only [go_sem]; try omega))) only [go_sem, Nat.reduceAdd, Nat.reduceEqDiff, Nat.reduceLeDiff, Nat.reduceMul, Nat.reduceLT, reduceIte, Int.reduceToNat, w64_id, cast_succ]
  repeat (first | (with_reducible first | refine SW.seq ?_ | refine SW.block ?_ | refine SW.rowC ?_ | refine SW.skip ?_ | refine SW.exit ?_ | intro _ | refine And.intro (by omega) ?_) | simp (config := { maxSteps := 1000000 }) (disch := (first | omega | (simp only [go_sem]; try omega))) only [go_sem, Nat.reduceAdd, Nat.reduceEqDiff, Nat.reduceLeDiff, Nat.reduceMul, Nat.reduceLT, reduceIte, Int.reduceToNat, w64_id, cast_succ])
  (first | refine SW.condD rfl (fun h => ?_) (fun h => ?_) | refine SW.condN rfl (fun h => ?_) (fun h => ?_) | refine SW.condNB rfl (fun h => ?_) (fun h => ?_) | refine SW.condB rfl (fun h => ?_) (fun h => ?_))
  · repeat (first | (with_reducible first | refine SW.seq ?_ | refine SW.block ?_ | refine SW.rowC ?_ | refine SW.skip ?_ | refine SW.exit ?_ | intro _ | refine And.intro (by omega) ?_) | simp (config := { maxSteps := 1000000 }) (disch := (first | omega | (simp only [go_sem]; try omega))) only [go_sem, Nat.reduceAdd, Nat.reduceEqDiff, Nat.reduceLeDiff, Nat.reduceMul, Nat.reduceLT, reduceIte, Int.reduceToNat, w64_id, cast_succ, htk])
    refine SLoop.nextT 1 (n - (i + 1)) hB (by simp) (by omega) (by simp) ?_ ?_ ⟨i + 1, by omega, rfl, ?_, ?_⟩
    · (simp only [go_sem, Nat.reduceAdd, Nat.reduceEqDiff, reduceIte, go_sem, and_self, and_true, true_and, implies_true, List.take_succ_cons, List.take_zero, and_true, true_and]; try omega)
      exact ⟨hbn _, by omega⟩
    · (simp only [go_sem, Nat.reduceAdd, Nat.reduceEqDiff, reduceIte, go_sem, and_self, and_true, true_and, implies_true, List.take_succ_cons, List.take_zero, and_true, true_and]; try omega)
    · simp [go_sem]
    · rw [idL_succ, List.map_append]; rfl
  · have : i = n := by omega
    subst this
    repeat (first | (with_reducible first | refine SW.seq ?_ | refine SW.block ?_ | refine SW.rowC ?_ | refine SW.skip ?_ | refine SW.exit ?_ | intro _ | refine And.intro (by omega) ?_) | simp (config := { maxSteps := 1000000 }) (disch := (first | omega | (simp only [go_sem]; try omega))) only [go_sem, Nat.reduceAdd, Nat.reduceEqDiff, Nat.reduceLeDiff, Nat.reduceMul, Nat.reduceLT, reduceIte, Int.reduceToNat, w64_id, cast_succ])
    refine SW.loopE (fun E0 H0 q E' H' => ∃ (k : Int) (p : List Int), -1 ≤ k ∧ k < i ∧ q = k.toNat ∧ permOk i p ∧ E' = aput E0 7 (I k) ∧ H' = H ++ [⟨i, 2, 1, p.map I⟩]) ((i : Int) - 1).toNat ⟨(i : Int) - 1, idL i, by omega, by omega, rfl, idL_ok i, ?_, rfl⟩ ?_
    · simp [go_sem]
    rintro q E' H' ⟨k, p, hk0, hk, rfl, hp, rfl, rfl⟩
    have hpl := hp.1
    have htp : (p.map I).take i = p.map I := List.take_of_length_le (by rw [List.length_map, hpl]; exact Nat.le_refl _)
    simp (config := { maxSteps := 1000000 }) (disch := (first | omega | (simp only [go_sem]; try omega))) only [go_sem, Nat.reduceAdd, Nat.reduceEqDiff, Nat.reduceLeDiff, Nat.reduceMul, Nat.reduceLT, reduceIte, Int.reduceToNat, w64_id, cast_succ]
    repeat (first | (with_reducible first | refine SW.seq ?_ | refine SW.block ?_ | refine SW.rowC ?_ | refine SW.skip ?_ | refine SW.exit ?_ | intro _ | refine And.intro (by omega) ?_) | simp (config := { maxSteps := 1000000 }) (disch := (first | omega | (simp only [go_sem]; try omega))) only [go_sem, Nat.reduceAdd, Nat.reduceEqDiff, Nat.reduceLeDiff, Nat.reduceMul, Nat.reduceLT, reduceIte, Int.reduceToNat, w64_id, cast_succ])
    (first | refine SW.condD rfl (fun h => ?_) (fun h => ?_) | refine SW.condN rfl (fun h => ?_) (fun h => ?_) | refine SW.condNB rfl (fun h => ?_) (fun h => ?_) | refine SW.condB rfl (fun h => ?_) (fun h => ?_))
    · obtain ⟨q, rfl⟩ := Int.eq_ofNat_of_zero_le (show 0 ≤ k by omega)
      have hat := b10AtG (H ++ [⟨i, 2, 1, p.map I⟩]) ns q (q + 1) hz hl (by omega) (by omega) (by omega)
      rw [show ((q + 1 : Nat) : Int) = (q : Int) + 1 by omega] at hat
      repeat (first | (with_reducible first | refine SW.seq ?_ | refine SW.block ?_ | refine SW.rowC ?_ | refine SW.skip ?_ | refine SW.exit ?_ | intro _ | refine And.intro (by omega) ?_) | simp (config := { maxSteps := 1000000 }) (disch := (first | omega | (simp only [go_sem]; try omega))) only [go_sem, Nat.reduceAdd, Nat.reduceEqDiff, Nat.reduceLeDiff, Nat.reduceMul, Nat.reduceLT, reduceIte, Int.reduceToNat, w64_id, cast_succ])
      refine hat.mono ?_
      rintro r H1 ⟨rfl, j, rfl, hj⟩
      repeat (first | (with_reducible first | refine SW.seq ?_ | refine SW.block ?_ | refine SW.rowC ?_ | refine SW.skip ?_ | refine SW.exit ?_ | intro _ | refine And.intro (by omega) ?_) | simp (config := { maxSteps := 1000000 }) (disch := (first | omega | (simp only [go_sem]; try omega))) only [go_sem, Nat.reduceAdd, Nat.reduceEqDiff, Nat.reduceLeDiff, Nat.reduceMul, Nat.reduceLT, reduceIte, Int.reduceToNat, w64_id, cast_succ, htp])
      have e1 := permOk_swap hp (i := q) (j := j) (by omega) (by omega)
      rw [show p[j] = p.getD j 0 from (List.getElem_eq_getD 0), show p[q] = p.getD q 0 from (List.getElem_eq_getD 0)] at e1
      refine SLoop.next ((q : Int) - 1).toNat (by omega) ⟨(q : Int) - 1, _, by omega, by omega, rfl, e1, ?_, rfl⟩
      rfl
    · repeat (first | (with_reducible first | refine SW.seq ?_ | refine SW.block ?_ | refine SW.rowC ?_ | refine SW.skip ?_ | refine SW.exit ?_ | intro _ | refine And.intro (by omega) ?_) | simp (config := { maxSteps := 1000000 }) (disch := (first | omega | (simp only [go_sem]; try omega))) only [go_sem, Nat.reduceAdd, Nat.reduceEqDiff, Nat.reduceLeDiff, Nat.reduceMul, Nat.reduceLT, reduceIte, Int.reduceToNat, w64_id, cast_succ])
      refine SW.ret ?_; (try simp only [go_sem]); (first | refine FunPost.one ?_ | refine FunPost.two ?_ | refine FunPost.three ?_); (try simp (config := { maxSteps := 1000000 }) (disch := (first | omega | (simp only [go_sem]; try omega))) only [go_sem, Nat.reduceAdd, Nat.reduceEqDiff, Nat.reduceLeDiff, Nat.reduceMul, Nat.reduceLT, reduceIte, Int.reduceToNat, w64_id, cast_succ])
      have hf : Froz (H ++ [(⟨i, 2, 1, p.map I⟩ : Blk)]) H.length (.nm H.length i 0 p.length) (ilS p) := froz_rowI (ver := i) (ty := 2) (Nat.le_refl _) (by simp)
      rw [hpl] at hf
      exact GR.froz hf ⟨rfl, p, rfl, permOk_ord hp⟩
def invL (p : List Int) (n i : Nat) : List Int := (List.range i).foldl (fun o (v : Nat) => o.set (p.getD v 0).toNat (v : Int)) (List.replicate n 0)
theorem invL_succ (p : List Int) (n i : Nat) : invL p n (i + 1) = (invL p n i).set (p.getD i 0).toNat (i : Int) := by unfold invL; rw [List.range_succ, List.foldl_append]; rfl
theorem invL_len (p : List Int) (n : Nat) : ∀ i, (invL p n i).length = n
  | 0 => by simp [invL]
  | i + 1 => by rw [invL_succ, List.length_set, invL_len p n i]
theorem invL_at {n : Nat} {p : List Int} (h : ordB n p = true) : ∀ i, i ≤ n → ∀ v, v < i → (invL p n i).getD (p.getD v 0).toNat 0 = (v : Int)
  | 0, _, v, hv => by omega
  | i + 1, hi, v, hv => by
    obtain ⟨w, hw, e⟩ := ord_at h (show i < n by omega)
    rw [invL_succ, e, Int.toNat_natCast]
    have hl := invL_len p n i
    by_cases hvi : v = i
    · subst hvi
      rw [e, Int.toNat_natCast, List.getD_eq_getElem?_getD, List.getElem?_set_self (by omega)]; rfl
    · obtain ⟨u, hu, eu⟩ := ord_at h (show v < n by omega)
      have hne : w ≠ u := fun hwu => hvi (ord_inj h (show v < n by omega) (show i < n by omega) (by rw [e, eu, hwu]))
      have ih := invL_at h i (by omega) v (by omega)
      rw [eu, Int.toNat_natCast] at ih ⊢
      rw [List.getD_eq_getElem?_getD, List.getElem?_set_ne hne, ← List.getD_eq_getElem?_getD]
      exact ih
theorem invL_inv {n : Nat} {p : List Int} (h : ordB n p = true) : InvP n p (invL p n n) := ⟨invL_len p n n, fun v hv => invL_at h n (Nat.le_refl _) v hv⟩
end Go.Proofs.YtdgcgckehihboaaGreatDoor
