/- Sets of a size, by rank: the reference. -/
import Derived.Test.YtmdeibdplpodpaaGreatProg
import Derived.KernelRfl
import Derived.Test.YtmdeibdplpodpaaGreatzK23
import Derived.Test.YtmdeibdplpodpaaGreatzK18
set_option linter.unusedSimpArgs false
set_option linter.unusedVariables false
set_option maxHeartbeats 4000000
set_option maxRecDepth 100000
namespace Go.Proofs.YtmdeibdplpodpaaGreat
open Go.Av
abbrev f_spec_Choose : Nat := 68
def c_spec_Choose : SC :=
 .seq (.reg [
     ⟨(some 4), .mv (.const (.int .i64 0)), none⟩] [0, 1])
 (.seq (.seq (.reg [
     ⟨(some 7), .mv (.tmp 0), none⟩,
     ⟨(some 8), .call 41 [(.tmp 7), (.const (.int .i64 0)), (.const (.int .i64 32))], none⟩,
     ⟨(some 9), .un .not (.tmp 8), none⟩,
     ⟨(some 10), .mv (.tmp 9), none⟩,
     ⟨(some 11), .mv (.tmp 1), (some (10, false))⟩,
     ⟨(some 12), .mv (.tmp 0), (some (10, false))⟩,
     ⟨(some 13), .call 41 [(.tmp 11), (.const (.int .i64 0)), (.tmp 12)], (some (10, false))⟩,
     ⟨(some 14), .un .not (.tmp 13), (some (10, false))⟩,
     ⟨(some 15), .pick (.tmp 10) (.const (.bool true)) (.tmp 14), none⟩] [0, 1, 15])
 (.cond (.tmp 15)
  (.seq (.reg [
      ⟨(some 4), .mv (.const (.int .i64 0)), none⟩] [4])
  (.ret))
  (.skip)))
 (.seq (.reg [
     ⟨(some 5), .mv (.const (.int .i64 1)), none⟩] [0, 1, 5])
 (.seq (.seq (.reg [
     ⟨(some 6), .mv (.const (.int .i64 1)), none⟩] [0, 1, 5, 6])
 (.block 0 (.loop [0, 1, 5, 6]
   (.seq (.seq (.reg [
       ⟨(some 16), .mv (.tmp 6), none⟩,
       ⟨(some 17), .mv (.tmp 1), none⟩,
       ⟨(some 18), .bin .leq (.tmp 16) (.tmp 17), none⟩] [0, 1, 5, 6, 18])
   (.cond (.tmp 18)
    (.skip)
    (.exit 0)))
   (.seq (.block 1 (.reg [
        ⟨(some 21), .mv (.tmp 5), none⟩,
        ⟨(some 22), .mv (.tmp 0), none⟩,
        ⟨(some 23), .mv (.tmp 1), none⟩,
        ⟨(some 24), .bin .sub (.tmp 22) (.tmp 23), none⟩,
        ⟨(some 25), .mv (.tmp 6), none⟩,
        ⟨(some 26), .bin .add (.tmp 24) (.tmp 25), none⟩,
        ⟨(some 27), .bin .mul (.tmp 21) (.tmp 26), none⟩,
        ⟨(some 28), .mv (.tmp 6), none⟩,
        ⟨(some 29), .bin .quo (.tmp 27) (.tmp 28), none⟩,
        ⟨(some 5), .mv (.tmp 29), none⟩] [0, 1, 5, 6]))
   (.reg [
       ⟨(some 19), .mv (.tmp 6), none⟩,
       ⟨(some 20), .bin .add (.tmp 19) (.const (.int .i64 1)), none⟩,
       ⟨(some 6), .mv (.tmp 20), none⟩] [0, 1, 5, 6]))))))
 (.seq (.reg [
     ⟨(some 30), .mv (.tmp 5), none⟩,
     ⟨(some 4), .mv (.tmp 30), none⟩] [4])
 (.ret)))))
theorem s_spec_Choose : stripF Tryz.prog 68 [[0, 1], [0, 1, 15], [4], [0, 1, 5], [0, 1, 5, 6], [0, 1, 5, 6], [0, 1, 5, 6, 18], [0, 1, 5, 6], [0, 1, 5, 6], [4]] = some (c_spec_Choose, [.tmp 4], 31) := by kernel_rfl
abbrev f_spec_l01Subset : Nat := 69
def c_spec_l01Subset : SC :=
 .seq (.reg [
     ⟨(some 6), .mv (.const (.slice none 0 0)), none⟩] [0, 1, 2])
 (.seq (.reg [
     ⟨(some 10), .bslice 2 1 0 [] [], none⟩,
     ⟨(some 7), .mv (.tmp 10), none⟩] [0, 1, 2, 7])
 (.seq (.reg [
     ⟨(some 8), .mv (.const (.int .i64 0)), none⟩] [0, 1, 2, 7, 8])
 (.seq (.block 0 (.loop [0, 1, 2, 7, 8]
   (.seq (.seq (.reg [
       ⟨(some 11), .mv (.tmp 7), none⟩,
       ⟨(some 12), .len (.tmp 11), none⟩,
       ⟨(some 13), .mv (.tmp 1), none⟩,
       ⟨(some 14), .bin .lss (.tmp 12) (.tmp 13), none⟩,
       ⟨(some 15), .mv (.tmp 14), none⟩,
       ⟨(some 16), .mv (.tmp 8), (some (15, true))⟩,
       ⟨(some 17), .mv (.tmp 0), (some (15, true))⟩,
       ⟨(some 18), .bin .lss (.tmp 16) (.tmp 17), (some (15, true))⟩,
       ⟨(some 19), .pick (.tmp 15) (.tmp 18) (.const (.bool false)), none⟩] [0, 1, 2, 7, 8, 19])
   (.cond (.tmp 19)
    (.skip)
    (.exit 0)))
   (.block 1 (.seq (.reg [
        ⟨(some 20), .mv (.tmp 0), none⟩,
        ⟨(some 21), .bin .sub (.tmp 20) (.const (.int .i64 1)), none⟩,
        ⟨(some 22), .mv (.tmp 8), none⟩,
        ⟨(some 23), .bin .sub (.tmp 21) (.tmp 22), none⟩,
        ⟨(some 24), .mv (.tmp 1), none⟩,
        ⟨(some 25), .bin .sub (.tmp 24) (.const (.int .i64 1)), none⟩,
        ⟨(some 26), .mv (.tmp 7), none⟩,
        ⟨(some 27), .len (.tmp 26), none⟩,
        ⟨(some 28), .bin .sub (.tmp 25) (.tmp 27), none⟩,
        ⟨(some 29), .call 68 [(.tmp 23), (.tmp 28)], none⟩,
        ⟨(some 9), .mv (.tmp 29), none⟩] [0, 1, 2, 7, 8, 9])
    (.seq (.seq (.reg [
        ⟨(some 30), .mv (.tmp 2), none⟩,
        ⟨(some 31), .mv (.tmp 9), none⟩,
        ⟨(some 32), .bin .lss (.tmp 30) (.tmp 31), none⟩] [0, 1, 2, 7, 8, 9, 32])
    (.cond (.tmp 32)
     (.reg [
         ⟨(some 33), .mv (.tmp 7), none⟩,
         ⟨(some 34), .mv (.tmp 8), none⟩,
         ⟨(some 35), .bslice 2 1 1 [(.int .i64 0)] [(0, (.tmp 34))], none⟩,
         ⟨(some 36), .app 2 1 8 (.tmp 33) (.tmp 35), none⟩,
         ⟨(some 7), .mv (.tmp 36), none⟩] [0, 1, 2, 7, 8])
     (.reg [
         ⟨(some 37), .mv (.tmp 2), none⟩,
         ⟨(some 38), .mv (.tmp 9), none⟩,
         ⟨(some 39), .bin .sub (.tmp 37) (.tmp 38), none⟩,
         ⟨(some 2), .mv (.tmp 39), none⟩] [0, 1, 2, 7, 8])))
    (.reg [
        ⟨(some 40), .mv (.tmp 8), none⟩,
        ⟨(some 41), .bin .add (.tmp 40) (.const (.int .i64 1)), none⟩,
        ⟨(some 8), .mv (.tmp 41), none⟩] [0, 1, 2, 7, 8])))))))
 (.seq (.reg [
     ⟨(some 42), .mv (.tmp 7), none⟩,
     ⟨(some 6), .mv (.tmp 42), none⟩] [6])
 (.ret)))))
theorem s_spec_l01Subset : stripF Tryz.prog 69 [[0, 1, 2], [0, 1, 2, 7], [0, 1, 2, 7, 8], [0, 1, 2, 7, 8], [0, 1, 2, 7, 8, 19], [0, 1, 2, 7, 8, 9], [0, 1, 2, 7, 8, 9, 32], [0, 1, 2, 7, 8], [0, 1, 2, 7, 8], [0, 1, 2, 7, 8], [6]] = some (c_spec_l01Subset, [.tmp 6], 43) := by kernel_rfl
theorem specChoose_fn (n k : Int) : PFn Tryz.prog f_spec_Choose [I n, I k] (I (chooseI n k)) := by
  intro H; refine ACalls.introB s_spec_Choose (by simp) ?_; intro hB hA; unfold c_spec_Choose; simp (config := { maxSteps := 1000000 }) (disch := (first | omega | (simp only [go_sem]; try omega))) only [go_sem, Nat.reduceAdd, Nat.reduceEqDiff, Nat.reduceLeDiff, Nat.reduceMul, Nat.reduceLT, reduceIte, Int.reduceToNat, w64_id, cast_succ]
  repeat (first | (with_reducible first | refine SW.seq ?_ | refine SW.block ?_ | refine SW.rowC ?_ | refine SW.skip ?_ | refine SW.exit ?_ | refine PFn.use (l00In_fn _ _ _) ?_ | refine PFn.useq (l00In_fn _ _ _) ?_ | intro _ | refine And.intro (by omega) ?_) | simp (config := { maxSteps := 1000000 }) (disch := (first | omega | (simp only [go_sem]; try omega))) only [go_sem, Nat.reduceAdd, Nat.reduceEqDiff, Nat.reduceLeDiff, Nat.reduceMul, Nat.reduceLT, reduceIte, Int.reduceToNat, w64_id, cast_succ])
  (first | refine GSplit.df (fun h => ?_) (fun h => ?_) | refine GSplit.dt (fun h => ?_) (fun h => ?_) | refine GSplit.ndf (fun h => ?_) (fun h => ?_) | refine GSplit.ndt (fun h => ?_) (fun h => ?_) | refine GSplit.nbf (fun h => ?_) (fun h => ?_) | refine GSplit.nbt (fun h => ?_) (fun h => ?_) | refine GSplit.bf (fun h => ?_) (fun h => ?_) | refine GSplit.bt (fun h => ?_) (fun h => ?_))
  rotate_left
  · repeat (first | (with_reducible first | refine SW.seq ?_ | refine SW.block ?_ | refine SW.rowC ?_ | refine SW.skip ?_ | refine SW.exit ?_ | intro _ | refine And.intro (by omega) ?_) | simp (config := { maxSteps := 1000000 }) (disch := (first | omega | (simp only [go_sem]; try omega))) only [go_sem, Nat.reduceAdd, Nat.reduceEqDiff, Nat.reduceLeDiff, Nat.reduceMul, Nat.reduceLT, reduceIte, Int.reduceToNat, w64_id, cast_succ])
    (first | refine SW.condD rfl (fun h2 => ?_) (fun h2 => ?_) | refine SW.condN rfl (fun h2 => ?_) (fun h2 => ?_) | refine SW.condNB rfl (fun h2 => ?_) (fun h2 => ?_) | refine SW.condB rfl (fun h2 => ?_) (fun h2 => ?_))
    · repeat (first | (with_reducible first | refine SW.seq ?_ | refine SW.block ?_ | refine SW.rowC ?_ | refine SW.skip ?_ | refine SW.exit ?_ | intro _ | refine And.intro (by omega) ?_) | simp (config := { maxSteps := 1000000 }) (disch := (first | omega | (simp only [go_sem]; try omega))) only [go_sem, Nat.reduceAdd, Nat.reduceEqDiff, Nat.reduceLeDiff, Nat.reduceMul, Nat.reduceLT, reduceIte, Int.reduceToNat, w64_id, cast_succ])
      refine SW.ret ?_; (try simp only [go_sem]); (first | refine FunPost.one ?_ | refine FunPost.two ?_ | refine FunPost.three ?_); (try simp (config := { maxSteps := 1000000 }) (disch := (first | omega | (simp only [go_sem]; try omega))) only [go_sem, Nat.reduceAdd, Nat.reduceEqDiff, Nat.reduceLeDiff, Nat.reduceMul, Nat.reduceLT, reduceIte, Int.reduceToNat, w64_id, cast_succ]); (first | (with_reducible refine GR.drop ?_ ?_; (simp only [go_sem, and_self, and_true, true_and, implies_true, List.take_succ_cons, List.take_zero])) | refine GR.of ?_); refine ⟨?_, rfl⟩; (try with_reducible rfl)
      rw [chooseI, h]; rfl
    · cases h2
  repeat (first | (with_reducible first | refine SW.seq ?_ | refine SW.block ?_ | refine SW.rowC ?_ | refine SW.skip ?_ | refine SW.exit ?_ | refine PFn.use (l00In_fn _ _ _) ?_ | refine PFn.useq (l00In_fn _ _ _) ?_ | intro _ | refine And.intro (by omega) ?_) | simp (config := { maxSteps := 1000000 }) (disch := (first | omega | (simp only [go_sem]; try omega))) only [go_sem, Nat.reduceAdd, Nat.reduceEqDiff, Nat.reduceLeDiff, Nat.reduceMul, Nat.reduceLT, reduceIte, Int.reduceToNat, w64_id, cast_succ])
  (first | refine SW.condD rfl (fun h2 => ?_) (fun h2 => ?_) | refine SW.condN rfl (fun h2 => ?_) (fun h2 => ?_) | refine SW.condNB rfl (fun h2 => ?_) (fun h2 => ?_) | refine SW.condB rfl (fun h2 => ?_) (fun h2 => ?_))
  · repeat (first | (with_reducible first | refine SW.seq ?_ | refine SW.block ?_ | refine SW.rowC ?_ | refine SW.skip ?_ | refine SW.exit ?_ | intro _ | refine And.intro (by omega) ?_) | simp (config := { maxSteps := 1000000 }) (disch := (first | omega | (simp only [go_sem]; try omega))) only [go_sem, Nat.reduceAdd, Nat.reduceEqDiff, Nat.reduceLeDiff, Nat.reduceMul, Nat.reduceLT, reduceIte, Int.reduceToNat, w64_id, cast_succ])
    refine SW.ret ?_; (try simp only [go_sem]); (first | refine FunPost.one ?_ | refine FunPost.two ?_ | refine FunPost.three ?_); (try simp (config := { maxSteps := 1000000 }) (disch := (first | omega | (simp only [go_sem]; try omega))) only [go_sem, Nat.reduceAdd, Nat.reduceEqDiff, Nat.reduceLeDiff, Nat.reduceMul, Nat.reduceLT, reduceIte, Int.reduceToNat, w64_id, cast_succ]); (first | (with_reducible refine GR.drop ?_ ?_; (simp only [go_sem, and_self, and_true, true_and, implies_true, List.take_succ_cons, List.take_zero])) | refine GR.of ?_); refine ⟨?_, rfl⟩; (try with_reducible rfl)
    rw [chooseI, h, h2]; rfl
  have hn := h
  have hk := h2
  simp only [Bool.and_eq_true, decide_eq_true_eq] at hn hk
  obtain ⟨m, rfl⟩ := Int.eq_ofNat_of_zero_le hk.1
  have e0 : chooseI n m = (List.range m).foldl (fun c (i : Nat) => w64 ((w64 (c * (n - m + (i + 1 : Nat)))).tdiv (i + 1 : Nat))) 1 := by
    rw [chooseI, h, h2]; simp
  rw [e0]
  clear e0
  repeat (first | (with_reducible first | refine SW.seq ?_ | refine SW.block ?_ | refine SW.rowC ?_ | refine SW.skip ?_ | refine SW.exit ?_ | intro _ | refine And.intro (by omega) ?_) | simp (config := { maxSteps := 1000000 }) (disch := (first | omega | (simp only [go_sem]; try omega))) only [go_sem, Nat.reduceAdd, Nat.reduceEqDiff, Nat.reduceLeDiff, Nat.reduceMul, Nat.reduceLT, reduceIte, Int.reduceToNat, w64_id, cast_succ])
  refine SW.loopE (fun E0 H0 q E' H' => ∃ i : Nat, i ≤ m ∧ q = m - i ∧ E' = aput (aput E0 6 (I ((i + 1 : Nat) : Int))) 5 (I ((List.range i).foldl (fun c (i : Nat) => w64 ((w64 (c * (n - m + (i + 1 : Nat)))).tdiv (i + 1 : Nat))) 1)) ∧ H' = H0) m ⟨0, by omega, by omega, rfl, rfl⟩ ?_
  rintro q E' H' ⟨i, hi, rfl, rfl, rfl⟩
  simp (config := { maxSteps := 1000000 }) (disch := (first | omega | (simp only [go_sem]; try omega))) only [go_sem, Nat.reduceAdd, Nat.reduceEqDiff, Nat.reduceLeDiff, Nat.reduceMul, Nat.reduceLT, reduceIte, Int.reduceToNat, w64_id, cast_succ]
  repeat (first | (with_reducible first | refine SW.seq ?_ | refine SW.block ?_ | refine SW.rowC ?_ | refine SW.skip ?_ | refine SW.exit ?_ | intro _ | refine And.intro (by omega) ?_) | simp (config := { maxSteps := 1000000 }) (disch := (first | omega | (simp only [go_sem]; try omega))) only [go_sem, Nat.reduceAdd, Nat.reduceEqDiff, Nat.reduceLeDiff, Nat.reduceMul, Nat.reduceLT, reduceIte, Int.reduceToNat, w64_id, cast_succ])
  (first | refine SW.condD rfl (fun h3 => ?_) (fun h3 => ?_) | refine SW.condN rfl (fun h3 => ?_) (fun h3 => ?_) | refine SW.condNB rfl (fun h3 => ?_) (fun h3 => ?_) | refine SW.condB rfl (fun h3 => ?_) (fun h3 => ?_))
  · have hne : ((i + 1 : Nat) : Int) ≠ 0 := by omega
    repeat (first | (with_reducible first | refine SW.seq ?_ | refine SW.block ?_ | refine SW.rowC ?_ | refine SW.skip ?_ | refine SW.exit ?_ | intro _ | refine And.intro (by omega) ?_) | simp (config := { maxSteps := 1000000 }) (disch := (first | omega | (simp only [go_sem]; try omega))) only [go_sem, Nat.reduceAdd, Nat.reduceEqDiff, Nat.reduceLeDiff, Nat.reduceMul, Nat.reduceLT, reduceIte, Int.reduceToNat, w64_id, cast_succ, hne])
    refine SLoop.next (m - (i + 1)) (by omega) ⟨i + 1, by omega, rfl, ?_, rfl⟩
    simp [go_sem, List.range_succ, List.foldl_append]
  · repeat (first | (with_reducible first | refine SW.seq ?_ | refine SW.block ?_ | refine SW.rowC ?_ | refine SW.skip ?_ | refine SW.exit ?_ | intro _ | refine And.intro (by omega) ?_) | simp (config := { maxSteps := 1000000 }) (disch := (first | omega | (simp only [go_sem]; try omega))) only [go_sem, Nat.reduceAdd, Nat.reduceEqDiff, Nat.reduceLeDiff, Nat.reduceMul, Nat.reduceLT, reduceIte, Int.reduceToNat, w64_id, cast_succ])
    refine SW.ret ?_; (try simp only [go_sem]); (first | refine FunPost.one ?_ | refine FunPost.two ?_ | refine FunPost.three ?_); (try simp (config := { maxSteps := 1000000 }) (disch := (first | omega | (simp only [go_sem]; try omega))) only [go_sem, Nat.reduceAdd, Nat.reduceEqDiff, Nat.reduceLeDiff, Nat.reduceMul, Nat.reduceLT, reduceIte, Int.reduceToNat, w64_id, cast_succ]); (first | (with_reducible refine GR.drop ?_ ?_; (simp only [go_sem, and_self, and_true, true_and, implies_true, List.take_succ_cons, List.take_zero])) | refine GR.of ?_); refine ⟨?_, rfl⟩; (try with_reducible rfl)
    have : i = m := by omega
    subst this
    rfl
theorem subset_fn (n k R : Nat) (hn : n ≤ 32) (hk : k ≤ 1000000) (hR : R < ch n k) : PFn Tryz.prog f_spec_l01Subset [I n, I k, I R] (ilS ((subsN n k).getD R [])) := by
  intro H; refine ACalls.introB s_spec_l01Subset (by simp) ?_; intro hB hA; unfold c_spec_l01Subset; simp (config := { maxSteps := 1000000 }) (disch := (first | omega | (simp only [go_sem]; try omega))) only [go_sem, Nat.reduceAdd, Nat.reduceEqDiff, Nat.reduceLeDiff, Nat.reduceMul, Nat.reduceLT, reduceIte, Int.reduceToNat, w64_id, cast_succ]
  repeat (first | (with_reducible first | refine SW.seq ?_ | refine SW.block ?_ | refine SW.rowC ?_ | refine SW.skip ?_ | refine SW.exit ?_ | intro _ | refine And.intro (by omega) ?_) | simp (config := { maxSteps := 1000000 }) (disch := (first | omega | (simp only [go_sem]; try omega))) only [go_sem, Nat.reduceAdd, Nat.reduceEqDiff, Nat.reduceLeDiff, Nat.reduceMul, Nat.reduceLT, reduceIte, Int.reduceToNat, w64_id, cast_succ])
  refine SW.loopE (fun E0 H0 q E' H' => ∃ (x ver k' rank : Nat) (out : List Int), x ≤ n ∧ q = n - x ∧ E' = aput (aput (aput E0 8 (I x)) 7 (.nm H.length ver 0 out.length)) 2 (I rank) ∧ H' = H ++ [⟨ver, 2, 1, out.map I⟩] ∧ out.length + k' = k ∧ rank < ch (n - x) k' ∧ (subsN n k)[R]? = (subsL (n - x) x k')[rank]?.map (out ++ ·)) n ⟨0, 0, k, R, [], by omega, by omega, rfl, rfl, by simp, hR, by simp [subsN]⟩ ?_
  rintro q E' H' ⟨x, ver, k', rank, out, hx, rfl, rfl, rfl, hok, hrk, hget⟩
  have hch := ch_le (n - x) k'
  have h2p : 2 ^ (n - x) ≤ 2 ^ 32 := Nat.pow_le_pow_right (by omega) (by omega)
  have fin : k' = 0 → (subsN n k).getD R [] = out := by
    intro h0
    subst h0
    rw [ch_zero] at hrk
    have : rank = 0 := by omega
    subst this
    rw [List.getD_eq_getElem?_getD, hget, subsL_zero]; simp
  simp (config := { maxSteps := 1000000 }) (disch := (first | omega | (simp only [go_sem]; try omega))) only [go_sem, Nat.reduceAdd, Nat.reduceEqDiff, Nat.reduceLeDiff, Nat.reduceMul, Nat.reduceLT, reduceIte, Int.reduceToNat, w64_id, cast_succ]
  repeat (first | (with_reducible first | refine SW.seq ?_ | refine SW.block ?_ | refine SW.rowC ?_ | refine SW.skip ?_ | refine SW.exit ?_ | intro _ | refine And.intro (by omega) ?_) | simp (config := { maxSteps := 1000000 }) (disch := (first | omega | (simp only [go_sem]; try omega))) only [go_sem, Nat.reduceAdd, Nat.reduceEqDiff, Nat.reduceLeDiff, Nat.reduceMul, Nat.reduceLT, reduceIte, Int.reduceToNat, w64_id, cast_succ])
  (first | refine GSplit.df (fun h => ?_) (fun h => ?_) | refine GSplit.dt (fun h => ?_) (fun h => ?_) | refine GSplit.ndf (fun h => ?_) (fun h => ?_) | refine GSplit.ndt (fun h => ?_) (fun h => ?_) | refine GSplit.nbf (fun h => ?_) (fun h => ?_) | refine GSplit.nbt (fun h => ?_) (fun h => ?_) | refine GSplit.bf (fun h => ?_) (fun h => ?_) | refine GSplit.bt (fun h => ?_) (fun h => ?_))
  · repeat (first | (with_reducible first | refine SW.seq ?_ | refine SW.block ?_ | refine SW.rowC ?_ | refine SW.skip ?_ | refine SW.exit ?_ | intro _ | refine And.intro (by omega) ?_) | simp (config := { maxSteps := 1000000 }) (disch := (first | omega | (simp only [go_sem]; try omega))) only [go_sem, Nat.reduceAdd, Nat.reduceEqDiff, Nat.reduceLeDiff, Nat.reduceMul, Nat.reduceLT, reduceIte, Int.reduceToNat, w64_id, cast_succ])
    (first | refine SW.condD rfl (fun h2 => ?_) (fun h2 => ?_) | refine SW.condN rfl (fun h2 => ?_) (fun h2 => ?_) | refine SW.condNB rfl (fun h2 => ?_) (fun h2 => ?_) | refine SW.condB rfl (fun h2 => ?_) (fun h2 => ?_))
    · obtain ⟨m, hm⟩ : ∃ m, n - x = m + 1 := ⟨n - x - 1, by omega⟩
      obtain ⟨k2, rfl⟩ : ∃ k2, k' = k2 + 1 := ⟨k' - 1, by omega⟩
      have hcs : PFn Tryz.prog f_spec_Choose [I ((n : Int) - 1 - x), I ((k : Int) - 1 - out.length)] (I (ch m k2)) := by
        have := specChoose_fn ((n : Int) - 1 - x) ((k : Int) - 1 - out.length)
        rw [show (n : Int) - 1 - x = (m : Int) by omega, show (k : Int) - 1 - out.length = (k2 : Int) by omega] at this ⊢
        rwa [chooseI_any m k2 (by omega), if_pos (by omega)] at this
      have hnm : n - (x + 1) = m := by omega
      rw [hm] at hget hrk hch h2p
      rw [subsL] at hget
      have hl1 := subsL_len m ((x : Int) + 1) k2
      have hc2 : ch (m + 1) (k2 + 1) = ch m k2 + ch m (k2 + 1) := rfl
      repeat (first | (with_reducible first | refine SW.seq ?_ | refine SW.block ?_ | refine SW.rowC ?_ | refine SW.skip ?_ | refine SW.exit ?_ | refine PFn.use (hcs) ?_ | refine PFn.useq (hcs) ?_ | intro _ | refine And.intro (by omega) ?_) | simp (config := { maxSteps := 1000000 }) (disch := (first | omega | (simp only [go_sem]; try omega))) only [go_sem, Nat.reduceAdd, Nat.reduceEqDiff, Nat.reduceLeDiff, Nat.reduceMul, Nat.reduceLT, reduceIte, Int.reduceToNat, w64_id, cast_succ])
      (first | refine SW.condD rfl (fun h3 => ?_) (fun h3 => ?_) | refine SW.condN rfl (fun h3 => ?_) (fun h3 => ?_) | refine SW.condNB rfl (fun h3 => ?_) (fun h3 => ?_) | refine SW.condB rfl (fun h3 => ?_) (fun h3 => ?_))
      · have h3' : rank < ch m k2 := by omega
        repeat (first | (with_reducible first | refine SW.seq ?_ | refine SW.block ?_ | refine SW.rowC ?_ | refine SW.skip ?_ | refine SW.exit ?_ | intro _ | refine And.intro (by omega) ?_) | simp (config := { maxSteps := 1000000 }) (disch := (first | omega | (simp only [go_sem]; try omega))) only [go_sem, Nat.reduceAdd, Nat.reduceEqDiff, Nat.reduceLeDiff, Nat.reduceMul, Nat.reduceLT, reduceIte, Int.reduceToNat, w64_id, cast_succ])
        refine SLoop.nextT 1 (n - (x + 1)) hB (by omega) (by omega) (by simp) ?_ ?_ ⟨x + 1, ver + 1, k2, rank, out ++ [(x : Int)], by omega, rfl, ?_, by simp, by simp; omega, by rw [hnm]; exact h3', ?_⟩
        · (simp only [go_sem, Nat.reduceAdd, Nat.reduceEqDiff, reduceIte, go_sem, and_self, and_true, true_and, implies_true, List.take_succ_cons, List.take_zero, and_true, true_and]; try omega)
        · (simp only [go_sem, Nat.reduceAdd, Nat.reduceEqDiff, reduceIte, go_sem, and_self, and_true, true_and, implies_true, List.take_succ_cons, List.take_zero, and_true, true_and]; try omega)
        · simp [go_sem]
        · rw [hget, hnm, List.getElem?_append_left (by rw [List.length_map, hl1]; exact h3'), List.getElem?_map, Option.map_map]
          simp [Function.comp_def]
      · have h3' : ch m k2 ≤ rank := by omega
        have e2 : (rank : Int) - (ch m k2 : Int) = ((rank - ch m k2 : Nat) : Int) := by omega
        have hrk2 : rank - ch m k2 ≤ 4294967296 := by omega
        generalize hrr : rank - ch m k2 = rk at *
        repeat (first | (with_reducible first | refine SW.seq ?_ | refine SW.block ?_ | refine SW.rowC ?_ | refine SW.skip ?_ | refine SW.exit ?_ | intro _ | refine And.intro (by omega) ?_) | simp (config := { maxSteps := 1000000 }) (disch := (first | omega | (simp only [go_sem]; try omega))) only [go_sem, Nat.reduceAdd, Nat.reduceEqDiff, Nat.reduceLeDiff, Nat.reduceMul, Nat.reduceLT, reduceIte, Int.reduceToNat, w64_id, cast_succ, e2])
        refine SLoop.next (n - (x + 1)) (by omega) ⟨x + 1, ver, k2 + 1, rk, out, by omega, rfl, ?_, rfl, hok, by rw [hnm]; omega, ?_⟩
        · simp [go_sem]
        · rw [hget, hnm, List.getElem?_append_right (by rw [List.length_map, hl1]; exact h3'), List.length_map, hl1, hrr]
          rfl
    · have hk0 : k' = 0 := by
        cases k' with
        | zero => rfl
        | succ k2 => rw [show n - x = 0 by omega] at hrk; simp [ch] at hrk
      repeat (first | (with_reducible first | refine SW.seq ?_ | refine SW.block ?_ | refine SW.rowC ?_ | refine SW.skip ?_ | refine SW.exit ?_ | intro _ | refine And.intro (by omega) ?_) | simp (config := { maxSteps := 1000000 }) (disch := (first | omega | (simp only [go_sem]; try omega))) only [go_sem, Nat.reduceAdd, Nat.reduceEqDiff, Nat.reduceLeDiff, Nat.reduceMul, Nat.reduceLT, reduceIte, Int.reduceToNat, w64_id, cast_succ])
      refine SW.ret ?_; (try simp only [go_sem]); (first | refine FunPost.one ?_ | refine FunPost.two ?_ | refine FunPost.three ?_); (try simp (config := { maxSteps := 1000000 }) (disch := (first | omega | (simp only [go_sem]; try omega))) only [go_sem, Nat.reduceAdd, Nat.reduceEqDiff, Nat.reduceLeDiff, Nat.reduceMul, Nat.reduceLT, reduceIte, Int.reduceToNat, w64_id, cast_succ])
      rw [fin hk0]
      exact GR.froz (froz_rowI (ver := ver) (ty := 2) (Nat.le_refl _) (by simp)) ⟨rfl, rfl⟩
  · repeat (first | (with_reducible first | refine SW.seq ?_ | refine SW.block ?_ | refine SW.rowC ?_ | refine SW.skip ?_ | refine SW.exit ?_ | intro _ | refine And.intro (by omega) ?_) | simp (config := { maxSteps := 1000000 }) (disch := (first | omega | (simp only [go_sem]; try omega))) only [go_sem, Nat.reduceAdd, Nat.reduceEqDiff, Nat.reduceLeDiff, Nat.reduceMul, Nat.reduceLT, reduceIte, Int.reduceToNat, w64_id, cast_succ])
    (first | refine SW.condD rfl (fun h2 => ?_) (fun h2 => ?_) | refine SW.condN rfl (fun h2 => ?_) (fun h2 => ?_) | refine SW.condNB rfl (fun h2 => ?_) (fun h2 => ?_) | refine SW.condB rfl (fun h2 => ?_) (fun h2 => ?_))
    · cases h2
    repeat (first | (with_reducible first | refine SW.seq ?_ | refine SW.block ?_ | refine SW.rowC ?_ | refine SW.skip ?_ | refine SW.exit ?_ | intro _ | refine And.intro (by omega) ?_) | simp (config := { maxSteps := 1000000 }) (disch := (first | omega | (simp only [go_sem]; try omega))) only [go_sem, Nat.reduceAdd, Nat.reduceEqDiff, Nat.reduceLeDiff, Nat.reduceMul, Nat.reduceLT, reduceIte, Int.reduceToNat, w64_id, cast_succ])
    refine SW.ret ?_; (try simp only [go_sem]); (first | refine FunPost.one ?_ | refine FunPost.two ?_ | refine FunPost.three ?_); (try simp (config := { maxSteps := 1000000 }) (disch := (first | omega | (simp only [go_sem]; try omega))) only [go_sem, Nat.reduceAdd, Nat.reduceEqDiff, Nat.reduceLeDiff, Nat.reduceMul, Nat.reduceLT, reduceIte, Int.reduceToNat, w64_id, cast_succ])
    rw [fin (by omega)]
    exact GR.froz (froz_rowI (ver := ver) (ty := 2) (Nat.le_refl _) (by simp)) ⟨rfl, rfl⟩
end Go.Proofs.YtmdeibdplpodpaaGreat
