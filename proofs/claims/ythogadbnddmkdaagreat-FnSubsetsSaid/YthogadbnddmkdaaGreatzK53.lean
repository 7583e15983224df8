/- Frobenius groups. -/
import Derived.Test.YthogadbnddmkdaaGreatProg
import Derived.KernelRfl
import Derived.Test.YthogadbnddmkdaaGreatzK50
import Derived.Test.YthogadbnddmkdaaGreatzT0
set_option linter.unusedSimpArgs false
set_option linter.unusedVariables false
set_option maxHeartbeats 4000000
set_option maxRecDepth 100000
namespace Go.Proofs.YthogadbnddmkdaaGreat
open Go.Av
abbrev f_spec_FrobeniusGroup : Nat := 106
def c_spec_FrobeniusGroup : SC :=
 .seq (.reg [
     ⟨(some 4), .alloc 44 [(.int .i64 0), (.slice none 0 0)], none⟩,
     ⟨(some 5), .mv (.const (.int .i64 0)), none⟩] [0, 1, 4])
 (.seq (.seq (.reg [
     ⟨(some 8), .mv (.tmp 0), none⟩,
     ⟨(some 9), .call 137 [(.tmp 8)], none⟩,
     ⟨(some 10), .un .not (.tmp 9), none⟩,
     ⟨(some 11), .mv (.tmp 10), none⟩,
     ⟨(some 12), .mv (.tmp 0), (some (11, false))⟩,
     ⟨(some 13), .bin .gtr (.tmp 12) (.const (.int .i64 32)), (some (11, false))⟩,
     ⟨(some 14), .pick (.tmp 11) (.const (.bool true)) (.tmp 13), none⟩,
     ⟨(some 15), .mv (.tmp 14), none⟩,
     ⟨(some 16), .mv (.tmp 1), (some (15, false))⟩,
     ⟨(some 17), .mv (.tmp 0), (some (15, false))⟩,
     ⟨(some 18), .bin .sub (.tmp 17) (.const (.int .i64 1)), (some (15, false))⟩,
     ⟨(some 19), .call 47 [(.tmp 16), (.const (.int .i64 1)), (.tmp 18)], (some (15, false))⟩,
     ⟨(some 20), .un .not (.tmp 19), (some (15, false))⟩,
     ⟨(some 21), .pick (.tmp 15) (.const (.bool true)) (.tmp 20), none⟩,
     ⟨(some 22), .mv (.tmp 21), none⟩,
     ⟨(some 23), .mv (.tmp 0), (some (22, false))⟩,
     ⟨(some 24), .bin .sub (.tmp 23) (.const (.int .i64 1)), (some (22, false))⟩,
     ⟨(some 25), .mv (.tmp 1), (some (22, false))⟩,
     ⟨(some 26), .bin .rem (.tmp 24) (.tmp 25), (some (22, false))⟩,
     ⟨(some 27), .bin .neq (.tmp 26) (.const (.int .i64 0)), (some (22, false))⟩,
     ⟨(some 28), .pick (.tmp 22) (.const (.bool true)) (.tmp 27), none⟩] [0, 1, 4, 28])
 (.cond (.tmp 28)
  (.seq (.reg [
      ⟨(some 29), .build [(.int .i64 0), (.slice none 0 0)] [], none⟩,
      ⟨none, .store 2 (.tmp 4) (.tmp 29), none⟩,
      ⟨(some 5), .mv (.const (.int .i64 2)), none⟩] [4, 5])
  (.ret))
  (.skip)))
 (.seq (.seq (.reg [
     ⟨(some 30), .mv (.tmp 0), none⟩,
     ⟨(some 31), .mv (.tmp 1), none⟩,
     ⟨(some 32), .bin .mul (.tmp 30) (.tmp 31), none⟩,
     ⟨(some 33), .bin .gtr (.tmp 32) (.const (.int .i64 720)), none⟩] [0, 1, 4, 33])
 (.cond (.tmp 33)
  (.seq (.reg [
      ⟨(some 34), .build [(.int .i64 0), (.slice none 0 0)] [], none⟩,
      ⟨none, .store 2 (.tmp 4) (.tmp 34), none⟩,
      ⟨(some 5), .mv (.const (.int .i64 5)), none⟩] [4, 5])
  (.ret))
  (.skip)))
 (.seq (.reg [
     ⟨(some 35), .bslice 2 1 0 [] [], none⟩,
     ⟨(some 6), .mv (.tmp 35), none⟩] [0, 1, 4, 6])
 (.seq (.seq (.reg [
     ⟨(some 7), .mv (.const (.int .i64 1)), none⟩] [0, 1, 4, 6, 7])
 (.block 0 (.loop [0, 1, 4, 6, 7]
   (.seq (.seq (.reg [
       ⟨(some 36), .mv (.tmp 7), none⟩,
       ⟨(some 37), .mv (.tmp 0), none⟩,
       ⟨(some 38), .bin .lss (.tmp 36) (.tmp 37), none⟩] [0, 1, 4, 6, 7, 38])
   (.cond (.tmp 38)
    (.skip)
    (.exit 0)))
   (.seq (.block 1 (.seq (.reg [
        ⟨(some 41), .mv (.tmp 7), none⟩,
        ⟨(some 42), .mv (.tmp 1), none⟩,
        ⟨(some 43), .mv (.tmp 0), none⟩,
        ⟨(some 44), .call 138 [(.tmp 41), (.tmp 42), (.tmp 43)], none⟩,
        ⟨(some 45), .bin .eql (.tmp 44) (.const (.int .i64 1)), none⟩] [0, 1, 4, 6, 7, 45])
    (.cond (.tmp 45)
     (.reg [
         ⟨(some 46), .mv (.tmp 6), none⟩,
         ⟨(some 47), .mv (.tmp 7), none⟩,
         ⟨(some 48), .bslice 2 1 1 [(.int .i64 0)] [(0, (.tmp 47))], none⟩,
         ⟨(some 49), .app 2 1 8 (.tmp 46) (.tmp 48), none⟩,
         ⟨(some 6), .mv (.tmp 49), none⟩] [0, 1, 4, 6, 7])
     (.skip))))
   (.reg [
       ⟨(some 39), .mv (.tmp 7), none⟩,
       ⟨(some 40), .bin .add (.tmp 39) (.const (.int .i64 1)), none⟩,
       ⟨(some 7), .mv (.tmp 40), none⟩] [0, 1, 4, 6, 7]))))))
 (.seq (.reg [
     ⟨(some 50), .mv (.tmp 0), none⟩,
     ⟨(some 51), .mv (.tmp 6), none⟩,
     ⟨(some 52), .call 105 [(.tmp 50), (.tmp 51)], none⟩,
     ⟨none, .store 2 (.tmp 4) (.tmp 52), none⟩,
     ⟨(some 5), .mv (.const (.int .i64 0)), none⟩] [4, 5])
 (.ret))))))
theorem s_spec_FrobeniusGroup : stripF Tryz.prog 106 [[0, 1, 4], [0, 1, 4, 28], [4, 5], [0, 1, 4, 33], [4, 5], [0, 1, 4, 6], [0, 1, 4, 6, 7], [0, 1, 4, 6, 7], [0, 1, 4, 6, 7, 38], [0, 1, 4, 6, 7, 45], [0, 1, 4, 6, 7], [0, 1, 4, 6, 7], [4, 5]] = some (c_spec_FrobeniusGroup, [.cell 4 2, .tmp 5], 53) := by kernel_rfl
abbrev f_spec_IsPrime : Nat := 137
def c_spec_IsPrime : SC :=
 .seq (.reg [
     ⟨(some 2), .mv (.const (.bool false)), none⟩] [0])
 (.seq (.seq (.reg [
     ⟨(some 4), .mv (.tmp 0), none⟩,
     ⟨(some 5), .call 47 [(.tmp 4), (.const (.int .i64 2)), (.const (.int .i64 1000000))], none⟩,
     ⟨(some 6), .un .not (.tmp 5), none⟩] [0, 6])
 (.cond (.tmp 6)
  (.seq (.reg [
      ⟨(some 2), .mv (.const (.bool false)), none⟩] [2])
  (.ret))
  (.skip)))
 (.seq (.seq (.reg [
     ⟨(some 3), .mv (.const (.int .i64 2)), none⟩] [0, 3])
 (.block 0 (.loop [0, 3]
   (.seq (.seq (.reg [
       ⟨(some 7), .mv (.tmp 3), none⟩,
       ⟨(some 8), .mv (.tmp 3), none⟩,
       ⟨(some 9), .bin .mul (.tmp 7) (.tmp 8), none⟩,
       ⟨(some 10), .mv (.tmp 0), none⟩,
       ⟨(some 11), .bin .leq (.tmp 9) (.tmp 10), none⟩] [0, 3, 11])
   (.cond (.tmp 11)
    (.skip)
    (.exit 0)))
   (.seq (.block 1 (.seq (.reg [
        ⟨(some 14), .mv (.tmp 0), none⟩,
        ⟨(some 15), .mv (.tmp 3), none⟩,
        ⟨(some 16), .bin .rem (.tmp 14) (.tmp 15), none⟩,
        ⟨(some 17), .bin .eql (.tmp 16) (.const (.int .i64 0)), none⟩] [0, 3, 17])
    (.cond (.tmp 17)
     (.seq (.reg [
         ⟨(some 2), .mv (.const (.bool false)), none⟩] [2])
     (.ret))
     (.skip))))
   (.reg [
       ⟨(some 12), .mv (.tmp 3), none⟩,
       ⟨(some 13), .bin .add (.tmp 12) (.const (.int .i64 1)), none⟩,
       ⟨(some 3), .mv (.tmp 13), none⟩] [0, 3]))))))
 (.seq (.reg [
     ⟨(some 2), .mv (.const (.bool true)), none⟩] [2])
 (.ret))))
theorem s_spec_IsPrime : stripF Tryz.prog 137 [[0], [0, 6], [2], [0, 3], [0, 3], [0, 3, 11], [0, 3, 17], [2], [0, 3], [2]] = some (c_spec_IsPrime, [.tmp 2], 18) := by kernel_rfl
abbrev f_spec_l02Power : Nat := 138
def c_spec_l02Power : SC :=
 .seq (.reg [
     ⟨(some 6), .mv (.const (.int .i64 0)), none⟩] [0, 1, 2])
 (.seq (.reg [
     ⟨(some 8), .mv (.tmp 2), none⟩,
     ⟨(some 9), .bin .rem (.const (.int .i64 1)) (.tmp 8), none⟩,
     ⟨(some 7), .mv (.tmp 9), none⟩] [0, 1, 2, 7])
 (.seq (.block 0 (.loop [0, 1, 2, 7]
   (.seq (.seq (.reg [
       ⟨(some 10), .mv (.tmp 1), none⟩,
       ⟨(some 11), .bin .gtr (.tmp 10) (.const (.int .i64 0)), none⟩] [0, 1, 2, 7, 11])
   (.cond (.tmp 11)
    (.skip)
    (.exit 0)))
   (.block 1 (.seq (.seq (.reg [
        ⟨(some 12), .mv (.tmp 1), none⟩,
        ⟨(some 13), .bin .rem (.tmp 12) (.const (.int .i64 2)), none⟩,
        ⟨(some 14), .bin .eql (.tmp 13) (.const (.int .i64 1)), none⟩] [0, 1, 2, 7, 14])
    (.cond (.tmp 14)
     (.reg [
         ⟨(some 15), .mv (.tmp 7), none⟩,
         ⟨(some 16), .mv (.tmp 0), none⟩,
         ⟨(some 17), .bin .mul (.tmp 15) (.tmp 16), none⟩,
         ⟨(some 18), .mv (.tmp 2), none⟩,
         ⟨(some 19), .bin .rem (.tmp 17) (.tmp 18), none⟩,
         ⟨(some 7), .mv (.tmp 19), none⟩] [0, 1, 2, 7])
     (.skip)))
    (.seq (.reg [
        ⟨(some 20), .mv (.tmp 0), none⟩,
        ⟨(some 21), .mv (.tmp 0), none⟩,
        ⟨(some 22), .bin .mul (.tmp 20) (.tmp 21), none⟩,
        ⟨(some 23), .mv (.tmp 2), none⟩,
        ⟨(some 24), .bin .rem (.tmp 22) (.tmp 23), none⟩,
        ⟨(some 0), .mv (.tmp 24), none⟩] [0, 1, 2, 7])
    (.reg [
        ⟨(some 25), .mv (.tmp 1), none⟩,
        ⟨(some 26), .bin .quo (.tmp 25) (.const (.int .i64 2)), none⟩,
        ⟨(some 1), .mv (.tmp 26), none⟩] [0, 1, 2, 7])))))))
 (.seq (.reg [
     ⟨(some 27), .mv (.tmp 7), none⟩,
     ⟨(some 6), .mv (.tmp 27), none⟩] [6])
 (.ret))))
theorem s_spec_l02Power : stripF Tryz.prog 138 [[0, 1, 2], [0, 1, 2, 7], [0, 1, 2, 7], [0, 1, 2, 7, 11], [0, 1, 2, 7, 14], [0, 1, 2, 7], [0, 1, 2, 7], [0, 1, 2, 7], [6]] = some (c_spec_l02Power, [.tmp 6], 28) := by kernel_rfl
def sp (n : Nat) : Nat → Nat → Bool
  | 0, _ => true
  | f + 1, d => if d * d ≤ n then (if n % d = 0 then false else sp n f (d + 1)) else true
def primeS (n : Int) : Bool := decide (2 ≤ n) && decide (n ≤ 1000000) && sp n.toNat n.toNat 2
theorem specIsPrime_fn (n : Int) : PFn Tryz.prog f_spec_IsPrime [I n] (Bv (primeS n)) := by
  intro H; refine ACalls.introB s_spec_IsPrime (by simp) ?_; intro hB hA; unfold c_spec_IsPrime; simp (config := { maxSteps := 1000000 }) (disch := (first | omega | (simp only [go_sem]; try omega))) only [go_sem, Nat.reduceAdd, Nat.reduceEqDiff, Nat.reduceLeDiff, Nat.reduceMul, Nat.reduceLT, reduceIte, Int.reduceToNat, w64_id, cast_succ]
  by_cases h : 2 ≤ n ∧ n ≤ 1000000
  · obtain ⟨k, rfl⟩ := Int.eq_ofNat_of_zero_le (show 0 ≤ n by omega)
    have hb : (decide ((2 : Int) ≤ (k : Int)) && decide ((k : Int) ≤ 1000000)) = true := by simp; omega
    have hv : primeS (k : Int) = sp k k 2 := by unfold primeS; rw [hb, Bool.true_and]; rfl
    rw [hv]
    repeat (first | (with_reducible first | refine SW.seq ?_ | refine SW.block ?_ | refine SW.rowC ?_ | refine SW.skip ?_ | refine SW.exit ?_ | refine PFn.use (l00In_fn _ _ _) ?_ | refine PFn.useq (l00In_fn _ _ _) ?_ | intro _ | refine And.intro (by omega) ?_) | simp (config := { maxSteps := 1000000 }) (disch := (first | omega | (simp only [go_sem]; try omega))) only [go_sem, Nat.reduceAdd, Nat.reduceEqDiff, Nat.reduceLeDiff, Nat.reduceMul, Nat.reduceLT, reduceIte, Int.reduceToNat, w64_id, cast_succ, hb])
    refine SW.condF rfl ?_
    repeat (first | (with_reducible first | refine SW.seq ?_ | refine SW.block ?_ | refine SW.rowC ?_ | refine SW.skip ?_ | refine SW.exit ?_ | intro _ | refine And.intro (by omega) ?_) | simp (config := { maxSteps := 1000000 }) (disch := (first | omega | (simp only [go_sem]; try omega))) only [go_sem, Nat.reduceAdd, Nat.reduceEqDiff, Nat.reduceLeDiff, Nat.reduceMul, Nat.reduceLT, reduceIte, Int.reduceToNat, w64_id, cast_succ])
    refine SW.loopE (fun E0 H0 q E' H' => ∃ d : Nat, 2 ≤ d ∧ d + q = k + 2 ∧ E' = aput E0 3 (I d) ∧ H' = H0 ∧ sp k k 2 = sp k q d) k ⟨2, by omega, by omega, rfl, rfl, rfl⟩ ?_
    rintro q E' H' ⟨d, h2, hq, rfl, rfl, hs⟩
    have hdd : d * d ≤ 1000002 * 1000002 := Nat.mul_le_mul (by omega) (by omega)
    have e1 : (d : Int) * (d : Int) = ((d * d : Nat) : Int) := by simp
    have hdle : d ≤ d * d := Nat.le_mul_self d
    have hd0 : ¬ (d : Int) = 0 := by omega
    simp (config := { maxSteps := 1000000 }) (disch := (first | omega | (simp only [go_sem]; try omega))) only [go_sem, Nat.reduceAdd, Nat.reduceEqDiff, Nat.reduceLeDiff, Nat.reduceMul, Nat.reduceLT, reduceIte, Int.reduceToNat, w64_id, cast_succ]
    repeat (first | (with_reducible first | refine SW.seq ?_ | refine SW.block ?_ | refine SW.rowC ?_ | refine SW.skip ?_ | refine SW.exit ?_ | intro _ | refine And.intro (by omega) ?_) | simp (config := { maxSteps := 1000000 }) (disch := (first | omega | (simp only [go_sem]; try omega))) only [go_sem, Nat.reduceAdd, Nat.reduceEqDiff, Nat.reduceLeDiff, Nat.reduceMul, Nat.reduceLT, reduceIte, Int.reduceToNat, w64_id, cast_succ, e1])
    (first | refine SW.condD rfl (fun h3 => ?_) (fun h3 => ?_) | refine SW.condN rfl (fun h3 => ?_) (fun h3 => ?_) | refine SW.condNB rfl (fun h3 => ?_) (fun h3 => ?_) | refine SW.condB rfl (fun h3 => ?_) (fun h3 => ?_))
    · have h3' : d * d ≤ k := by omega
      obtain ⟨f, rfl⟩ : ∃ f, q = f + 1 := ⟨q - 1, by omega⟩
      have hst : sp k (f + 1) d = if k % d = 0 then false else sp k f (d + 1) := by rw [sp, if_pos h3']
      rw [hst] at hs
      by_cases hm : k % d = 0
      · rw [if_pos hm] at hs
        have hmd : decide (((k % d : Nat) : Int) = 0) = true := decide_eq_true (by omega)
        repeat (first | (with_reducible first | refine SW.seq ?_ | refine SW.block ?_ | refine SW.rowC ?_ | refine SW.skip ?_ | refine SW.exit ?_ | intro _ | refine And.intro (by omega) ?_) | simp (config := { maxSteps := 1000000 }) (disch := (first | omega | (simp only [go_sem]; try omega))) only [go_sem, Nat.reduceAdd, Nat.reduceEqDiff, Nat.reduceLeDiff, Nat.reduceMul, Nat.reduceLT, reduceIte, Int.reduceToNat, w64_id, cast_succ, tmodN, hmd])
        refine SW.condT rfl ?_
        repeat (first | (with_reducible first | refine SW.seq ?_ | refine SW.block ?_ | refine SW.rowC ?_ | refine SW.skip ?_ | refine SW.exit ?_ | intro _ | refine And.intro (by omega) ?_) | simp (config := { maxSteps := 1000000 }) (disch := (first | omega | (simp only [go_sem]; try omega))) only [go_sem, Nat.reduceAdd, Nat.reduceEqDiff, Nat.reduceLeDiff, Nat.reduceMul, Nat.reduceLT, reduceIte, Int.reduceToNat, w64_id, cast_succ])
        refine SW.ret ?_; (try simp only [go_sem]); (first | refine FunPost.one ?_ | refine FunPost.two ?_ | refine FunPost.three ?_); (try simp (config := { maxSteps := 1000000 }) (disch := (first | omega | (simp only [go_sem]; try omega))) only [go_sem, Nat.reduceAdd, Nat.reduceEqDiff, Nat.reduceLeDiff, Nat.reduceMul, Nat.reduceLT, reduceIte, Int.reduceToNat, w64_id, cast_succ]); (first | (with_reducible refine GR.drop ?_ ?_; (simp only [go_sem, and_self, and_true, true_and, implies_true, List.take_succ_cons, List.take_zero])) | refine GR.of ?_); refine ⟨?_, rfl⟩; (try with_reducible rfl)
        rw [hs]
      · rw [if_neg hm] at hs
        have hmd : decide (((k % d : Nat) : Int) = 0) = false := decide_eq_false (by omega)
        repeat (first | (with_reducible first | refine SW.seq ?_ | refine SW.block ?_ | refine SW.rowC ?_ | refine SW.skip ?_ | refine SW.exit ?_ | intro _ | refine And.intro (by omega) ?_) | simp (config := { maxSteps := 1000000 }) (disch := (first | omega | (simp only [go_sem]; try omega))) only [go_sem, Nat.reduceAdd, Nat.reduceEqDiff, Nat.reduceLeDiff, Nat.reduceMul, Nat.reduceLT, reduceIte, Int.reduceToNat, w64_id, cast_succ, tmodN, hmd])
        refine SW.condF rfl ?_
        repeat (first | (with_reducible first | refine SW.seq ?_ | refine SW.block ?_ | refine SW.rowC ?_ | refine SW.skip ?_ | refine SW.exit ?_ | intro _ | refine And.intro (by omega) ?_) | simp (config := { maxSteps := 1000000 }) (disch := (first | omega | (simp only [go_sem]; try omega))) only [go_sem, Nat.reduceAdd, Nat.reduceEqDiff, Nat.reduceLeDiff, Nat.reduceMul, Nat.reduceLT, reduceIte, Int.reduceToNat, w64_id, cast_succ])
        refine SLoop.next f (by omega) ⟨d + 1, by omega, by omega, ?_, rfl, hs⟩
        simp [go_sem]
    · have h3' : ¬ d * d ≤ k := by omega
      repeat (first | (with_reducible first | refine SW.seq ?_ | refine SW.block ?_ | refine SW.rowC ?_ | refine SW.skip ?_ | refine SW.exit ?_ | intro _ | refine And.intro (by omega) ?_) | simp (config := { maxSteps := 1000000 }) (disch := (first | omega | (simp only [go_sem]; try omega))) only [go_sem, Nat.reduceAdd, Nat.reduceEqDiff, Nat.reduceLeDiff, Nat.reduceMul, Nat.reduceLT, reduceIte, Int.reduceToNat, w64_id, cast_succ])
      refine SW.ret ?_; (try simp only [go_sem]); (first | refine FunPost.one ?_ | refine FunPost.two ?_ | refine FunPost.three ?_); (try simp (config := { maxSteps := 1000000 }) (disch := (first | omega | (simp only [go_sem]; try omega))) only [go_sem, Nat.reduceAdd, Nat.reduceEqDiff, Nat.reduceLeDiff, Nat.reduceMul, Nat.reduceLT, reduceIte, Int.reduceToNat, w64_id, cast_succ]); (first | (with_reducible refine GR.drop ?_ ?_; (simp only [go_sem, and_self, and_true, true_and, implies_true, List.take_succ_cons, List.take_zero])) | refine GR.of ?_); refine ⟨?_, rfl⟩; (try with_reducible rfl)
      rw [hs]
      cases q with
      | zero => rfl
      | succ f => rw [sp, if_neg h3']
  · have hb : (decide (2 ≤ n) && decide (n ≤ 1000000)) = false := by
      rcases Classical.not_and_iff_not_or_not.1 h with h | h <;> simp [h]
    have hv : primeS n = false := by unfold primeS; rw [hb]; rfl
    rw [hv]
    repeat (first | (with_reducible first | refine SW.seq ?_ | refine SW.block ?_ | refine SW.rowC ?_ | refine SW.skip ?_ | refine SW.exit ?_ | refine PFn.use (l00In_fn _ _ _) ?_ | refine PFn.useq (l00In_fn _ _ _) ?_ | intro _ | refine And.intro (by omega) ?_) | simp (config := { maxSteps := 1000000 }) (disch := (first | omega | (simp only [go_sem]; try omega))) only [go_sem, Nat.reduceAdd, Nat.reduceEqDiff, Nat.reduceLeDiff, Nat.reduceMul, Nat.reduceLT, reduceIte, Int.reduceToNat, w64_id, cast_succ, hb])
    refine SW.condT rfl ?_
    repeat (first | (with_reducible first | refine SW.seq ?_ | refine SW.block ?_ | refine SW.rowC ?_ | refine SW.skip ?_ | refine SW.exit ?_ | intro _ | refine And.intro (by omega) ?_) | simp (config := { maxSteps := 1000000 }) (disch := (first | omega | (simp only [go_sem]; try omega))) only [go_sem, Nat.reduceAdd, Nat.reduceEqDiff, Nat.reduceLeDiff, Nat.reduceMul, Nat.reduceLT, reduceIte, Int.reduceToNat, w64_id, cast_succ])
    refine SW.ret ?_; (try simp only [go_sem]); (first | refine FunPost.one ?_ | refine FunPost.two ?_ | refine FunPost.three ?_); (try simp (config := { maxSteps := 1000000 }) (disch := (first | omega | (simp only [go_sem]; try omega))) only [go_sem, Nat.reduceAdd, Nat.reduceEqDiff, Nat.reduceLeDiff, Nat.reduceMul, Nat.reduceLT, reduceIte, Int.reduceToNat, w64_id, cast_succ]); (first | (with_reducible refine GR.drop ?_ ?_; (simp only [go_sem, and_self, and_true, true_and, implies_true, List.take_succ_cons, List.take_zero])) | refine GR.of ?_); refine ⟨?_, rfl⟩; (try with_reducible rfl)
def pw (m : Nat) : Nat → Nat → Nat → Nat → Nat
  | 0, out, _, _ => out
  | f + 1, out, a, e => if 0 < e then pw m f (if e % 2 = 1 then out * a % m else out) (a * a % m) (e / 2) else out
theorem specPower_fn (a e m : Nat) (hm : 1 ≤ m) (hm2 : m ≤ 32) (ha : a < m) (he : e ≤ 1000) : PFn Tryz.prog f_spec_l02Power [I a, I e, I m] (I (pw m (e + 1) (1 % m) a e)) := by
  intro H; refine ACalls.introB s_spec_l02Power (by simp) ?_; intro hB hA; unfold c_spec_l02Power; simp (config := { maxSteps := 1000000 }) (disch := (first | omega | (simp only [go_sem]; try omega))) only [go_sem, Nat.reduceAdd, Nat.reduceEqDiff, Nat.reduceLeDiff, Nat.reduceMul, Nat.reduceLT, reduceIte, Int.reduceToNat, w64_id, cast_succ]
  have hm0 : ¬ (m : Int) = 0 := by omega
  have e1 : (1 : Int).tmod (m : Int) = ((1 % m : Nat) : Int) := @tmodN 1 m
  repeat (first | (with_reducible first | refine SW.seq ?_ | refine SW.block ?_ | refine SW.rowC ?_ | refine SW.skip ?_ | refine SW.exit ?_ | intro _ | refine And.intro (by omega) ?_) | simp (config := { maxSteps := 1000000 }) (disch := (first | omega | (simp only [go_sem]; try omega))) only [go_sem, Nat.reduceAdd, Nat.reduceEqDiff, Nat.reduceLeDiff, Nat.reduceMul, Nat.reduceLT, reduceIte, Int.reduceToNat, w64_id, cast_succ, e1])
  generalize hZ : pw m (e + 1) (1 % m) a e = Z
  refine SW.loopE (fun E0 H0 q E' H' => ∃ (o b c : Nat), o < m + 1 ∧ b < m ∧ c ≤ 1000 ∧ c < q ∧ E' = aput (aput (aput E0 0 (I b)) 1 (I c)) 7 (I o) ∧ H' = H0 ∧ Z = pw m q o b c) (e + 1) ⟨1 % m, a, e, by have := Nat.mod_lt 1 (show m > 0 by omega); omega, ha, he, by omega, rfl, rfl, hZ.symm⟩ ?_
  rintro q E' H' ⟨o, b, c, ho, hb, hc, hcq, rfl, rfl, hpw⟩
  obtain ⟨f, rfl⟩ : ∃ f, q = f + 1 := ⟨q - 1, by omega⟩
  have hob : o * b ≤ 33 * 33 := Nat.mul_le_mul (by omega) (by omega)
  have hbb : b * b ≤ 33 * 33 := Nat.mul_le_mul (by omega) (by omega)
  have e2 : (o : Int) * (b : Int) = ((o * b : Nat) : Int) := by simp
  have e3 : (b : Int) * (b : Int) = ((b * b : Nat) : Int) := by simp
  have e4 : (c : Int).tmod 2 = ((c % 2 : Nat) : Int) := @tmodN c 2
  have e5 : (c : Int).tdiv 2 = ((c / 2 : Nat) : Int) := @tdivN c 2
  have hm1 := Nat.mod_lt (o * b) (show m > 0 by omega)
  have hm2 := Nat.mod_lt (b * b) (show m > 0 by omega)
  rw [show pw m (f + 1) o b c = if 0 < c then pw m f (if c % 2 = 1 then o * b % m else o) (b * b % m) (c / 2) else o from rfl] at hpw
  simp (config := { maxSteps := 1000000 }) (disch := (first | omega | (simp only [go_sem]; try omega))) only [go_sem, Nat.reduceAdd, Nat.reduceEqDiff, Nat.reduceLeDiff, Nat.reduceMul, Nat.reduceLT, reduceIte, Int.reduceToNat, w64_id, cast_succ]
  repeat (first | (with_reducible first | refine SW.seq ?_ | refine SW.block ?_ | refine SW.rowC ?_ | refine SW.skip ?_ | refine SW.exit ?_ | intro _ | refine And.intro (by omega) ?_) | simp (config := { maxSteps := 1000000 }) (disch := (first | omega | (simp only [go_sem]; try omega))) only [go_sem, Nat.reduceAdd, Nat.reduceEqDiff, Nat.reduceLeDiff, Nat.reduceMul, Nat.reduceLT, reduceIte, Int.reduceToNat, w64_id, cast_succ])
  (first | refine SW.condD rfl (fun h3 => ?_) (fun h3 => ?_) | refine SW.condN rfl (fun h3 => ?_) (fun h3 => ?_) | refine SW.condNB rfl (fun h3 => ?_) (fun h3 => ?_) | refine SW.condB rfl (fun h3 => ?_) (fun h3 => ?_))
  · rw [if_pos (by omega)] at hpw
    by_cases hc2 : c % 2 = 1
    · rw [if_pos hc2] at hpw
      have hcd : decide (((c % 2 : Nat) : Int) = 1) = true := decide_eq_true (by omega)
      repeat (first | (with_reducible first | refine SW.seq ?_ | refine SW.block ?_ | refine SW.rowC ?_ | refine SW.skip ?_ | refine SW.exit ?_ | intro _ | refine And.intro (by omega) ?_) | simp (config := { maxSteps := 1000000 }) (disch := (first | omega | (simp only [go_sem]; try omega))) only [go_sem, Nat.reduceAdd, Nat.reduceEqDiff, Nat.reduceLeDiff, Nat.reduceMul, Nat.reduceLT, reduceIte, Int.reduceToNat, w64_id, cast_succ, e4, hcd])
      refine SW.condT rfl ?_
      repeat (first | (with_reducible first | refine SW.seq ?_ | refine SW.block ?_ | refine SW.rowC ?_ | refine SW.skip ?_ | refine SW.exit ?_ | intro _ | refine And.intro (by omega) ?_) | simp (config := { maxSteps := 1000000 }) (disch := (first | omega | (simp only [go_sem]; try omega))) only [go_sem, Nat.reduceAdd, Nat.reduceEqDiff, Nat.reduceLeDiff, Nat.reduceMul, Nat.reduceLT, reduceIte, Int.reduceToNat, w64_id, cast_succ, e2, e3, e5, tmodN])
      refine SLoop.next f (by omega) ⟨o * b % m, b * b % m, c / 2, by omega, by omega, by omega, by omega, ?_, rfl, hpw⟩
      simp [go_sem]
    · rw [if_neg hc2] at hpw
      have hcd : decide (((c % 2 : Nat) : Int) = 1) = false := decide_eq_false (by omega)
      repeat (first | (with_reducible first | refine SW.seq ?_ | refine SW.block ?_ | refine SW.rowC ?_ | refine SW.skip ?_ | refine SW.exit ?_ | intro _ | refine And.intro (by omega) ?_) | simp (config := { maxSteps := 1000000 }) (disch := (first | omega | (simp only [go_sem]; try omega))) only [go_sem, Nat.reduceAdd, Nat.reduceEqDiff, Nat.reduceLeDiff, Nat.reduceMul, Nat.reduceLT, reduceIte, Int.reduceToNat, w64_id, cast_succ, e4, hcd])
      refine SW.condF rfl ?_
      repeat (first | (with_reducible first | refine SW.seq ?_ | refine SW.block ?_ | refine SW.rowC ?_ | refine SW.skip ?_ | refine SW.exit ?_ | intro _ | refine And.intro (by omega) ?_) | simp (config := { maxSteps := 1000000 }) (disch := (first | omega | (simp only [go_sem]; try omega))) only [go_sem, Nat.reduceAdd, Nat.reduceEqDiff, Nat.reduceLeDiff, Nat.reduceMul, Nat.reduceLT, reduceIte, Int.reduceToNat, w64_id, cast_succ, e2, e3, e5, tmodN])
      refine SLoop.next f (by omega) ⟨o, b * b % m, c / 2, by omega, by omega, by omega, by omega, ?_, rfl, hpw⟩
      simp [go_sem]
  · rw [if_neg (by omega)] at hpw
    repeat (first | (with_reducible first | refine SW.seq ?_ | refine SW.block ?_ | refine SW.rowC ?_ | refine SW.skip ?_ | refine SW.exit ?_ | intro _ | refine And.intro (by omega) ?_) | simp (config := { maxSteps := 1000000 }) (disch := (first | omega | (simp only [go_sem]; try omega))) only [go_sem, Nat.reduceAdd, Nat.reduceEqDiff, Nat.reduceLeDiff, Nat.reduceMul, Nat.reduceLT, reduceIte, Int.reduceToNat, w64_id, cast_succ])
    refine SW.ret ?_; (try simp only [go_sem]); (first | refine FunPost.one ?_ | refine FunPost.two ?_ | refine FunPost.three ?_); (try simp (config := { maxSteps := 1000000 }) (disch := (first | omega | (simp only [go_sem]; try omega))) only [go_sem, Nat.reduceAdd, Nat.reduceEqDiff, Nat.reduceLeDiff, Nat.reduceMul, Nat.reduceLT, reduceIte, Int.reduceToNat, w64_id, cast_succ]); (first | (with_reducible refine GR.drop ?_ ?_; (simp only [go_sem, and_self, and_true, true_and, implies_true, List.take_succ_cons, List.take_zero])) | refine GR.of ?_); refine ⟨?_, rfl⟩; (try with_reducible rfl)
    rw [hpw]
def frobS (p e : Nat) (x : Nat) : List Nat := (List.range x).filter fun a => decide (1 ≤ a) && decide (pw p (e + 1) (1 % p) a e = 1)
theorem frobS_one (p e : Nat) : frobS p e 1 = [] := by simp [frobS, List.range_succ]
theorem frobS_succ (p e x : Nat) (hx : 1 ≤ x) : frobS p e (x + 1) = frobS p e x ++ (if pw p (e + 1) (1 % p) x e = 1 then [x] else []) := by
  unfold frobS
  rw [List.range_succ, List.filter_append]
  congr 1
  by_cases h : pw p (e + 1) (1 % p) x e = 1
  · simp [h, hx]
  · simp [h]
theorem frobS_len (p e x : Nat) : (frobS p e x).length ≤ x := by
  unfold frobS; exact Nat.le_trans (List.length_filter_le _ _) (by simp)
theorem frobS_lt {p e x a : Nat} (h : a ∈ frobS p e x) : a < x := by
  unfold frobS at h
  have := (List.mem_filter.1 h).1
  simpa using this
theorem frobS_nodup (p e x : Nat) : (frobS p e x).Nodup := List.nodup_range.filter _
theorem specFrob_ok (H : List Blk) (p e : Nat) (h1 : 2 ≤ p) (h2 : p ≤ 32) (h3 : primeS p = true) (h4 : 1 ≤ e) (h5 : e ≤ p - 1) (h6 : (p - 1) % e = 0) (h7 : p * e ≤ 720) :
    ACalls Tryz.prog f_spec_FrobeniusGroup [I p, I e] H (fun r H' => r = .tup [.agg [I p, ilSS (sortU cmpL (affAll p (frobS p e p)))], I 0] ∧ H' = H) := by
  refine ACalls.introB s_spec_FrobeniusGroup (by simp) ?_; intro hB hA; unfold c_spec_FrobeniusGroup; simp (config := { maxSteps := 1000000 }) (disch := (first | omega | (simp only [go_sem]; try omega))) only [go_sem, Nat.reduceAdd, Nat.reduceEqDiff, Nat.reduceLeDiff, Nat.reduceMul, Nat.reduceLT, reduceIte, Int.reduceToNat, w64_id, cast_succ]
  have d1 : decide ((32 : Int) < (p : Int)) = false := decide_eq_false (by omega)
  have d3 : (decide ((1 : Int) ≤ (e : Int)) && decide ((e : Int) ≤ ((p - 1 : Nat) : Int))) = true := by simp; omega
  have d5 : decide (((0 : Nat) : Int) = 0) = true := rfl
  have e1 : ((p : Int) - 1) = ((p - 1 : Nat) : Int) := by omega
  have e2 : ((p : Int) * (e : Int)) = ((p * e : Nat) : Int) := by simp
  have d6 : decide ((720 : Int) < ((p * e : Nat) : Int)) = false := decide_eq_false (by omega)
  have hz : ¬ (e : Int) = 0 := by omega
  repeat (first | (with_reducible first | refine SW.seq ?_ | refine SW.block ?_ | refine SW.rowC ?_ | refine SW.skip ?_ | refine SW.exit ?_ | refine PFn.use (specIsPrime_fn _) ?_ | refine PFn.useq (specIsPrime_fn _) ?_ | refine PFn.use (l00In_fn _ _ _) ?_ | refine PFn.useq (l00In_fn _ _ _) ?_ | intro _ | refine And.intro (by omega) ?_) | simp (config := { maxSteps := 1000000 }) (disch := (first | omega | (simp only [go_sem]; try omega))) only [go_sem, Nat.reduceAdd, Nat.reduceEqDiff, Nat.reduceLeDiff, Nat.reduceMul, Nat.reduceLT, reduceIte, Int.reduceToNat, w64_id, cast_succ, h3, d1, d3, e1, e2, d6, d5, tmodN, h6])
  refine SW.condF rfl ?_
  repeat (first | (with_reducible first | refine SW.seq ?_ | refine SW.block ?_ | refine SW.rowC ?_ | refine SW.skip ?_ | refine SW.exit ?_ | intro _ | refine And.intro (by omega) ?_) | simp (config := { maxSteps := 1000000 }) (disch := (first | omega | (simp only [go_sem]; try omega))) only [go_sem, Nat.reduceAdd, Nat.reduceEqDiff, Nat.reduceLeDiff, Nat.reduceMul, Nat.reduceLT, reduceIte, Int.reduceToNat, w64_id, cast_succ, e2, d6])
  refine SW.condF rfl ?_
  repeat (first | (with_reducible first | refine SW.seq ?_ | refine SW.block ?_ | refine SW.rowC ?_ | refine SW.skip ?_ | refine SW.exit ?_ | intro _ | refine And.intro (by omega) ?_) | simp (config := { maxSteps := 1000000 }) (disch := (first | omega | (simp only [go_sem]; try omega))) only [go_sem, Nat.reduceAdd, Nat.reduceEqDiff, Nat.reduceLeDiff, Nat.reduceMul, Nat.reduceLT, reduceIte, Int.reduceToNat, w64_id, cast_succ])
  have hfl := fun x => frobS_len p e x
  refine SW.loopE (fun E0 H0 q E' H' => ∃ (a ver : Nat), 1 ≤ a ∧ a ≤ p ∧ q = p - a ∧ E' = aput (aput E0 7 (I a)) 6 (.nm (H.length + 1) ver 0 (nats (frobS p e a)).length) ∧ H' = H ++ [⟨0, tyG, 1, [I 0, nilS]⟩, ⟨ver, 2, 1, (nats (frobS p e a)).map I⟩]) (p - 1) ⟨1, 0, by omega, by omega, by omega, by rw [frobS_one]; rfl, by rw [frobS_one]; rfl⟩ ?_
  rintro q E' H' ⟨a, ver, ha1, hap, rfl, rfl, rfl⟩
  have hnl := nats_len (frobS p e a)
  have hfa := hfl a
  have hfs := frobS_succ p e a ha1
  generalize hL : nats (frobS p e a) = L at *
  have htl : (L.map I).take L.length = L.map I := List.take_of_length_le (by simp)
  simp (config := { maxSteps := 1000000 }) (disch := (first | omega | (simp only [go_sem]; try omega))) only [go_sem, Nat.reduceAdd, Nat.reduceEqDiff, Nat.reduceLeDiff, Nat.reduceMul, Nat.reduceLT, reduceIte, Int.reduceToNat, w64_id, cast_succ]
  repeat (first | (with_reducible first | refine SW.seq ?_ | refine SW.block ?_ | refine SW.rowC ?_ | refine SW.skip ?_ | refine SW.exit ?_ | intro _ | refine And.intro (by omega) ?_) | simp (config := { maxSteps := 1000000 }) (disch := (first | omega | (simp only [go_sem]; try omega))) only [go_sem, Nat.reduceAdd, Nat.reduceEqDiff, Nat.reduceLeDiff, Nat.reduceMul, Nat.reduceLT, reduceIte, Int.reduceToNat, w64_id, cast_succ])
  (first | refine SW.condD rfl (fun h8 => ?_) (fun h8 => ?_) | refine SW.condN rfl (fun h8 => ?_) (fun h8 => ?_) | refine SW.condNB rfl (fun h8 => ?_) (fun h8 => ?_) | refine SW.condB rfl (fun h8 => ?_) (fun h8 => ?_))
  · have hpw := specPower_fn a e p (by omega) h2 (by omega) (by omega)
    by_cases hw : pw p (e + 1) (1 % p) a e = 1
    · rw [if_pos hw] at hfs
      rw [hw] at hpw
      have hL2 : nats (frobS p e (a + 1)) = L ++ [(a : Int)] := by rw [hfs]; simp [nats] at hL ⊢; exact hL
      have d9 : decide (((1 : Nat) : Int) = 1) = true := rfl
      repeat (first | (with_reducible first | refine SW.seq ?_ | refine SW.block ?_ | refine SW.rowC ?_ | refine SW.skip ?_ | refine SW.exit ?_ | refine PFn.use (hpw) ?_ | refine PFn.useq (hpw) ?_ | intro _ | refine And.intro (by omega) ?_) | simp (config := { maxSteps := 1000000 }) (disch := (first | omega | (simp only [go_sem]; try omega))) only [go_sem, Nat.reduceAdd, Nat.reduceEqDiff, Nat.reduceLeDiff, Nat.reduceMul, Nat.reduceLT, reduceIte, Int.reduceToNat, w64_id, cast_succ, d9])
      refine SW.condT rfl ?_
      repeat (first | (with_reducible first | refine SW.seq ?_ | refine SW.block ?_ | refine SW.rowC ?_ | refine SW.skip ?_ | refine SW.exit ?_ | intro _ | refine And.intro (by omega) ?_) | simp (config := { maxSteps := 1000000 }) (disch := (first | omega | (simp only [go_sem]; try omega))) only [go_sem, Nat.reduceAdd, Nat.reduceEqDiff, Nat.reduceLeDiff, Nat.reduceMul, Nat.reduceLT, reduceIte, Int.reduceToNat, w64_id, cast_succ, htl])
      refine SLoop.nextT 2 (p - (a + 1)) hB (by omega) (by omega) (by simp) ?_ ?_ ⟨a + 1, ver + 1, by omega, by omega, rfl, ?_, ?_⟩
      · (simp only [go_sem, Nat.reduceAdd, Nat.reduceEqDiff, reduceIte, go_sem, and_self, and_true, true_and, implies_true, List.take_succ_cons, List.take_zero, and_true, true_and]; try omega)
      · (simp only [go_sem, Nat.reduceAdd, Nat.reduceEqDiff, reduceIte, go_sem, and_self, and_true, true_and, implies_true, List.take_succ_cons, List.take_zero, and_true, true_and]; try omega)
      · rw [hL2]; simp [go_sem]
      · rw [hL2]; simp
    · rw [if_neg hw, List.append_nil] at hfs
      have d9 : decide (((pw p (e + 1) (1 % p) a e : Nat) : Int) = 1) = false := decide_eq_false (by omega)
      repeat (first | (with_reducible first | refine SW.seq ?_ | refine SW.block ?_ | refine SW.rowC ?_ | refine SW.skip ?_ | refine SW.exit ?_ | refine PFn.use (hpw) ?_ | refine PFn.useq (hpw) ?_ | intro _ | refine And.intro (by omega) ?_) | simp (config := { maxSteps := 1000000 }) (disch := (first | omega | (simp only [go_sem]; try omega))) only [go_sem, Nat.reduceAdd, Nat.reduceEqDiff, Nat.reduceLeDiff, Nat.reduceMul, Nat.reduceLT, reduceIte, Int.reduceToNat, w64_id, cast_succ, d9])
      refine SW.condF rfl ?_
      repeat (first | (with_reducible first | refine SW.seq ?_ | refine SW.block ?_ | refine SW.rowC ?_ | refine SW.skip ?_ | refine SW.exit ?_ | intro _ | refine And.intro (by omega) ?_) | simp (config := { maxSteps := 1000000 }) (disch := (first | omega | (simp only [go_sem]; try omega))) only [go_sem, Nat.reduceAdd, Nat.reduceEqDiff, Nat.reduceLeDiff, Nat.reduceMul, Nat.reduceLT, reduceIte, Int.reduceToNat, w64_id, cast_succ])
      refine SLoop.next (p - (a + 1)) (by omega) ⟨a + 1, ver, by omega, by omega, rfl, ?_, ?_⟩
      · rw [hfs, hL]; simp [go_sem]
      · rw [hfs, hL]
  · have : a = p := by omega
    subst this
    have hlt : ∀ x ∈ frobS a e a, x ≤ 32 := fun x hx => by have := frobS_lt hx; omega
    have hnd : (affAll a (frobS a e a)).Nodup := affAll_nodup h1 (fun x hx => frobS_lt hx) (frobS_nodup _ _ _)
    repeat (first | (with_reducible first | refine SW.seq ?_ | refine SW.block ?_ | refine SW.rowC ?_ | refine SW.skip ?_ | refine SW.exit ?_ | intro _ | refine And.intro (by omega) ?_) | simp (config := { maxSteps := 1000000 }) (disch := (first | omega | (simp only [go_sem]; try omega))) only [go_sem, Nat.reduceAdd, Nat.reduceEqDiff, Nat.reduceLeDiff, Nat.reduceMul, Nat.reduceLT, reduceIte, Int.reduceToNat, w64_id, cast_succ])
    refine ACalls.fn (l25Affine_ok _ a (frobS a e a) (.nm (H.length + 1) ver 0 L.length) (by omega) h2 hlt (by omega) ?_) ?_
    · rw [hL]; exact view_nm (show (H ++ _)[H.length + 1]? = some ⟨ver, 2, 1, L.map I⟩ by simp) (by simp)
    repeat (first | (with_reducible first | refine SW.seq ?_ | refine SW.block ?_ | refine SW.rowC ?_ | refine SW.skip ?_ | refine SW.exit ?_ | intro _ | refine And.intro (by omega) ?_) | simp (config := { maxSteps := 1000000 }) (disch := (first | omega | (simp only [go_sem]; try omega))) only [go_sem, Nat.reduceAdd, Nat.reduceEqDiff, Nat.reduceLeDiff, Nat.reduceMul, Nat.reduceLT, reduceIte, Int.reduceToNat, w64_id, cast_succ])
    refine SW.ret ?_
    refine FunPost.cell_tmp (cs := [I a, ilSS (sortU cmpL (affAll a (frobS a e a)))]) (by simp (config := { maxSteps := 1000000 }) (disch := (first | omega | (simp only [go_sem]; try omega))) only [go_sem, Nat.reduceAdd, Nat.reduceEqDiff, Nat.reduceLeDiff, Nat.reduceMul, Nat.reduceLT, reduceIte, Int.reduceToNat, w64_id, cast_succ]) (GR.drop (ext := [_, _]) ?_ ⟨rfl, rfl⟩)
    simp [go_sem]
end Go.Proofs.YthogadbnddmkdaaGreat
