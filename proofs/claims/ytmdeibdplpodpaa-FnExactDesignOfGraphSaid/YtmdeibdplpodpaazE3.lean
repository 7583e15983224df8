/- Graphs of sets: the program. -/
import Derived.Test.YtmdeibdplpodpaaProg
import Derived.KernelRfl
import Derived.Test.YtmdeibdplpodpaazE2
import Derived.Test.YtmdeibdplpodpaazK20
import Derived.Test.YtmdeibdplpodpaazK6
import Derived.Test.YtmdeibdplpodpaazK19
import Derived.Test.YtmdeibdplpodpaazD1
set_option linter.unusedSimpArgs false
set_option linter.unusedVariables false
set_option maxHeartbeats 4000000
set_option maxRecDepth 100000
namespace Go.Proofs.Ytmdeibdplpodpaa
open Go.Av
abbrev f_impl_twoColors : Nat := 38
def c_impl_twoColors : SC :=
 .seq (.reg [
     ⟨(some 4), .mv (.const (.slice none 0 0)), none⟩] [0, 1])
 (.seq (.reg [
     ⟨(some 7), .mv (.tmp 0), none⟩,
     ⟨(some 8), .mv (.tmp 1), none⟩,
     ⟨(some 9), .bin .add (.tmp 7) (.tmp 8), none⟩,
     ⟨(some 10), .mslice 2 8 (.int .i64 0) (.tmp 9) (.tmp 9), none⟩,
     ⟨(some 5), .mv (.tmp 10), none⟩] [0, 1, 5])
 (.seq (.seq (.reg [
     ⟨(some 11), .mv (.tmp 0), none⟩,
     ⟨(some 6), .mv (.tmp 11), none⟩] [0, 1, 5, 6])
 (.block 0 (.loop [0, 1, 5, 6]
   (.seq (.seq (.reg [
       ⟨(some 12), .mv (.tmp 6), none⟩,
       ⟨(some 13), .mv (.tmp 0), none⟩,
       ⟨(some 14), .mv (.tmp 1), none⟩,
       ⟨(some 15), .bin .add (.tmp 13) (.tmp 14), none⟩,
       ⟨(some 16), .bin .lss (.tmp 12) (.tmp 15), none⟩] [0, 1, 5, 6, 16])
   (.cond (.tmp 16)
    (.skip)
    (.exit 0)))
   (.seq (.block 1 (.reg [
        ⟨(some 19), .mv (.tmp 5), none⟩,
        ⟨(some 20), .mv (.tmp 6), none⟩,
        ⟨(some 21), .iaddr 1 (.tmp 19) (.tmp 20), none⟩,
        ⟨none, .store 1 (.tmp 21) (.const (.int .i64 1)), none⟩] [0, 1, 5, 6]))
   (.reg [
       ⟨(some 17), .mv (.tmp 6), none⟩,
       ⟨(some 18), .bin .add (.tmp 17) (.const (.int .i64 1)), none⟩,
       ⟨(some 6), .mv (.tmp 18), none⟩] [0, 1, 5, 6]))))))
 (.seq (.reg [
     ⟨(some 22), .mv (.tmp 5), none⟩,
     ⟨(some 4), .mv (.tmp 22), none⟩] [4])
 (.ret))))
theorem s_impl_twoColors : stripF Try.prog 38 [[0, 1], [0, 1, 5], [0, 1, 5, 6], [0, 1, 5, 6], [0, 1, 5, 6, 16], [0, 1, 5, 6], [0, 1, 5, 6], [4]] = some (c_impl_twoColors, [.tmp 4], 23) := by kernel_rfl
abbrev tyGr : Nat := 30
def twoC (a b : Nat) : List Int := tab (a + b) fun j => if a ≤ j then 1 else 0
theorem twoColors_new (a b : Nat) (ha : a ≤ 1000) (hb : b ≤ 1000) : NewS Try.prog f_impl_twoColors [I a, I b] (twoC a b) := by
  intro H
  refine ACalls.introB s_impl_twoColors (by simp) ?_; intro hB hA; unfold c_impl_twoColors; simp (config := { maxSteps := 1000000 }) (disch := (first | omega | (simp only [go_sem]; try omega))) only [go_sem, Nat.reduceAdd, Nat.reduceEqDiff, Nat.reduceLeDiff, Nat.reduceMul, Nat.reduceLT, reduceIte, Int.reduceToNat, w64_id, cast_succ]
  have e1 : (a : Int) + (b : Int) = ((a + b : Nat) : Int) := by omega
  repeat (first | (with_reducible first | refine SW.seq ?_ | refine SW.block ?_ | refine SW.rowC ?_ | refine SW.skip ?_ | refine SW.exit ?_ | intro _ | refine And.intro (by omega) ?_) | simp (config := { maxSteps := 1000000 }) (disch := (first | omega | (simp only [go_sem]; try omega))) only [go_sem, Nat.reduceAdd, Nat.reduceEqDiff, Nat.reduceLeDiff, Nat.reduceMul, Nat.reduceLT, reduceIte, Int.reduceToNat, w64_id, cast_succ, e1])
  rw [tab_rep]
  refine SW.loopE (fun E0 H0 q E' H' => ∃ i : Nat, i ≤ b ∧ q = b - i ∧ E' = aput E0 6 (I (a + i : Nat)) ∧ H' = H ++ [⟨0, 2, 1, (tab (a + b) fun j => if a ≤ j ∧ j < a + i then 1 else 0).map I⟩]) b ⟨0, by omega, by omega, rfl, ?_⟩ ?_
  · congr 4
    exact tab_congr fun j hj => by rw [if_neg (by omega)]
  rintro q E' H' ⟨i, hi, rfl, rfl, rfl⟩
  have hll := tab_length (a + b) fun j => if a ≤ j ∧ j < a + i then (1 : Int) else 0
  simp (config := { maxSteps := 1000000 }) (disch := (first | omega | (simp only [go_sem]; try omega))) only [go_sem, Nat.reduceAdd, Nat.reduceEqDiff, Nat.reduceLeDiff, Nat.reduceMul, Nat.reduceLT, reduceIte, Int.reduceToNat, w64_id, cast_succ]
  repeat (first | (with_reducible first | refine SW.seq ?_ | refine SW.block ?_ | refine SW.rowC ?_ | refine SW.skip ?_ | refine SW.exit ?_ | intro _ | refine And.intro (by omega) ?_) | simp (config := { maxSteps := 1000000 }) (disch := (first | omega | (simp only [go_sem]; try omega))) only [go_sem, Nat.reduceAdd, Nat.reduceEqDiff, Nat.reduceLeDiff, Nat.reduceMul, Nat.reduceLT, reduceIte, Int.reduceToNat, w64_id, cast_succ, e1])
  (first | refine SW.condD rfl (fun h => ?_) (fun h => ?_) | refine SW.condN rfl (fun h => ?_) (fun h => ?_) | refine SW.condNB rfl (fun h => ?_) (fun h => ?_) | refine SW.condB rfl (fun h => ?_) (fun h => ?_))
  · repeat (first | (with_reducible first | refine SW.seq ?_ | refine SW.block ?_ | refine SW.rowC ?_ | refine SW.skip ?_ | refine SW.exit ?_ | intro _ | refine And.intro (by omega) ?_) | simp (config := { maxSteps := 1000000 }) (disch := (first | omega | (simp only [go_sem]; try omega))) only [go_sem, Nat.reduceAdd, Nat.reduceEqDiff, Nat.reduceLeDiff, Nat.reduceMul, Nat.reduceLT, reduceIte, Int.reduceToNat, w64_id, cast_succ, take_tab])
    refine SLoop.next (b - (i + 1)) (by omega) ⟨i + 1, by omega, rfl, ?_, ?_⟩
    · simp [go_sem, tab_length, Int.add_assoc]
    · rw [tab_set]
      congr 4
      exact tab_congr fun j hj => by
        by_cases hjm : j = a + i
        · subst hjm
          rw [if_pos rfl, if_pos (by omega)]
        · rw [if_neg hjm]
          by_cases h2 : a ≤ j ∧ j < a + i
          · rw [if_pos h2, if_pos (by omega)]
          · rw [if_neg h2, if_neg (by omega)]
  · have : i = b := by omega
    subst this
    have e2 : (tab (a + i) fun j => if a ≤ j ∧ j < a + i then (1 : Int) else 0) = twoC a i := tab_congr fun j hj => by
      by_cases h2 : a ≤ j
      · rw [if_pos ⟨h2, hj⟩, if_pos h2]
      · rw [if_neg (by omega), if_neg h2]
    repeat (first | (with_reducible first | refine SW.seq ?_ | refine SW.block ?_ | refine SW.rowC ?_ | refine SW.skip ?_ | refine SW.exit ?_ | intro _ | refine And.intro (by omega) ?_) | simp (config := { maxSteps := 1000000 }) (disch := (first | omega | (simp only [go_sem]; try omega))) only [go_sem, Nat.reduceAdd, Nat.reduceEqDiff, Nat.reduceLeDiff, Nat.reduceMul, Nat.reduceLT, reduceIte, Int.reduceToNat, w64_id, cast_succ])
    refine SW.ret ?_; (try simp only [go_sem]); (first | refine FunPost.one ?_ | refine FunPost.two ?_ | refine FunPost.three ?_); (try simp (config := { maxSteps := 1000000 }) (disch := (first | omega | (simp only [go_sem]; try omega))) only [go_sem, Nat.reduceAdd, Nat.reduceEqDiff, Nat.reduceLeDiff, Nat.reduceMul, Nat.reduceLT, reduceIte, Int.reduceToNat, w64_id, cast_succ])
    rw [e2]
    refine GR.of ⟨?_, rfl⟩
    simp [twoC, tab]
end Go.Proofs.Ytmdeibdplpodpaa
