/- Permutations by rank: both ways. -/
import Derived.Test.YtmdeibdplpodpaaGreatProg
import Derived.KernelRfl
import Derived.Test.YtmdeibdplpodpaaGreatzOW
import Derived.Test.YtmdeibdplpodpaaGreatzK61
import Derived.Test.YtmdeibdplpodpaaGreatzK20
import Derived.Test.YtmdeibdplpodpaaGreatzT0
set_option linter.unusedSimpArgs false
set_option linter.unusedVariables false
set_option maxHeartbeats 4000000
set_option maxRecDepth 100000
namespace Go.Proofs.YtmdeibdplpodpaaGreat
open Go.Av
abbrev f_spec_l04Factorial : Nat := 72
def c_spec_l04Factorial : SC :=
 .seq (.reg [
     ⟨(some 2), .mv (.const (.int .i64 0)), none⟩] [0])
 (.seq (.reg [
     ⟨(some 3), .mv (.const (.int .i64 1)), none⟩] [0, 3])
 (.seq (.seq (.reg [
     ⟨(some 4), .mv (.const (.int .i64 2)), none⟩] [0, 3, 4])
 (.block 0 (.loop [0, 3, 4]
   (.seq (.seq (.reg [
       ⟨(some 5), .mv (.tmp 4), none⟩,
       ⟨(some 6), .mv (.tmp 0), none⟩,
       ⟨(some 7), .bin .leq (.tmp 5) (.tmp 6), none⟩] [0, 3, 4, 7])
   (.cond (.tmp 7)
    (.skip)
    (.exit 0)))
   (.seq (.block 1 (.reg [
        ⟨(some 10), .mv (.tmp 3), none⟩,
        ⟨(some 11), .mv (.tmp 4), none⟩,
        ⟨(some 12), .bin .mul (.tmp 10) (.tmp 11), none⟩,
        ⟨(some 3), .mv (.tmp 12), none⟩] [0, 3, 4]))
   (.reg [
       ⟨(some 8), .mv (.tmp 4), none⟩,
       ⟨(some 9), .bin .add (.tmp 8) (.const (.int .i64 1)), none⟩,
       ⟨(some 4), .mv (.tmp 9), none⟩] [0, 3, 4]))))))
 (.seq (.reg [
     ⟨(some 13), .mv (.tmp 3), none⟩,
     ⟨(some 2), .mv (.tmp 13), none⟩] [2])
 (.ret))))
theorem s_spec_l04Factorial : stripF Tryz.prog 72 [[0], [0, 3], [0, 3, 4], [0, 3, 4], [0, 3, 4, 7], [0, 3, 4], [0, 3, 4], [2]] = some (c_spec_l04Factorial, [.tmp 2], 14) := by kernel_rfl
abbrev f_spec_l04Unrank : Nat := 74
def c_spec_l04Unrank : SC :=
 .seq (.reg [
     ⟨(some 4), .mv (.const (.slice none 0 0)), none⟩] [0, 1])
 (.seq (.reg [
     ⟨(some 10), .mv (.tmp 0), none⟩,
     ⟨(some 11), .call 109 [(.tmp 10)], none⟩,
     ⟨(some 5), .mv (.tmp 11), none⟩] [1, 5])
 (.seq (.reg [
     ⟨(some 12), .bslice 2 1 0 [] [], none⟩,
     ⟨(some 6), .mv (.tmp 12), none⟩] [1, 5, 6])
 (.seq (.block 0 (.loop [1, 5, 6]
   (.seq (.seq (.reg [
       ⟨(some 13), .mv (.tmp 5), none⟩,
       ⟨(some 14), .len (.tmp 13), none⟩,
       ⟨(some 15), .bin .gtr (.tmp 14) (.const (.int .i64 0)), none⟩] [1, 5, 6, 15])
   (.cond (.tmp 15)
    (.skip)
    (.exit 0)))
   (.block 1 (.seq (.reg [
        ⟨(some 16), .mv (.tmp 5), none⟩,
        ⟨(some 17), .len (.tmp 16), none⟩,
        ⟨(some 18), .bin .sub (.tmp 17) (.const (.int .i64 1)), none⟩,
        ⟨(some 19), .call 72 [(.tmp 18)], none⟩,
        ⟨(some 7), .mv (.tmp 19), none⟩] [1, 5, 6, 7])
    (.seq (.reg [
        ⟨(some 20), .mv (.tmp 1), none⟩,
        ⟨(some 21), .mv (.tmp 7), none⟩,
        ⟨(some 22), .bin .quo (.tmp 20) (.tmp 21), none⟩,
        ⟨(some 8), .mv (.tmp 22), none⟩] [1, 5, 6, 7, 8])
    (.seq (.reg [
        ⟨(some 23), .mv (.tmp 1), none⟩,
        ⟨(some 24), .mv (.tmp 7), none⟩,
        ⟨(some 25), .bin .rem (.tmp 23) (.tmp 24), none⟩,
        ⟨(some 1), .mv (.tmp 25), none⟩] [1, 5, 6, 8])
    (.seq (.reg [
        ⟨(some 26), .mv (.tmp 6), none⟩,
        ⟨(some 27), .mv (.tmp 5), none⟩,
        ⟨(some 28), .mv (.tmp 8), none⟩,
        ⟨(some 29), .iaddr 1 (.tmp 27) (.tmp 28), none⟩,
        ⟨(some 30), .load 1 false (.tmp 29), none⟩,
        ⟨(some 31), .bslice 2 1 1 [(.int .i64 0)] [(0, (.tmp 30))], none⟩,
        ⟨(some 32), .app 2 1 8 (.tmp 26) (.tmp 31), none⟩,
        ⟨(some 6), .mv (.tmp 32), none⟩] [1, 5, 6, 8])
    (.seq (.reg [
        ⟨(some 33), .mv (.tmp 5), none⟩,
        ⟨(some 34), .mv (.tmp 8), none⟩,
        ⟨(some 35), .slc 1 (.tmp 33) none (some (.tmp 34)), none⟩,
        ⟨(some 36), .call 107 [(.tmp 35)], none⟩,
        ⟨(some 9), .mv (.tmp 36), none⟩] [1, 5, 6, 8, 9])
    (.reg [
        ⟨(some 37), .mv (.tmp 9), none⟩,
        ⟨(some 38), .mv (.tmp 5), none⟩,
        ⟨(some 39), .mv (.tmp 8), none⟩,
        ⟨(some 40), .bin .add (.tmp 39) (.const (.int .i64 1)), none⟩,
        ⟨(some 41), .slc 1 (.tmp 38) (some (.tmp 40)) none, none⟩,
        ⟨(some 42), .app 2 1 8 (.tmp 37) (.tmp 41), none⟩,
        ⟨(some 5), .mv (.tmp 42), none⟩] [1, 5, 6]))))))))))
 (.seq (.reg [
     ⟨(some 43), .mv (.tmp 6), none⟩,
     ⟨(some 4), .mv (.tmp 43), none⟩] [4])
 (.ret)))))
theorem s_spec_l04Unrank : stripF Tryz.prog 74 [[0, 1], [1, 5], [1, 5, 6], [1, 5, 6], [1, 5, 6, 15], [1, 5, 6, 7], [1, 5, 6, 7, 8], [1, 5, 6, 8], [1, 5, 6, 8], [1, 5, 6, 8, 9], [1, 5, 6], [4]] = some (c_spec_l04Unrank, [.tmp 4], 44) := by kernel_rfl
abbrev f_spec_l04One : Nat := 109
def c_spec_l04One : SC :=
 .seq (.reg [
     ⟨(some 2), .mv (.const (.slice none 0 0)), none⟩] [0])
 (.seq (.reg [
     ⟨(some 5), .bslice 2 1 0 [] [], none⟩,
     ⟨(some 3), .mv (.tmp 5), none⟩] [0, 3])
 (.seq (.seq (.reg [
     ⟨(some 4), .mv (.const (.int .i64 0)), none⟩] [0, 3, 4])
 (.block 0 (.loop [0, 3, 4]
   (.seq (.seq (.reg [
       ⟨(some 6), .mv (.tmp 4), none⟩,
       ⟨(some 7), .mv (.tmp 0), none⟩,
       ⟨(some 8), .bin .lss (.tmp 6) (.tmp 7), none⟩] [0, 3, 4, 8])
   (.cond (.tmp 8)
    (.skip)
    (.exit 0)))
   (.seq (.block 1 (.reg [
        ⟨(some 11), .mv (.tmp 3), none⟩,
        ⟨(some 12), .mv (.tmp 4), none⟩,
        ⟨(some 13), .bslice 2 1 1 [(.int .i64 0)] [(0, (.tmp 12))], none⟩,
        ⟨(some 14), .app 2 1 8 (.tmp 11) (.tmp 13), none⟩,
        ⟨(some 3), .mv (.tmp 14), none⟩] [0, 3, 4]))
   (.reg [
       ⟨(some 9), .mv (.tmp 4), none⟩,
       ⟨(some 10), .bin .add (.tmp 9) (.const (.int .i64 1)), none⟩,
       ⟨(some 4), .mv (.tmp 10), none⟩] [0, 3, 4]))))))
 (.seq (.reg [
     ⟨(some 15), .mv (.tmp 3), none⟩,
     ⟨(some 2), .mv (.tmp 15), none⟩] [2])
 (.ret))))
theorem s_spec_l04One : stripF Tryz.prog 109 [[0], [0, 3], [0, 3, 4], [0, 3, 4], [0, 3, 4, 8], [0, 3, 4], [0, 3, 4], [2]] = some (c_spec_l04One, [.tmp 2], 16) := by kernel_rfl
abbrev f_impl_factorial : Nat := 154
def c_impl_factorial : SC :=
 .seq (.reg [
     ⟨(some 2), .mv (.const (.int .i64 0)), none⟩] [0])
 (.seq (.reg [
     ⟨(some 3), .mv (.const (.int .i64 1)), none⟩] [0, 3])
 (.seq (.seq (.reg [
     ⟨(some 4), .mv (.const (.int .i64 2)), none⟩] [0, 3, 4])
 (.block 0 (.loop [0, 3, 4]
   (.seq (.seq (.reg [
       ⟨(some 5), .mv (.tmp 4), none⟩,
       ⟨(some 6), .mv (.tmp 0), none⟩,
       ⟨(some 7), .bin .leq (.tmp 5) (.tmp 6), none⟩] [0, 3, 4, 7])
   (.cond (.tmp 7)
    (.skip)
    (.exit 0)))
   (.seq (.block 1 (.reg [
        ⟨(some 10), .mv (.tmp 3), none⟩,
        ⟨(some 11), .mv (.tmp 4), none⟩,
        ⟨(some 12), .bin .mul (.tmp 10) (.tmp 11), none⟩,
        ⟨(some 3), .mv (.tmp 12), none⟩] [0, 3, 4]))
   (.reg [
       ⟨(some 8), .mv (.tmp 4), none⟩,
       ⟨(some 9), .bin .add (.tmp 8) (.const (.int .i64 1)), none⟩,
       ⟨(some 4), .mv (.tmp 9), none⟩] [0, 3, 4]))))))
 (.seq (.reg [
     ⟨(some 13), .mv (.tmp 3), none⟩,
     ⟨(some 2), .mv (.tmp 13), none⟩] [2])
 (.ret))))
theorem s_impl_factorial : stripF Tryz.prog 154 [[0], [0, 3], [0, 3, 4], [0, 3, 4], [0, 3, 4, 7], [0, 3, 4], [0, 3, 4], [2]] = some (c_impl_factorial, [.tmp 2], 14) := by kernel_rfl
abbrev f_impl_UnrankPermutation : Nat := 155
def c_impl_UnrankPermutation : SC :=
 .seq (.reg [
     ⟨(some 4), .mv (.const (.slice none 0 0)), none⟩,
     ⟨(some 5), .mv (.const (.int .i64 0)), none⟩] [0, 1])
 (.seq (.seq (.reg [
     ⟨(some 10), .mv (.tmp 0), none⟩,
     ⟨(some 11), .call 46 [(.tmp 10), (.const (.int .i64 0)), (.const (.int .i64 12))], none⟩,
     ⟨(some 12), .un .not (.tmp 11), none⟩,
     ⟨(some 13), .mv (.tmp 12), none⟩,
     ⟨(some 14), .mv (.tmp 1), (some (13, false))⟩,
     ⟨(some 15), .mv (.tmp 0), (some (13, false))⟩,
     ⟨(some 16), .call 154 [(.tmp 15)], (some (13, false))⟩,
     ⟨(some 17), .bin .sub (.tmp 16) (.const (.int .i64 1)), (some (13, false))⟩,
     ⟨(some 18), .call 46 [(.tmp 14), (.const (.int .i64 0)), (.tmp 17)], (some (13, false))⟩,
     ⟨(some 19), .un .not (.tmp 18), (some (13, false))⟩,
     ⟨(some 20), .pick (.tmp 13) (.const (.bool true)) (.tmp 19), none⟩] [0, 1, 20])
 (.cond (.tmp 20)
  (.seq (.reg [
      ⟨(some 4), .mv (.const (.slice none 0 0)), none⟩,
      ⟨(some 5), .mv (.const (.int .i64 2)), none⟩] [4, 5])
  (.ret))
  (.skip)))
 (.seq (.reg [
     ⟨(some 21), .mv (.tmp 0), none⟩,
     ⟨(some 22), .call 140 [(.tmp 21)], none⟩,
     ⟨(some 6), .mv (.tmp 22), none⟩] [0, 1, 6])
 (.seq (.reg [
     ⟨(some 7), .mv (.const (.slice none 0 0)), none⟩] [0, 1, 6, 7])
 (.seq (.seq (.reg [
     ⟨(some 23), .mv (.tmp 0), none⟩,
     ⟨(some 24), .bin .sub (.tmp 23) (.const (.int .i64 1)), none⟩,
     ⟨(some 8), .mv (.tmp 24), none⟩] [1, 6, 7, 8])
 (.block 0 (.loop [1, 6, 7, 8]
   (.seq (.seq (.reg [
       ⟨(some 25), .mv (.tmp 8), none⟩,
       ⟨(some 26), .bin .geq (.tmp 25) (.const (.int .i64 0)), none⟩] [1, 6, 7, 8, 26])
   (.cond (.tmp 26)
    (.skip)
    (.exit 0)))
   (.seq (.block 1 (.seq (.reg [
        ⟨(some 29), .mv (.tmp 1), none⟩,
        ⟨(some 30), .mv (.tmp 8), none⟩,
        ⟨(some 31), .call 154 [(.tmp 30)], none⟩,
        ⟨(some 32), .bin .quo (.tmp 29) (.tmp 31), none⟩,
        ⟨(some 9), .mv (.tmp 32), none⟩] [1, 6, 7, 8, 9])
    (.seq (.reg [
        ⟨(some 33), .mv (.tmp 1), none⟩,
        ⟨(some 34), .mv (.tmp 8), none⟩,
        ⟨(some 35), .call 154 [(.tmp 34)], none⟩,
        ⟨(some 36), .bin .rem (.tmp 33) (.tmp 35), none⟩,
        ⟨(some 1), .mv (.tmp 36), none⟩] [1, 6, 7, 8, 9])
    (.seq (.reg [
        ⟨(some 37), .mv (.tmp 7), none⟩,
        ⟨(some 38), .mv (.tmp 6), none⟩,
        ⟨(some 39), .mv (.tmp 9), none⟩,
        ⟨(some 40), .iaddr 1 (.tmp 38) (.tmp 39), none⟩,
        ⟨(some 41), .load 1 false (.tmp 40), none⟩,
        ⟨(some 42), .bslice 2 1 1 [(.int .i64 0)] [(0, (.tmp 41))], none⟩,
        ⟨(some 43), .app 2 1 8 (.tmp 37) (.tmp 42), none⟩,
        ⟨(some 7), .mv (.tmp 43), none⟩] [1, 6, 7, 8, 9])
    (.reg [
        ⟨(some 44), .mv (.tmp 6), none⟩,
        ⟨(some 45), .mv (.tmp 9), none⟩,
        ⟨(some 46), .mv (.tmp 9), none⟩,
        ⟨(some 47), .bin .add (.tmp 46) (.const (.int .i64 1)), none⟩,
        ⟨(some 48), .call 181 [(.tmp 44), (.tmp 45), (.tmp 47)], none⟩,
        ⟨(some 6), .mv (.tmp 48), none⟩] [1, 6, 7, 8])))))
   (.reg [
       ⟨(some 27), .mv (.tmp 8), none⟩,
       ⟨(some 28), .bin .sub (.tmp 27) (.const (.int .i64 1)), none⟩,
       ⟨(some 8), .mv (.tmp 28), none⟩] [1, 6, 7, 8]))))))
 (.seq (.reg [
     ⟨(some 49), .mv (.tmp 7), none⟩,
     ⟨(some 4), .mv (.tmp 49), none⟩,
     ⟨(some 5), .mv (.const (.int .i64 0)), none⟩] [4, 5])
 (.ret))))))
theorem s_impl_UnrankPermutation : stripF Tryz.prog 155 [[0, 1], [0, 1, 20], [4, 5], [0, 1, 6], [0, 1, 6, 7], [1, 6, 7, 8], [1, 6, 7, 8], [1, 6, 7, 8, 26], [1, 6, 7, 8, 9], [1, 6, 7, 8, 9], [1, 6, 7, 8, 9], [1, 6, 7, 8], [1, 6, 7, 8], [4, 5]] = some (c_impl_UnrankPermutation, [.tmp 4, .tmp 5], 50) := by kernel_rfl
theorem identity_newB (k : Nat) (hk : k ≤ 2000000) : NewS Tryz.prog f_impl_identity [I k] (idL k) := by
  intro H
  refine ACalls.introB s_impl_identity (by simp) ?_; intro hB hA; unfold c_impl_identity; simp (config := { maxSteps := 1000000 }) (disch := (first | omega | (simp only [go_sem]; try omega))) only [go_sem, Nat.reduceAdd, Nat.reduceEqDiff, Nat.reduceLeDiff, Nat.reduceMul, Nat.reduceLT, reduceIte, Int.reduceToNat, w64_id, cast_succ]
  repeat (first | (with_reducible first | refine SW.seq ?_ | refine SW.block ?_ | refine SW.rowC ?_ | refine SW.skip ?_ | refine SW.exit ?_ | intro _ | refine And.intro (by omega) ?_) | simp (config := { maxSteps := 1000000 }) (disch := (first | omega | (simp only [go_sem]; try omega))) only [go_sem, Nat.reduceAdd, Nat.reduceEqDiff, Nat.reduceLeDiff, Nat.reduceMul, Nat.reduceLT, reduceIte, Int.reduceToNat, w64_id, cast_succ])
  rw [tab_rep]
  refine SW.loopE (fun E0 H0 q E' H' => ∃ m : Nat, m ≤ k ∧ q = k - m ∧ E' = aput E0 9 (I m) ∧ H' = H ++ [⟨0, 2, 1, (tab k fun j => if j < m then (j : Int) else 0).map I⟩]) k ⟨0, by omega, by omega, rfl, by simp⟩ ?_
  rintro q E' H' ⟨m, hm, rfl, rfl, rfl⟩
  simp (config := { maxSteps := 1000000 }) (disch := (first | omega | (simp only [go_sem]; try omega))) only [go_sem, Nat.reduceAdd, Nat.reduceEqDiff, Nat.reduceLeDiff, Nat.reduceMul, Nat.reduceLT, reduceIte, Int.reduceToNat, w64_id, cast_succ]
  repeat (first | (with_reducible first | refine SW.seq ?_ | refine SW.block ?_ | refine SW.rowC ?_ | refine SW.skip ?_ | refine SW.exit ?_ | intro _ | refine And.intro (by omega) ?_) | simp (config := { maxSteps := 1000000 }) (disch := (first | omega | (simp only [go_sem]; try omega))) only [go_sem, Nat.reduceAdd, Nat.reduceEqDiff, Nat.reduceLeDiff, Nat.reduceMul, Nat.reduceLT, reduceIte, Int.reduceToNat, w64_id, cast_succ])
  have hll := tab_length k fun j => if j < m then (j : Int) else 0
  (first | refine SW.condD rfl (fun h => ?_) (fun h => ?_) | refine SW.condN rfl (fun h => ?_) (fun h => ?_) | refine SW.condNB rfl (fun h => ?_) (fun h => ?_) | refine SW.condB rfl (fun h => ?_) (fun h => ?_))
  · repeat (first | (with_reducible first | refine SW.seq ?_ | refine SW.block ?_ | refine SW.rowC ?_ | refine SW.skip ?_ | refine SW.exit ?_ | intro _ | refine And.intro (by omega) ?_) | simp (config := { maxSteps := 1000000 }) (disch := (first | omega | (simp only [go_sem]; try omega))) only [go_sem, Nat.reduceAdd, Nat.reduceEqDiff, Nat.reduceLeDiff, Nat.reduceMul, Nat.reduceLT, reduceIte, Int.reduceToNat, w64_id, cast_succ, take_tab])
    refine SLoop.next (k - (m + 1)) (by omega) ⟨m + 1, by omega, rfl, ?_, ?_⟩
    · simp [go_sem]
    · rw [tab_set]
      congr 4
      exact tab_congr fun j hj => by
        by_cases hjm : j = m
        · subst hjm; rw [if_pos rfl, if_pos (by omega)]
        · rw [if_neg hjm]
          by_cases h2 : j < m
          · rw [if_pos h2, if_pos (by omega)]
          · rw [if_neg h2, if_neg (by omega)]
  · have : m = k := by omega
    subst this
    repeat (first | (with_reducible first | refine SW.seq ?_ | refine SW.block ?_ | refine SW.rowC ?_ | refine SW.skip ?_ | refine SW.exit ?_ | intro _ | refine And.intro (by omega) ?_) | simp (config := { maxSteps := 1000000 }) (disch := (first | omega | (simp only [go_sem]; try omega))) only [go_sem, Nat.reduceAdd, Nat.reduceEqDiff, Nat.reduceLeDiff, Nat.reduceMul, Nat.reduceLT, reduceIte, Int.reduceToNat, w64_id, cast_succ])
    refine SW.ret ?_; (try simp only [go_sem]); (first | refine FunPost.one ?_ | refine FunPost.two ?_ | refine FunPost.three ?_); (try simp (config := { maxSteps := 1000000 }) (disch := (first | omega | (simp only [go_sem]; try omega))) only [go_sem, Nat.reduceAdd, Nat.reduceEqDiff, Nat.reduceLeDiff, Nat.reduceMul, Nat.reduceLT, reduceIte, Int.reduceToNat, w64_id, cast_succ])
    have he : (tab m fun j => if j < m then (j : Int) else 0) = idL m := by
      rw [idL]; exact tab_congr fun j hj => by rw [if_pos hj]
    have hl2 : (idL m).length = m := by rw [idL, tab_length]
    rw [he]
    have := @GR.oneS H [⟨0, 2, 1, (idL m).map I⟩] H.length 0 (idL m) (Nat.le_refl _) (by simp)
    rw [hl2] at this ⊢
    exact this
theorem fct_le {n : Nat} (h : n ≤ 6) : fct n ≤ 720 := by
  have : n = 0 ∨ n = 1 ∨ n = 2 ∨ n = 3 ∨ n = 4 ∨ n = 5 ∨ n = 6 := by omega
  rcases this with rfl | rfl | rfl | rfl | rfl | rfl | rfl <;> decide
theorem implFact_fn (n : Nat) (hn : n ≤ 6) : PFn Tryz.prog f_impl_factorial [I n] (I (fct n)) := by
  intro H; refine ACalls.introB s_impl_factorial (by simp) ?_; intro hB hA; unfold c_impl_factorial; simp (config := { maxSteps := 1000000 }) (disch := (first | omega | (simp only [go_sem]; try omega))) only [go_sem, Nat.reduceAdd, Nat.reduceEqDiff, Nat.reduceLeDiff, Nat.reduceMul, Nat.reduceLT, reduceIte, Int.reduceToNat, w64_id, cast_succ]
  repeat (first | (with_reducible first | refine SW.seq ?_ | refine SW.block ?_ | refine SW.rowC ?_ | refine SW.skip ?_ | refine SW.exit ?_ | intro _ | refine And.intro (by omega) ?_) | simp (config := { maxSteps := 1000000 }) (disch := (first | omega | (simp only [go_sem]; try omega))) only [go_sem, Nat.reduceAdd, Nat.reduceEqDiff, Nat.reduceLeDiff, Nat.reduceMul, Nat.reduceLT, reduceIte, Int.reduceToNat, w64_id, cast_succ])
  generalize hZ : fct n = Z
  refine SW.loopE (fun E0 H0 q E' H' => ∃ k : Nat, 1 ≤ k ∧ (k ≤ n ∨ k = 1) ∧ k + q = n + 1 ∧ E' = aput (aput E0 4 (I (k + 1 : Nat))) 3 (I (fct k)) ∧ H' = H0) n ⟨1, by omega, by omega, by omega, rfl, rfl⟩ ?_
  rintro q E' H' ⟨k, hk1, hkn, hq, rfl, rfl⟩
  have hfk := fct_le (n := k) (by omega)
  have e1 : (fct k : Int) * ((k + 1 : Nat) : Int) = ((fct (k + 1) : Nat) : Int) := by rw [fct, Nat.mul_comm]; simp
  simp (config := { maxSteps := 1000000 }) (disch := (first | omega | (simp only [go_sem]; try omega))) only [go_sem, Nat.reduceAdd, Nat.reduceEqDiff, Nat.reduceLeDiff, Nat.reduceMul, Nat.reduceLT, reduceIte, Int.reduceToNat, w64_id, cast_succ]
  repeat (first | (with_reducible first | refine SW.seq ?_ | refine SW.block ?_ | refine SW.rowC ?_ | refine SW.skip ?_ | refine SW.exit ?_ | intro _ | refine And.intro (by omega) ?_) | simp (config := { maxSteps := 1000000 }) (disch := (first | omega | (simp only [go_sem]; try omega))) only [go_sem, Nat.reduceAdd, Nat.reduceEqDiff, Nat.reduceLeDiff, Nat.reduceMul, Nat.reduceLT, reduceIte, Int.reduceToNat, w64_id, cast_succ])
  (first | refine SW.condD rfl (fun h => ?_) (fun h => ?_) | refine SW.condN rfl (fun h => ?_) (fun h => ?_) | refine SW.condNB rfl (fun h => ?_) (fun h => ?_) | refine SW.condB rfl (fun h => ?_) (fun h => ?_))
  · have hfk1 := fct_le (n := k + 1) (by omega)
    repeat (first | (with_reducible first | refine SW.seq ?_ | refine SW.block ?_ | refine SW.rowC ?_ | refine SW.skip ?_ | refine SW.exit ?_ | intro _ | refine And.intro (by omega) ?_) | simp (config := { maxSteps := 1000000 }) (disch := (first | omega | (simp only [go_sem]; try omega))) only [go_sem, Nat.reduceAdd, Nat.reduceEqDiff, Nat.reduceLeDiff, Nat.reduceMul, Nat.reduceLT, reduceIte, Int.reduceToNat, w64_id, cast_succ, e1])
    refine SLoop.next (q - 1) (by omega) ⟨k + 1, by omega, by omega, by omega, ?_, rfl⟩
    simp [go_sem]
  · repeat (first | (with_reducible first | refine SW.seq ?_ | refine SW.block ?_ | refine SW.rowC ?_ | refine SW.skip ?_ | refine SW.exit ?_ | intro _ | refine And.intro (by omega) ?_) | simp (config := { maxSteps := 1000000 }) (disch := (first | omega | (simp only [go_sem]; try omega))) only [go_sem, Nat.reduceAdd, Nat.reduceEqDiff, Nat.reduceLeDiff, Nat.reduceMul, Nat.reduceLT, reduceIte, Int.reduceToNat, w64_id, cast_succ])
    refine SW.ret ?_; (try simp only [go_sem]); (first | refine FunPost.one ?_ | refine FunPost.two ?_ | refine FunPost.three ?_); (try simp (config := { maxSteps := 1000000 }) (disch := (first | omega | (simp only [go_sem]; try omega))) only [go_sem, Nat.reduceAdd, Nat.reduceEqDiff, Nat.reduceLeDiff, Nat.reduceMul, Nat.reduceLT, reduceIte, Int.reduceToNat, w64_id, cast_succ]); (first | (with_reducible refine GR.drop ?_ ?_; (simp only [go_sem, and_self, and_true, true_and, implies_true, List.take_succ_cons, List.take_zero])) | refine GR.of ?_); refine ⟨?_, rfl⟩; (try with_reducible rfl)
    have : fct k = Z := by
      rw [← hZ]
      rcases hkn with h1 | h1
      · rw [show k = n by omega]
      · subst h1
        have : n = 0 ∨ n = 1 := by omega
        rcases this with rfl | rfl <;> rfl
    rw [this]
theorem specFact_fn (n : Nat) (hn : n ≤ 6) : PFn Tryz.prog f_spec_l04Factorial [I n] (I (fct n)) := by
  intro H; refine ACalls.introB s_spec_l04Factorial (by simp) ?_; intro hB hA; unfold c_spec_l04Factorial; simp (config := { maxSteps := 1000000 }) (disch := (first | omega | (simp only [go_sem]; try omega))) only [go_sem, Nat.reduceAdd, Nat.reduceEqDiff, Nat.reduceLeDiff, Nat.reduceMul, Nat.reduceLT, reduceIte, Int.reduceToNat, w64_id, cast_succ]
  repeat (first | (with_reducible first | refine SW.seq ?_ | refine SW.block ?_ | refine SW.rowC ?_ | refine SW.skip ?_ | refine SW.exit ?_ | intro _ | refine And.intro (by omega) ?_) | simp (config := { maxSteps := 1000000 }) (disch := (first | omega | (simp only [go_sem]; try omega))) only [go_sem, Nat.reduceAdd, Nat.reduceEqDiff, Nat.reduceLeDiff, Nat.reduceMul, Nat.reduceLT, reduceIte, Int.reduceToNat, w64_id, cast_succ])
  generalize hZ : fct n = Z
  refine SW.loopE (fun E0 H0 q E' H' => ∃ k : Nat, 1 ≤ k ∧ (k ≤ n ∨ k = 1) ∧ k + q = n + 1 ∧ E' = aput (aput E0 4 (I (k + 1 : Nat))) 3 (I (fct k)) ∧ H' = H0) n ⟨1, by omega, by omega, by omega, rfl, rfl⟩ ?_
  rintro q E' H' ⟨k, hk1, hkn, hq, rfl, rfl⟩
  have hfk := fct_le (n := k) (by omega)
  have e1 : (fct k : Int) * ((k + 1 : Nat) : Int) = ((fct (k + 1) : Nat) : Int) := by rw [fct, Nat.mul_comm]; simp
  simp (config := { maxSteps := 1000000 }) (disch := (first | omega | (simp only [go_sem]; try omega))) only [go_sem, Nat.reduceAdd, Nat.reduceEqDiff, Nat.reduceLeDiff, Nat.reduceMul, Nat.reduceLT, reduceIte, Int.reduceToNat, w64_id, cast_succ]
  repeat (first | (with_reducible first | refine SW.seq ?_ | refine SW.block ?_ | refine SW.rowC ?_ | refine SW.skip ?_ | refine SW.exit ?_ | intro _ | refine And.intro (by omega) ?_) | simp (config := { maxSteps := 1000000 }) (disch := (first | omega | (simp only [go_sem]; try omega))) only [go_sem, Nat.reduceAdd, Nat.reduceEqDiff, Nat.reduceLeDiff, Nat.reduceMul, Nat.reduceLT, reduceIte, Int.reduceToNat, w64_id, cast_succ])
  (first | refine SW.condD rfl (fun h => ?_) (fun h => ?_) | refine SW.condN rfl (fun h => ?_) (fun h => ?_) | refine SW.condNB rfl (fun h => ?_) (fun h => ?_) | refine SW.condB rfl (fun h => ?_) (fun h => ?_))
  · have hfk1 := fct_le (n := k + 1) (by omega)
    repeat (first | (with_reducible first | refine SW.seq ?_ | refine SW.block ?_ | refine SW.rowC ?_ | refine SW.skip ?_ | refine SW.exit ?_ | intro _ | refine And.intro (by omega) ?_) | simp (config := { maxSteps := 1000000 }) (disch := (first | omega | (simp only [go_sem]; try omega))) only [go_sem, Nat.reduceAdd, Nat.reduceEqDiff, Nat.reduceLeDiff, Nat.reduceMul, Nat.reduceLT, reduceIte, Int.reduceToNat, w64_id, cast_succ, e1])
    refine SLoop.next (q - 1) (by omega) ⟨k + 1, by omega, by omega, by omega, ?_, rfl⟩
    simp [go_sem]
  · repeat (first | (with_reducible first | refine SW.seq ?_ | refine SW.block ?_ | refine SW.rowC ?_ | refine SW.skip ?_ | refine SW.exit ?_ | intro _ | refine And.intro (by omega) ?_) | simp (config := { maxSteps := 1000000 }) (disch := (first | omega | (simp only [go_sem]; try omega))) only [go_sem, Nat.reduceAdd, Nat.reduceEqDiff, Nat.reduceLeDiff, Nat.reduceMul, Nat.reduceLT, reduceIte, Int.reduceToNat, w64_id, cast_succ])
    refine SW.ret ?_; (try simp only [go_sem]); (first | refine FunPost.one ?_ | refine FunPost.two ?_ | refine FunPost.three ?_); (try simp (config := { maxSteps := 1000000 }) (disch := (first | omega | (simp only [go_sem]; try omega))) only [go_sem, Nat.reduceAdd, Nat.reduceEqDiff, Nat.reduceLeDiff, Nat.reduceMul, Nat.reduceLT, reduceIte, Int.reduceToNat, w64_id, cast_succ]); (first | (with_reducible refine GR.drop ?_ ?_; (simp only [go_sem, and_self, and_true, true_and, implies_true, List.take_succ_cons, List.take_zero])) | refine GR.of ?_); refine ⟨?_, rfl⟩; (try with_reducible rfl)
    have : fct k = Z := by
      rw [← hZ]
      rcases hkn with h1 | h1
      · rw [show k = n by omega]
      · subst h1
        have : n = 0 ∨ n = 1 := by omega
        rcases this with rfl | rfl <;> rfl
    rw [this]
theorem l04One_fn (n : Nat) (hn : n ≤ 6) : PFn Tryz.prog f_spec_l04One [I n] (ilS (idL n)) := by
  intro H; refine ACalls.introB s_spec_l04One (by simp) ?_; intro hB hA; unfold c_spec_l04One; simp (config := { maxSteps := 1000000 }) (disch := (first | omega | (simp only [go_sem]; try omega))) only [go_sem, Nat.reduceAdd, Nat.reduceEqDiff, Nat.reduceLeDiff, Nat.reduceMul, Nat.reduceLT, reduceIte, Int.reduceToNat, w64_id, cast_succ]
  repeat (first | (with_reducible first | refine SW.seq ?_ | refine SW.block ?_ | refine SW.rowC ?_ | refine SW.skip ?_ | refine SW.exit ?_ | intro _ | refine And.intro (by omega) ?_) | simp (config := { maxSteps := 1000000 }) (disch := (first | omega | (simp only [go_sem]; try omega))) only [go_sem, Nat.reduceAdd, Nat.reduceEqDiff, Nat.reduceLeDiff, Nat.reduceMul, Nat.reduceLT, reduceIte, Int.reduceToNat, w64_id, cast_succ])
  refine SW.loopE (fun E0 H0 q E' H' => ∃ m ver : Nat, m ≤ n ∧ q = n - m ∧ E' = aput (aput E0 4 (I m)) 3 (.nm H.length ver 0 (idL m).length) ∧ H' = H ++ [⟨ver, 2, 1, (idL m).map I⟩]) n ⟨0, 0, by omega, by omega, rfl, rfl⟩ ?_
  rintro q E' H' ⟨m, ver, hm, rfl, rfl, rfl⟩
  have hil : idL (m + 1) = idL m ++ [(m : Int)] := by simp [idL, tab, List.range_succ]
  have hll : (idL m).length = m := by simp [idL, tab]
  have htl : ((idL m).map I).take m = (idL m).map I := List.take_of_length_le (by simp [hll])
  simp (config := { maxSteps := 1000000 }) (disch := (first | omega | (simp only [go_sem]; try omega))) only [go_sem, Nat.reduceAdd, Nat.reduceEqDiff, Nat.reduceLeDiff, Nat.reduceMul, Nat.reduceLT, reduceIte, Int.reduceToNat, w64_id, cast_succ]
  repeat (first | (with_reducible first | refine SW.seq ?_ | refine SW.block ?_ | refine SW.rowC ?_ | refine SW.skip ?_ | refine SW.exit ?_ | intro _ | refine And.intro (by omega) ?_) | simp (config := { maxSteps := 1000000 }) (disch := (first | omega | (simp only [go_sem]; try omega))) only [go_sem, Nat.reduceAdd, Nat.reduceEqDiff, Nat.reduceLeDiff, Nat.reduceMul, Nat.reduceLT, reduceIte, Int.reduceToNat, w64_id, cast_succ])
  (first | refine SW.condD rfl (fun h => ?_) (fun h => ?_) | refine SW.condN rfl (fun h => ?_) (fun h => ?_) | refine SW.condNB rfl (fun h => ?_) (fun h => ?_) | refine SW.condB rfl (fun h => ?_) (fun h => ?_))
  · repeat (first | (with_reducible first | refine SW.seq ?_ | refine SW.block ?_ | refine SW.rowC ?_ | refine SW.skip ?_ | refine SW.exit ?_ | intro _ | refine And.intro (by omega) ?_) | simp (config := { maxSteps := 1000000 }) (disch := (first | omega | (simp only [go_sem]; try omega))) only [go_sem, Nat.reduceAdd, Nat.reduceEqDiff, Nat.reduceLeDiff, Nat.reduceMul, Nat.reduceLT, reduceIte, Int.reduceToNat, w64_id, cast_succ, hll, htl])
    refine SLoop.nextT 1 (n - (m + 1)) hB (by omega) (by omega) (by simp) ?_ ?_ ⟨m + 1, ver + 1, by omega, rfl, ?_, ?_⟩
    · (simp only [go_sem, Nat.reduceAdd, Nat.reduceEqDiff, reduceIte, go_sem, and_self, and_true, true_and, implies_true, List.take_succ_cons, List.take_zero, and_true, true_and]; try omega)
    · (simp only [go_sem, Nat.reduceAdd, Nat.reduceEqDiff, reduceIte, go_sem, and_self, and_true, true_and, implies_true, List.take_succ_cons, List.take_zero, and_true, true_and]; try omega)
    · rw [hil]; simp [go_sem, hll]
    · rw [hil]; simp
  · have : m = n := by omega
    subst this
    repeat (first | (with_reducible first | refine SW.seq ?_ | refine SW.block ?_ | refine SW.rowC ?_ | refine SW.skip ?_ | refine SW.exit ?_ | intro _ | refine And.intro (by omega) ?_) | simp (config := { maxSteps := 1000000 }) (disch := (first | omega | (simp only [go_sem]; try omega))) only [go_sem, Nat.reduceAdd, Nat.reduceEqDiff, Nat.reduceLeDiff, Nat.reduceMul, Nat.reduceLT, reduceIte, Int.reduceToNat, w64_id, cast_succ])
    refine SW.ret ?_; (try simp only [go_sem]); (first | refine FunPost.one ?_ | refine FunPost.two ?_ | refine FunPost.three ?_); (try simp (config := { maxSteps := 1000000 }) (disch := (first | omega | (simp only [go_sem]; try omega))) only [go_sem, Nat.reduceAdd, Nat.reduceEqDiff, Nat.reduceLeDiff, Nat.reduceMul, Nat.reduceLT, reduceIte, Int.reduceToNat, w64_id, cast_succ])
    exact GR.froz (froz_rowI (r := H.length) (ver := ver) (ty := 2) (Nat.le_refl _) (by simp)) ⟨rfl, rfl⟩
theorem UnrankB_fn (n rank : Nat) (hn : n ≤ 6) (hr : rank < fct n) : PFn Tryz.prog f_impl_UnrankPermutation [I n, I rank] (.tup [ilS (perm n rank), I 0]) := by
  intro H; refine ACalls.introB s_impl_UnrankPermutation (by simp) ?_; intro hB hA; unfold c_impl_UnrankPermutation; simp (config := { maxSteps := 1000000 }) (disch := (first | omega | (simp only [go_sem]; try omega))) only [go_sem, Nat.reduceAdd, Nat.reduceEqDiff, Nat.reduceLeDiff, Nat.reduceMul, Nat.reduceLT, reduceIte, Int.reduceToNat, w64_id, cast_succ]
  have hf := fct_le hn
  have h1 : (decide ((0 : Int) ≤ (n : Int)) && decide ((n : Int) ≤ 12)) = true := by simp; omega
  have h2 : (decide ((0 : Int) ≤ (rank : Int)) && decide ((rank : Int) ≤ ((fct n : Nat) : Int) - 1)) = true := by simp; omega
  repeat (first | (with_reducible first | refine SW.seq ?_ | refine SW.block ?_ | refine SW.rowC ?_ | refine SW.skip ?_ | refine SW.exit ?_ | refine PFn.use (within_fn _ _ _) ?_ | refine PFn.useq (within_fn _ _ _) ?_ | refine PFn.use (implFact_fn n hn) ?_ | refine PFn.useq (implFact_fn n hn) ?_ | intro _ | refine And.intro (by omega) ?_) | simp (config := { maxSteps := 1000000 }) (disch := (first | omega | (simp only [go_sem]; try omega))) only [go_sem, Nat.reduceAdd, Nat.reduceEqDiff, Nat.reduceLeDiff, Nat.reduceMul, Nat.reduceLT, reduceIte, Int.reduceToNat, w64_id, cast_succ, h1, h2])
  refine SW.condF rfl ?_
  repeat (first | (with_reducible first | refine SW.seq ?_ | refine SW.block ?_ | refine SW.rowC ?_ | refine SW.skip ?_ | refine SW.exit ?_ | intro _ | refine And.intro (by omega) ?_) | simp (config := { maxSteps := 1000000 }) (disch := (first | omega | (simp only [go_sem]; try omega))) only [go_sem, Nat.reduceAdd, Nat.reduceEqDiff, Nat.reduceLeDiff, Nat.reduceMul, Nat.reduceLT, reduceIte, Int.reduceToNat, w64_id, cast_succ])
  refine (identity_newB n (by omega) _).mono ?_
  rintro r H' ⟨rfl, rfl⟩
  repeat (first | (with_reducible first | refine SW.seq ?_ | refine SW.block ?_ | refine SW.rowC ?_ | refine SW.skip ?_ | refine SW.exit ?_ | intro _ | refine And.intro (by omega) ?_) | simp (config := { maxSteps := 1000000 }) (disch := (first | omega | (simp only [go_sem]; try omega))) only [go_sem, Nat.reduceAdd, Nat.reduceEqDiff, Nat.reduceLeDiff, Nat.reduceMul, Nat.reduceLT, reduceIte, Int.reduceToNat, w64_id, cast_succ])
  refine SW.ghost (Gh.name 7 2 1 rfl) ?_
  simp (config := { maxSteps := 1000000 }) (disch := (first | omega | (simp only [go_sem]; try omega))) only [go_sem, Nat.reduceAdd, Nat.reduceEqDiff, Nat.reduceLeDiff, Nat.reduceMul, Nat.reduceLT, reduceIte, Int.reduceToNat, w64_id, cast_succ]
  have hil := (idL_ok n).1
  have hZ : perm n rank = unr n (idL n) rank := rfl
  generalize perm n rank = Z at *
  refine SW.loopE (fun E0 H0 q E' H' => ∃ (left acc : List Int) (r vp : Nat), q ≤ n ∧ left.length = q ∧ r < fct q ∧ Z = acc ++ unr q left r ∧ acc.length + q = n ∧ E' = aput (aput (aput (aput E0 1 (I r)) 6 (.nm H.length 0 0 left.length)) 7 (.nm (H.length + 1) vp 0 acc.length)) 8 (I ((q : Int) - 1)) ∧ H' = H ++ [⟨0, 2, 1, left.map I⟩, ⟨vp, 2, 1, acc.map I⟩]) n ⟨idL n, [], rank, 0, by omega, hil, hr, hZ, by simp, by simp [go_sem], by simp⟩ ?_
  rintro q E' H' ⟨left, acc, r, vp, hqn, hll, hrq, hZq, hal, rfl, rfl⟩
  have htl : (acc.map I).take acc.length = acc.map I := List.take_of_length_le (by simp)
  simp (config := { maxSteps := 1000000 }) (disch := (first | omega | (simp only [go_sem]; try omega))) only [go_sem, Nat.reduceAdd, Nat.reduceEqDiff, Nat.reduceLeDiff, Nat.reduceMul, Nat.reduceLT, reduceIte, Int.reduceToNat, w64_id, cast_succ]
  repeat (first | (with_reducible first | refine SW.seq ?_ | refine SW.block ?_ | refine SW.rowC ?_ | refine SW.skip ?_ | refine SW.exit ?_ | intro _ | refine And.intro (by omega) ?_) | simp (config := { maxSteps := 1000000 }) (disch := (first | omega | (simp only [go_sem]; try omega))) only [go_sem, Nat.reduceAdd, Nat.reduceEqDiff, Nat.reduceLeDiff, Nat.reduceMul, Nat.reduceLT, reduceIte, Int.reduceToNat, w64_id, cast_succ])
  (first | refine SW.condD rfl (fun h3 => ?_) (fun h3 => ?_) | refine SW.condN rfl (fun h3 => ?_) (fun h3 => ?_) | refine SW.condNB rfl (fun h3 => ?_) (fun h3 => ?_) | refine SW.condB rfl (fun h3 => ?_) (fun h3 => ?_))
  · obtain ⟨j, rfl⟩ : ∃ j, q = j + 1 := ⟨q - 1, by omega⟩
    have e0 : ((j + 1 : Nat) : Int) - 1 = (j : Int) := by omega
    have hfj := fct_le (n := j) (by omega)
    have hfj1 := fct_le (n := j + 1) (by omega)
    have hfp := fct_pos j
    have hat : r / fct j < j + 1 := Nat.div_lt_of_lt_mul (by rw [Nat.mul_comm]; exact hrq)
    have hmd := Nat.mod_lt r hfp
    have hfz : ¬ ((fct j : Nat) : Int) = 0 := by omega
    have hun : unr (j + 1) left r = left.getD (r / fct j) 0 :: unr j (left.eraseIdx (r / fct j)) (r % fct j) := rfl
    have hd1 : ((r : Int)).tdiv ((fct j : Nat) : Int) = ((r / fct j : Nat) : Int) := tdivN
    have hm1 : ((r : Int)).tmod ((fct j : Nat) : Int) = ((r % fct j : Nat) : Int) := tmodN
    rw [hun] at hZq
    generalize r / fct j = d at *
    generalize r % fct j = e at *
    have hlt : d < left.length := by omega
    have hed : left.take d ++ left.drop (d + 1) = left.eraseIdx d := (List.eraseIdx_eq_take_drop_succ left d).symm
    have hel : (left.eraseIdx d).length = left.length - 1 := by rw [List.length_eraseIdx_of_lt hlt]
    have htl2 : (left.map I).take left.length = left.map I := List.take_of_length_le (by simp)
    repeat (first | (with_reducible first | refine SW.seq ?_ | refine SW.block ?_ | refine SW.rowC ?_ | refine SW.skip ?_ | refine SW.exit ?_ | refine PFn.use (implFact_fn j (by omega)) ?_ | refine PFn.useq (implFact_fn j (by omega)) ?_ | intro _ | refine And.intro (by omega) ?_) | simp (config := { maxSteps := 1000000 }) (disch := (first | omega | (simp only [go_sem]; try omega))) only [go_sem, Nat.reduceAdd, Nat.reduceEqDiff, Nat.reduceLeDiff, Nat.reduceMul, Nat.reduceLT, reduceIte, Int.reduceToNat, w64_id, cast_succ, e0, hd1, hm1, htl, htl2])
    refine (delI_ok delL_p _ H.length 0 2 left d (d + 1) (by simp) (by omega) (by omega) (by omega)).mono ?_
    rintro r1 H' ⟨rfl, rfl⟩
    rw [hed, show left.length - (d + 1 - d) = (left.eraseIdx d).length by omega]
    have htl3 : (List.map I (acc ++ [left.getD d 0])).take (acc.length + 1) = List.map I (acc ++ [left.getD d 0]) := List.take_of_length_le (by simp)
    repeat (first | (with_reducible first | refine SW.seq ?_ | refine SW.block ?_ | refine SW.rowC ?_ | refine SW.skip ?_ | refine SW.exit ?_ | intro _ | refine And.intro (by omega) ?_) | simp (config := { maxSteps := 1000000 }) (disch := (first | omega | (simp only [go_sem]; try omega))) only [go_sem, Nat.reduceAdd, Nat.reduceEqDiff, Nat.reduceLeDiff, Nat.reduceMul, Nat.reduceLT, reduceIte, Int.reduceToNat, w64_id, cast_succ, htl3])
    refine SLoop.nextT 2 j hB (by omega) (by omega) (by simp) ?_ ?_ ⟨left.eraseIdx d, acc ++ [left.getD d 0], e, vp + 1, by omega, by omega, hmd, by rw [hZq]; simp, by simp; omega, ?_, ?_⟩
    · (simp only [go_sem, Nat.reduceAdd, Nat.reduceEqDiff, reduceIte, go_sem, and_self, and_true, true_and, implies_true, List.take_succ_cons, List.take_zero, and_true, true_and]; try omega)
    · (simp only [go_sem, Nat.reduceAdd, Nat.reduceEqDiff, reduceIte, go_sem, and_self, and_true, true_and, implies_true, List.take_succ_cons, List.take_zero, and_true, true_and]; try omega)
    · simp [go_sem]
    · simp
  · have : q = 0 := by omega
    subst this
    rw [hZq]
    repeat (first | (with_reducible first | refine SW.seq ?_ | refine SW.block ?_ | refine SW.rowC ?_ | refine SW.skip ?_ | refine SW.exit ?_ | intro _ | refine And.intro (by omega) ?_) | simp (config := { maxSteps := 1000000 }) (disch := (first | omega | (simp only [go_sem]; try omega))) only [go_sem, Nat.reduceAdd, Nat.reduceEqDiff, Nat.reduceLeDiff, Nat.reduceMul, Nat.reduceLT, reduceIte, Int.reduceToNat, w64_id, cast_succ])
    refine SW.ret ?_; (try simp only [go_sem]); (first | refine FunPost.one ?_ | refine FunPost.two ?_ | refine FunPost.three ?_); (try simp (config := { maxSteps := 1000000 }) (disch := (first | omega | (simp only [go_sem]; try omega))) only [go_sem, Nat.reduceAdd, Nat.reduceEqDiff, Nat.reduceLeDiff, Nat.reduceMul, Nat.reduceLT, reduceIte, Int.reduceToNat, w64_id, cast_succ])
    refine GR.froz (r' := .tup [ilS (acc ++ unr 0 left r), I 0]) ?_ ⟨rfl, rfl⟩
    rw [show unr 0 left r = [] from rfl, List.append_nil]
    exact froz_tup2 (froz_rowI (r := H.length + 1) (ver := vp) (ty := 2) (by omega) (by simp)) (froz_I' _)
theorem l04Unrank_fn (n rank : Nat) (hn : n ≤ 6) (hr : rank < fct n) : PFn Tryz.prog f_spec_l04Unrank [I n, I rank] (ilS (perm n rank)) := by
  intro H; refine ACalls.introB s_spec_l04Unrank (by simp) ?_; intro hB hA; unfold c_spec_l04Unrank; simp (config := { maxSteps := 1000000 }) (disch := (first | omega | (simp only [go_sem]; try omega))) only [go_sem, Nat.reduceAdd, Nat.reduceEqDiff, Nat.reduceLeDiff, Nat.reduceMul, Nat.reduceLT, reduceIte, Int.reduceToNat, w64_id, cast_succ]
  have hf := fct_le hn
  repeat (first | (with_reducible first | refine SW.seq ?_ | refine SW.block ?_ | refine SW.rowC ?_ | refine SW.skip ?_ | refine SW.exit ?_ | refine PFn.use (l04One_fn n hn) ?_ | refine PFn.useq (l04One_fn n hn) ?_ | intro _ | refine And.intro (by omega) ?_) | simp (config := { maxSteps := 1000000 }) (disch := (first | omega | (simp only [go_sem]; try omega))) only [go_sem, Nat.reduceAdd, Nat.reduceEqDiff, Nat.reduceLeDiff, Nat.reduceMul, Nat.reduceLT, reduceIte, Int.reduceToNat, w64_id, cast_succ])
  have hil := (idL_ok n).1
  have hZ : perm n rank = unr n (idL n) rank := rfl
  generalize perm n rank = Z at *
  refine SW.loopE (fun E0 H0 q E' H' => ∃ (left acc : List Int) (r vp : Nat), q ≤ n ∧ left.length = q ∧ r < fct q ∧ Z = acc ++ unr q left r ∧ acc.length + q = n ∧ E' = aput (aput (aput E0 1 (I r)) 5 (ilS left)) 6 (.nm H.length vp 0 acc.length) ∧ H' = H ++ [⟨vp, 2, 1, acc.map I⟩]) n ⟨idL n, [], rank, 0, by omega, hil, hr, hZ, by simp, rfl, rfl⟩ ?_
  rintro q E' H' ⟨left, acc, r, vp, hqn, hll, hrq, hZq, hal, rfl, rfl⟩
  have htl : (acc.map I).take acc.length = acc.map I := List.take_of_length_le (by simp)
  simp (config := { maxSteps := 1000000 }) (disch := (first | omega | (simp only [go_sem]; try omega))) only [go_sem, Nat.reduceAdd, Nat.reduceEqDiff, Nat.reduceLeDiff, Nat.reduceMul, Nat.reduceLT, reduceIte, Int.reduceToNat, w64_id, cast_succ]
  repeat (first | (with_reducible first | refine SW.seq ?_ | refine SW.block ?_ | refine SW.rowC ?_ | refine SW.skip ?_ | refine SW.exit ?_ | intro _ | refine And.intro (by omega) ?_) | simp (config := { maxSteps := 1000000 }) (disch := (first | omega | (simp only [go_sem]; try omega))) only [go_sem, Nat.reduceAdd, Nat.reduceEqDiff, Nat.reduceLeDiff, Nat.reduceMul, Nat.reduceLT, reduceIte, Int.reduceToNat, w64_id, cast_succ])
  (first | refine SW.condD rfl (fun h3 => ?_) (fun h3 => ?_) | refine SW.condN rfl (fun h3 => ?_) (fun h3 => ?_) | refine SW.condNB rfl (fun h3 => ?_) (fun h3 => ?_) | refine SW.condB rfl (fun h3 => ?_) (fun h3 => ?_))
  · obtain ⟨j, rfl⟩ : ∃ j, q = j + 1 := ⟨q - 1, by omega⟩
    have e0 : ((left.length : Nat) : Int) - 1 = (j : Int) := by omega
    have hfj := fct_le (n := j) (by omega)
    have hfj1 := fct_le (n := j + 1) (by omega)
    have hfp := fct_pos j
    have hat : r / fct j < j + 1 := Nat.div_lt_of_lt_mul (by rw [Nat.mul_comm]; exact hrq)
    have hmd := Nat.mod_lt r hfp
    have hfz : ¬ ((fct j : Nat) : Int) = 0 := by omega
    have hun : unr (j + 1) left r = left.getD (r / fct j) 0 :: unr j (left.eraseIdx (r / fct j)) (r % fct j) := rfl
    have hd1 : ((r : Int)).tdiv ((fct j : Nat) : Int) = ((r / fct j : Nat) : Int) := tdivN
    have hm1 : ((r : Int)).tmod ((fct j : Nat) : Int) = ((r % fct j : Nat) : Int) := tmodN
    rw [hun] at hZq
    generalize r / fct j = d at *
    generalize r % fct j = e at *
    have hlt : d < left.length := by omega
    have hed : left.take d ++ left.drop (d + 1) = left.eraseIdx d := (List.eraseIdx_eq_take_drop_succ left d).symm
    have hel : (left.eraseIdx d).length = left.length - 1 := by rw [List.length_eraseIdx_of_lt hlt]
    repeat (first | (with_reducible first | refine SW.seq ?_ | refine SW.block ?_ | refine SW.rowC ?_ | refine SW.skip ?_ | refine SW.exit ?_ | refine PFn.use (specFact_fn j (by omega)) ?_ | refine PFn.useq (specFact_fn j (by omega)) ?_ | intro _ | refine And.intro (by omega) ?_) | simp (config := { maxSteps := 1000000 }) (disch := (first | omega | (simp only [go_sem]; try omega))) only [go_sem, Nat.reduceAdd, Nat.reduceEqDiff, Nat.reduceLeDiff, Nat.reduceMul, Nat.reduceLT, reduceIte, Int.reduceToNat, w64_id, cast_succ, e0, hd1, hm1, htl, Option.map_some, Option.map_none])
    refine (l00OwnB_ok _ (left.take (d - 0)) (by simp; omega)).mono ?_
    rintro r1 H' ⟨rfl, rfl⟩
    rw [Nat.sub_zero]
    have htk : (left.take d).length = d := by simp; omega
    have htl2 : ((left.take d).map I).take d = (left.take d).map I := List.take_of_length_le (by simp; omega)
    have hdl : (left.drop (d + 1)).length = left.length - (d + 1) := by simp
    have htd : List.take (left.length - (d + 1)) (List.drop (d + 1) left) = List.drop (d + 1) left := List.take_of_length_le (by simp)
    repeat (first | (with_reducible first | refine SW.seq ?_ | refine SW.block ?_ | refine SW.rowC ?_ | refine SW.skip ?_ | refine SW.exit ?_ | intro _ | refine And.intro (by omega) ?_) | simp (config := { maxSteps := 1000000 }) (disch := (first | omega | (simp only [go_sem]; try omega))) only [go_sem, Nat.reduceAdd, Nat.reduceEqDiff, Nat.reduceLeDiff, Nat.reduceMul, Nat.reduceLT, reduceIte, Int.reduceToNat, w64_id, cast_succ, htk, htl2, htd, hdl, Option.map_some, Option.map_none])
    rw [hed, show d + (left.length - (d + 1)) = (left.eraseIdx d).length by omega]
    have hB1 : HB (H ++ [(⟨vp + 1, 2, 1, (acc ++ [left.getD d 0]).map I⟩ : Blk)]) := hB.app (k := H.length) (by (simp only [go_sem, Nat.reduceAdd, Nat.reduceEqDiff, reduceIte, go_sem, and_self, and_true, true_and, implies_true, List.take_succ_cons, List.take_zero, and_true, true_and]; try omega)) (by simp)
    have e1 : ∀ a b c : Blk, H ++ [a, b, c] = (H ++ [a]) ++ [b, c] := fun a b c => by simp
    rw [e1]
    refine SLoop.nextFz j [(1, I e), (5, ilS (left.eraseIdx d)), (6, .nm H.length (vp + 1) 0 (acc.length + 1))] hB1 (by simp) (by omega) ?_ ⟨left.eraseIdx d, acc ++ [left.getD d 0], e, vp + 1, by omega, by omega, hmd, by rw [hZq]; simp, by simp; omega, by simp [go_sem], rfl⟩
    simp only [go_sem, Nat.reduceEqDiff, reduceIte]
    refine .cons _ (ren_I _) (.cons _ ?_ (.cons _ (.old _ (by simp [go_sem])) .nil))
    exact ren_rowI (ver := 2) (ty := 2) (by simp) (by simp) (by rw [List.getElem?_append_right (by simp)]; simp)
  · have : q = 0 := by omega
    subst this
    rw [hZq]
    repeat (first | (with_reducible first | refine SW.seq ?_ | refine SW.block ?_ | refine SW.rowC ?_ | refine SW.skip ?_ | refine SW.exit ?_ | intro _ | refine And.intro (by omega) ?_) | simp (config := { maxSteps := 1000000 }) (disch := (first | omega | (simp only [go_sem]; try omega))) only [go_sem, Nat.reduceAdd, Nat.reduceEqDiff, Nat.reduceLeDiff, Nat.reduceMul, Nat.reduceLT, reduceIte, Int.reduceToNat, w64_id, cast_succ])
    refine SW.ret ?_; (try simp only [go_sem]); (first | refine FunPost.one ?_ | refine FunPost.two ?_ | refine FunPost.three ?_); (try simp (config := { maxSteps := 1000000 }) (disch := (first | omega | (simp only [go_sem]; try omega))) only [go_sem, Nat.reduceAdd, Nat.reduceEqDiff, Nat.reduceLeDiff, Nat.reduceMul, Nat.reduceLT, reduceIte, Int.reduceToNat, w64_id, cast_succ])
    refine GR.froz (r' := ilS (acc ++ unr 0 left r)) ?_ ⟨rfl, rfl⟩
    rw [show unr 0 left r = [] from rfl, List.append_nil]
    exact froz_rowI (r := H.length) (ver := vp) (ty := 2) (by omega) (by simp)
end Go.Proofs.YtmdeibdplpodpaaGreat
