/- Indices and lambdas of designs: the laws. -/
import Derived.Test.YtnlfokkljgbaaaaProg
import Derived.KernelRfl
import Derived.Test.YtnlfokkljgbaaaazK24
set_option linter.unusedSimpArgs false
set_option linter.unusedVariables false
set_option maxHeartbeats 4000000
set_option maxRecDepth 100000
namespace Go.Proofs.Ytnlfokkljgbaaaa
open Go.Av
abbrev f_impl_LambdasOf : Nat := 7
def c_impl_LambdasOf : SC :=
 .seq (.reg [
     ⟨(some 2), .box 26 (.tmp 0), none⟩,
     ⟨(some 4), .mv (.const (.slice none 0 0)), none⟩,
     ⟨(some 5), .mv (.const (.int .i64 0)), none⟩] [1, 2])
 (.seq (.reg [
     ⟨(some 11), .load 2 true (.tmp 2), none⟩,
     ⟨(some 12), .mv (.tmp 1), none⟩,
     ⟨(some 13), .call 23 [(.tmp 11), (.tmp 12)], none⟩,
     ⟨(some 10), .mv (.tmp 13), none⟩,
     ⟨(some 14), .ext (.tmp 10) 0, none⟩,
     ⟨(some 15), .ext (.tmp 10) 1, none⟩,
     ⟨(some 6), .mv (.tmp 14), none⟩,
     ⟨(some 7), .mv (.tmp 15), none⟩] [1, 2, 6, 7])
 (.seq (.seq (.reg [
     ⟨(some 16), .mv (.tmp 7), none⟩,
     ⟨(some 17), .bin .neq (.tmp 16) (.const (.int .i64 0)), none⟩] [1, 2, 6, 7, 17])
 (.cond (.tmp 17)
  (.seq (.reg [
      ⟨(some 18), .mv (.tmp 7), none⟩,
      ⟨(some 4), .mv (.const (.slice none 0 0)), none⟩,
      ⟨(some 5), .mv (.tmp 18), none⟩] [4, 5])
  (.ret))
  (.skip)))
 (.seq (.seq (.reg [
     ⟨(some 19), .mv (.tmp 6), none⟩,
     ⟨(some 20), .bin .eql (.tmp 19) (.const (.int .i64 0)), none⟩] [1, 2, 20])
 (.cond (.tmp 20)
  (.seq (.reg [
      ⟨(some 4), .mv (.const (.slice none 0 0)), none⟩,
      ⟨(some 5), .mv (.const (.int .i64 6)), none⟩] [4, 5])
  (.ret))
  (.skip)))
 (.seq (.reg [
     ⟨(some 8), .mv (.const (.slice none 0 0)), none⟩] [1, 2, 8])
 (.seq (.seq (.reg [
     ⟨(some 21), .mv (.tmp 1), none⟩,
     ⟨(some 22), .bin .add (.tmp 21) (.const (.int .i64 1)), none⟩,
     ⟨(some 23), .mv (.const (.int .i64 0)), none⟩] [2, 8, 22, 23])
 (.block 0 (.loop [2, 8, 22, 23]
   (.seq (.reg [
       ⟨(some 24), .bin .lss (.tmp 23) (.tmp 22), none⟩] [2, 8, 22, 23, 24])
   (.seq (.cond (.tmp 24)
    (.skip)
    (.exit 0))
   (.seq (.block 1 (.seq (.reg [
        ⟨(some 25), .mv (.tmp 23), none⟩,
        ⟨(some 9), .mv (.tmp 25), none⟩] [2, 8, 9, 22, 23])
    (.reg [
        ⟨(some 26), .mv (.tmp 8), none⟩,
        ⟨(some 27), .load 2 true (.tmp 2), none⟩,
        ⟨(some 28), .mv (.tmp 9), none⟩,
        ⟨(some 29), .call 24 [(.tmp 27), (.tmp 28)], none⟩,
        ⟨(some 30), .bslice 2 1 1 [(.int .i64 0)] [(0, (.tmp 29))], none⟩,
        ⟨(some 31), .app 2 1 8 (.tmp 26) (.tmp 30), none⟩,
        ⟨(some 8), .mv (.tmp 31), none⟩] [2, 8, 22, 23])))
   (.reg [
       ⟨(some 32), .bin .add (.tmp 23) (.const (.int .i64 1)), none⟩,
       ⟨(some 23), .mv (.tmp 32), none⟩] [2, 8, 22, 23])))))))
 (.seq (.reg [
     ⟨(some 33), .mv (.tmp 8), none⟩,
     ⟨(some 4), .mv (.tmp 33), none⟩,
     ⟨(some 5), .mv (.const (.int .i64 0)), none⟩] [4, 5])
 (.ret)))))))
theorem s_impl_LambdasOf : stripF Try.prog 7 [[1, 2], [1, 2, 6, 7], [1, 2, 6, 7, 17], [4, 5], [1, 2, 20], [4, 5], [1, 2, 8], [2, 8, 22, 23], [2, 8, 22, 23], [2, 8, 22, 23, 24], [2, 8, 9, 22, 23], [2, 8, 22, 23], [2, 8, 22, 23], [4, 5]] = some (c_impl_LambdasOf, [.tmp 4, .tmp 5], 34) := by kernel_rfl
abbrev f_impl_TIndex : Nat := 23
def c_impl_TIndex : SC :=
 .seq (.reg [
     ⟨(some 2), .box 26 (.tmp 0), none⟩,
     ⟨(some 4), .mv (.const (.int .i64 0)), none⟩,
     ⟨(some 5), .mv (.const (.int .i64 0)), none⟩] [1, 2])
 (.seq (.seq (.reg [
     ⟨(some 6), .load 2 true (.tmp 2), none⟩,
     ⟨(some 7), .call 42 [(.tmp 6)], none⟩,
     ⟨(some 8), .un .not (.tmp 7), none⟩] [1, 2, 8])
 (.cond (.tmp 8)
  (.seq (.reg [
      ⟨(some 4), .mv (.const (.int .i64 0)), none⟩,
      ⟨(some 5), .mv (.const (.int .i64 1)), none⟩] [4, 5])
  (.ret))
  (.skip)))
 (.seq (.seq (.reg [
     ⟨(some 9), .mv (.tmp 1), none⟩,
     ⟨(some 10), .call 43 [(.tmp 9), (.const (.int .i64 0)), (.const (.int .i64 3))], none⟩,
     ⟨(some 11), .un .not (.tmp 10), none⟩] [1, 2, 11])
 (.cond (.tmp 11)
  (.seq (.reg [
      ⟨(some 4), .mv (.const (.int .i64 0)), none⟩,
      ⟨(some 5), .mv (.const (.int .i64 2)), none⟩] [4, 5])
  (.ret))
  (.skip)))
 (.seq (.reg [
     ⟨(some 12), .load 2 true (.tmp 2), none⟩,
     ⟨(some 13), .mv (.tmp 1), none⟩,
     ⟨(some 14), .call 24 [(.tmp 12), (.tmp 13)], none⟩,
     ⟨(some 4), .mv (.tmp 14), none⟩,
     ⟨(some 5), .mv (.const (.int .i64 0)), none⟩] [4, 5])
 (.ret))))
theorem s_impl_TIndex : stripF Try.prog 23 [[1, 2], [1, 2, 8], [4, 5], [1, 2, 11], [4, 5], [4, 5]] = some (c_impl_TIndex, [.tmp 4, .tmp 5], 15) := by kernel_rfl
def tiV (v : Int) (xss : List (List Int)) (t : Int) : Int × Int := if !designB v xss then (0, 1) else if !(decide (0 ≤ t) && decide (t ≤ 3)) then (0, 2) else (tIdx v.toNat xss t.toNat, 0)
theorem implTIndex_fn (v : Int) (xss : List (List Int)) (t : Int) : PFn Try.prog f_impl_TIndex [.agg [I v, ilSS xss], I t] (.tup [I (tiV v xss t).1, I (tiV v xss t).2]) := by
  have hv := ValidDesign_fn v xss
  intro H; refine ACalls.introB s_impl_TIndex (by simp) ?_; intro hB hA; unfold c_impl_TIndex; simp (config := { maxSteps := 1000000 }) (disch := (first | omega | (simp only [go_sem]; try omega))) only [go_sem, Nat.reduceAdd, Nat.reduceEqDiff, Nat.reduceLeDiff, Nat.reduceMul, Nat.reduceLT, reduceIte, Int.reduceToNat, w64_id, cast_succ]
  repeat (first | (with_reducible first | refine SW.seq ?_ | refine SW.block ?_ | refine SW.rowC ?_ | refine SW.skip ?_ | refine SW.exit ?_ | refine PFn.use (hv) ?_ | refine PFn.useq (hv) ?_ | intro _ | refine And.intro (by omega) ?_) | simp (config := { maxSteps := 1000000 }) (disch := (first | omega | (simp only [go_sem]; try omega))) only [go_sem, Nat.reduceAdd, Nat.reduceEqDiff, Nat.reduceLeDiff, Nat.reduceMul, Nat.reduceLT, reduceIte, Int.reduceToNat, w64_id, cast_succ])
  (first | refine SW.condD rfl (fun h => ?_) (fun h => ?_) | refine SW.condN rfl (fun h => ?_) (fun h => ?_) | refine SW.condNB rfl (fun h => ?_) (fun h => ?_) | refine SW.condB rfl (fun h => ?_) (fun h => ?_))
  · rw [tiV, h]
    repeat (first | (with_reducible first | refine SW.seq ?_ | refine SW.block ?_ | refine SW.rowC ?_ | refine SW.skip ?_ | refine SW.exit ?_ | intro _ | refine And.intro (by omega) ?_) | simp (config := { maxSteps := 1000000 }) (disch := (first | omega | (simp only [go_sem]; try omega))) only [go_sem, Nat.reduceAdd, Nat.reduceEqDiff, Nat.reduceLeDiff, Nat.reduceMul, Nat.reduceLT, reduceIte, Int.reduceToNat, w64_id, cast_succ])
    refine SW.ret ?_; (try simp only [go_sem]); (first | refine FunPost.one ?_ | refine FunPost.two ?_ | refine FunPost.three ?_); (try simp (config := { maxSteps := 1000000 }) (disch := (first | omega | (simp only [go_sem]; try omega))) only [go_sem, Nat.reduceAdd, Nat.reduceEqDiff, Nat.reduceLeDiff, Nat.reduceMul, Nat.reduceLT, reduceIte, Int.reduceToNat, w64_id, cast_succ]); (first | (with_reducible refine GR.drop ?_ ?_; (simp only [go_sem, and_self, and_true, true_and, implies_true, List.take_succ_cons, List.take_zero])) | refine GR.of ?_); refine ⟨?_, rfl⟩; (try with_reducible rfl)
  · have hf := designB_facts h
    obtain ⟨n, rfl⟩ := Int.eq_ofNat_of_zero_le (show 0 ≤ v by omega)
    rw [tiV, h]
    repeat (first | (with_reducible first | refine SW.seq ?_ | refine SW.block ?_ | refine SW.rowC ?_ | refine SW.skip ?_ | refine SW.exit ?_ | refine PFn.use (within_fn _ _ _) ?_ | refine PFn.useq (within_fn _ _ _) ?_ | intro _ | refine And.intro (by omega) ?_) | simp (config := { maxSteps := 1000000 }) (disch := (first | omega | (simp only [go_sem]; try omega))) only [go_sem, Nat.reduceAdd, Nat.reduceEqDiff, Nat.reduceLeDiff, Nat.reduceMul, Nat.reduceLT, reduceIte, Int.reduceToNat, w64_id, cast_succ])
    (first | refine SW.condD rfl (fun h2 => ?_) (fun h2 => ?_) | refine SW.condN rfl (fun h2 => ?_) (fun h2 => ?_) | refine SW.condNB rfl (fun h2 => ?_) (fun h2 => ?_) | refine SW.condB rfl (fun h2 => ?_) (fun h2 => ?_))
    · rw [h2]
      repeat (first | (with_reducible first | refine SW.seq ?_ | refine SW.block ?_ | refine SW.rowC ?_ | refine SW.skip ?_ | refine SW.exit ?_ | intro _ | refine And.intro (by omega) ?_) | simp (config := { maxSteps := 1000000 }) (disch := (first | omega | (simp only [go_sem]; try omega))) only [go_sem, Nat.reduceAdd, Nat.reduceEqDiff, Nat.reduceLeDiff, Nat.reduceMul, Nat.reduceLT, reduceIte, Int.reduceToNat, w64_id, cast_succ])
      refine SW.ret ?_; (try simp only [go_sem]); (first | refine FunPost.one ?_ | refine FunPost.two ?_ | refine FunPost.three ?_); (try simp (config := { maxSteps := 1000000 }) (disch := (first | omega | (simp only [go_sem]; try omega))) only [go_sem, Nat.reduceAdd, Nat.reduceEqDiff, Nat.reduceLeDiff, Nat.reduceMul, Nat.reduceLT, reduceIte, Int.reduceToNat, w64_id, cast_succ]); (first | (with_reducible refine GR.drop ?_ ?_; (simp only [go_sem, and_self, and_true, true_and, implies_true, List.take_succ_cons, List.take_zero])) | refine GR.of ?_); refine ⟨?_, rfl⟩; (try with_reducible rfl)
    · rw [h2]
      simp only [Bool.and_eq_true, decide_eq_true_eq] at h2
      obtain ⟨m, rfl⟩ := Int.eq_ofNat_of_zero_le h2.1
      repeat (first | (with_reducible first | refine SW.seq ?_ | refine SW.block ?_ | refine SW.rowC ?_ | refine SW.skip ?_ | refine SW.exit ?_ | refine PFn.use (implTIdx_fn n xss m (by omega) (by omega) (by omega)) ?_ | refine PFn.useq (implTIdx_fn n xss m (by omega) (by omega) (by omega)) ?_ | intro _ | refine And.intro (by omega) ?_) | simp (config := { maxSteps := 1000000 }) (disch := (first | omega | (simp only [go_sem]; try omega))) only [go_sem, Nat.reduceAdd, Nat.reduceEqDiff, Nat.reduceLeDiff, Nat.reduceMul, Nat.reduceLT, reduceIte, Int.reduceToNat, w64_id, cast_succ])
      refine SW.ret ?_; (try simp only [go_sem]); (first | refine FunPost.one ?_ | refine FunPost.two ?_ | refine FunPost.three ?_); (try simp (config := { maxSteps := 1000000 }) (disch := (first | omega | (simp only [go_sem]; try omega))) only [go_sem, Nat.reduceAdd, Nat.reduceEqDiff, Nat.reduceLeDiff, Nat.reduceMul, Nat.reduceLT, reduceIte, Int.reduceToNat, w64_id, cast_succ]); (first | (with_reducible refine GR.drop ?_ ?_; (simp only [go_sem, and_self, and_true, true_and, implies_true, List.take_succ_cons, List.take_zero])) | refine GR.of ?_); refine ⟨?_, rfl⟩; (try with_reducible rfl)
def lamV (v : Int) (xss : List (List Int)) (t : Int) : List Int × Int := if (tiV v xss t).2 ≠ 0 then ([], (tiV v xss t).2) else if (tiV v xss t).1 = 0 then ([], 6) else ((List.range (t.toNat + 1)).map fun s => tIdx v.toNat xss s, 0)
theorem tiV_good {v : Int} {xss : List (List Int)} {t : Int} (h : (tiV v xss t).2 = 0) : designB v xss = true ∧ 0 ≤ t ∧ t ≤ 3 := by
  unfold tiV at h
  split at h
  · simp at h
  · rename_i h1
    split at h
    · simp at h
    · rename_i h2
      simp only [Bool.not_eq_true', Bool.not_eq_false, Bool.and_eq_true, decide_eq_true_eq, Bool.not_eq_true] at h1 h2
      exact ⟨h1, h2.1, h2.2⟩
theorem implLambdasOf_fs (v : Int) (xss : List (List Int)) (t : Int) (hx : ∀ xs ∈ xss, ∀ x ∈ xs, (Lit.int .i64 x).wf = true) : FS Try.prog f_impl_LambdasOf [.agg [I v, ilSS xss], I t] (lamV v xss t).1 (lamV v xss t).2 := by
  intro H
  have hv := implTIndex_fn v xss t
  have hgood := @tiV_good v xss t
  unfold lamV
  generalize (tiV v xss t).1 = a at *
  generalize (tiV v xss t).2 = b at *
  refine ACalls.introB s_impl_LambdasOf (by simp) ?_; intro hB hA; unfold c_impl_LambdasOf; simp (config := { maxSteps := 1000000 }) (disch := (first | omega | (simp only [go_sem]; try omega))) only [go_sem, Nat.reduceAdd, Nat.reduceEqDiff, Nat.reduceLeDiff, Nat.reduceMul, Nat.reduceLT, reduceIte, Int.reduceToNat, w64_id, cast_succ]
  repeat (first | (with_reducible first | refine SW.seq ?_ | refine SW.block ?_ | refine SW.rowC ?_ | refine SW.skip ?_ | refine SW.exit ?_ | refine PFn.use (hv) ?_ | refine PFn.useq (hv) ?_ | intro _ | refine And.intro (by omega) ?_) | simp (config := { maxSteps := 1000000 }) (disch := (first | omega | (simp only [go_sem]; try omega))) only [go_sem, Nat.reduceAdd, Nat.reduceEqDiff, Nat.reduceLeDiff, Nat.reduceMul, Nat.reduceLT, reduceIte, Int.reduceToNat, w64_id, cast_succ])
  (first | refine SW.condD rfl (fun h => ?_) (fun h => ?_) | refine SW.condN rfl (fun h => ?_) (fun h => ?_) | refine SW.condNB rfl (fun h => ?_) (fun h => ?_) | refine SW.condB rfl (fun h => ?_) (fun h => ?_))
  · rw [if_pos h]
    repeat (first | (with_reducible first | refine SW.seq ?_ | refine SW.block ?_ | refine SW.rowC ?_ | refine SW.skip ?_ | refine SW.exit ?_ | intro _ | refine And.intro (by omega) ?_) | simp (config := { maxSteps := 1000000 }) (disch := (first | omega | (simp only [go_sem]; try omega))) only [go_sem, Nat.reduceAdd, Nat.reduceEqDiff, Nat.reduceLeDiff, Nat.reduceMul, Nat.reduceLT, reduceIte, Int.reduceToNat, w64_id, cast_succ])
    refine SW.ret ?_; (try simp only [go_sem]); (first | refine FunPost.one ?_ | refine FunPost.two ?_ | refine FunPost.three ?_); (try simp (config := { maxSteps := 1000000 }) (disch := (first | omega | (simp only [go_sem]; try omega))) only [go_sem, Nat.reduceAdd, Nat.reduceEqDiff, Nat.reduceLeDiff, Nat.reduceMul, Nat.reduceLT, reduceIte, Int.reduceToNat, w64_id, cast_succ])
    exact GR.of nilFS1
  have hg := hgood h
  have hf := designB_facts hg.1
  obtain ⟨n, rfl⟩ := Int.eq_ofNat_of_zero_le (show 0 ≤ v by omega)
  obtain ⟨m, rfl⟩ := Int.eq_ofNat_of_zero_le hg.2.1
  rw [if_neg (by simpa using h)]
  repeat (first | (with_reducible first | refine SW.seq ?_ | refine SW.block ?_ | refine SW.rowC ?_ | refine SW.skip ?_ | refine SW.exit ?_ | intro _ | refine And.intro (by omega) ?_) | simp (config := { maxSteps := 1000000 }) (disch := (first | omega | (simp only [go_sem]; try omega))) only [go_sem, Nat.reduceAdd, Nat.reduceEqDiff, Nat.reduceLeDiff, Nat.reduceMul, Nat.reduceLT, reduceIte, Int.reduceToNat, w64_id, cast_succ])
  (first | refine SW.condD rfl (fun h2 => ?_) (fun h2 => ?_) | refine SW.condN rfl (fun h2 => ?_) (fun h2 => ?_) | refine SW.condNB rfl (fun h2 => ?_) (fun h2 => ?_) | refine SW.condB rfl (fun h2 => ?_) (fun h2 => ?_))
  · rw [if_pos h2]
    repeat (first | (with_reducible first | refine SW.seq ?_ | refine SW.block ?_ | refine SW.rowC ?_ | refine SW.skip ?_ | refine SW.exit ?_ | intro _ | refine And.intro (by omega) ?_) | simp (config := { maxSteps := 1000000 }) (disch := (first | omega | (simp only [go_sem]; try omega))) only [go_sem, Nat.reduceAdd, Nat.reduceEqDiff, Nat.reduceLeDiff, Nat.reduceMul, Nat.reduceLT, reduceIte, Int.reduceToNat, w64_id, cast_succ])
    refine SW.ret ?_; (try simp only [go_sem]); (first | refine FunPost.one ?_ | refine FunPost.two ?_ | refine FunPost.three ?_); (try simp (config := { maxSteps := 1000000 }) (disch := (first | omega | (simp only [go_sem]; try omega))) only [go_sem, Nat.reduceAdd, Nat.reduceEqDiff, Nat.reduceLeDiff, Nat.reduceMul, Nat.reduceLT, reduceIte, Int.reduceToNat, w64_id, cast_succ])
    exact GR.of nilFS1
  rw [if_neg h2]
  repeat (first | (with_reducible first | refine SW.seq ?_ | refine SW.block ?_ | refine SW.rowC ?_ | refine SW.skip ?_ | refine SW.exit ?_ | intro _ | refine And.intro (by omega) ?_) | simp (config := { maxSteps := 1000000 }) (disch := (first | omega | (simp only [go_sem]; try omega))) only [go_sem, Nat.reduceAdd, Nat.reduceEqDiff, Nat.reduceLeDiff, Nat.reduceMul, Nat.reduceLT, reduceIte, Int.reduceToNat, w64_id, cast_succ])
  refine SW.ghost (Gh.name 8 2 1 rfl) ?_
  simp (config := { maxSteps := 1000000 }) (disch := (first | omega | (simp only [go_sem]; try omega))) only [go_sem, Nat.reduceAdd, Nat.reduceEqDiff, Nat.reduceLeDiff, Nat.reduceMul, Nat.reduceLT, reduceIte, Int.reduceToNat, w64_id, cast_succ]
  refine SW.loopE (fun E0 H0 q E' H' => ∃ (s ver : Nat), s ≤ m + 1 ∧ q = m + 1 - s ∧ E' = aput (aput E0 23 (I s)) 8 (.nm (H.length + 1) ver 0 s) ∧ H' = H ++ [⟨0, tyD, 1, [I n, ilSS xss]⟩, ⟨ver, 2, 1, ((List.range s).map fun s => tIdx n xss s).map I⟩]) (m + 1) ⟨0, 0, by omega, by omega, rfl, rfl⟩ ?_
  rintro q E' H' ⟨s, ver, hs, rfl, rfl, rfl⟩
  have hl : ((List.range s).map fun s => tIdx n xss s).length = s := by simp
  have hsn : (List.range (s + 1)).map (fun s => tIdx n xss s) = ((List.range s).map fun s => tIdx n xss s) ++ [tIdx n xss s] := by simp [List.range_succ]
  generalize hL : (List.range s).map (fun s => tIdx n xss s) = L at *
  simp (config := { maxSteps := 1000000 }) (disch := (first | omega | (simp only [go_sem]; try omega))) only [go_sem, Nat.reduceAdd, Nat.reduceEqDiff, Nat.reduceLeDiff, Nat.reduceMul, Nat.reduceLT, reduceIte, Int.reduceToNat, w64_id, cast_succ]
  repeat (first | (with_reducible first | refine SW.seq ?_ | refine SW.block ?_ | refine SW.rowC ?_ | refine SW.skip ?_ | refine SW.exit ?_ | intro _ | refine And.intro (by omega) ?_) | simp (config := { maxSteps := 1000000 }) (disch := (first | omega | (simp only [go_sem]; try omega))) only [go_sem, Nat.reduceAdd, Nat.reduceEqDiff, Nat.reduceLeDiff, Nat.reduceMul, Nat.reduceLT, reduceIte, Int.reduceToNat, w64_id, cast_succ])
  (first | refine SW.condD rfl (fun h3 => ?_) (fun h3 => ?_) | refine SW.condN rfl (fun h3 => ?_) (fun h3 => ?_) | refine SW.condNB rfl (fun h3 => ?_) (fun h3 => ?_) | refine SW.condB rfl (fun h3 => ?_) (fun h3 => ?_))
  · repeat (first | (with_reducible first | refine SW.seq ?_ | refine SW.block ?_ | refine SW.rowC ?_ | refine SW.skip ?_ | refine SW.exit ?_ | refine PFn.use (implTIdx_fn n xss s (by omega) (by omega) (by omega)) ?_ | refine PFn.useq (implTIdx_fn n xss s (by omega) (by omega) (by omega)) ?_ | intro _ | refine And.intro (by omega) ?_) | simp (config := { maxSteps := 1000000 }) (disch := (first | omega | (simp only [go_sem]; try omega))) only [go_sem, Nat.reduceAdd, Nat.reduceEqDiff, Nat.reduceLeDiff, Nat.reduceMul, Nat.reduceLT, reduceIte, Int.reduceToNat, w64_id, cast_succ])
    have htk : (L.map I).take s = L.map I := List.take_of_length_le (by simp [hl])
    repeat (first | (with_reducible first | refine SW.seq ?_ | refine SW.block ?_ | refine SW.rowC ?_ | refine SW.skip ?_ | refine SW.exit ?_ | intro _ | refine And.intro (by omega) ?_) | simp (config := { maxSteps := 1000000 }) (disch := (first | omega | (simp only [go_sem]; try omega))) only [go_sem, Nat.reduceAdd, Nat.reduceEqDiff, Nat.reduceLeDiff, Nat.reduceMul, Nat.reduceLT, reduceIte, Int.reduceToNat, w64_id, cast_succ, htk])
    refine SLoop.nextT 2 (m + 1 - (s + 1)) hB (by omega) (by omega) (by simp) ?_ ?_ ⟨s + 1, ver + 1, by omega, rfl, ?_, ?_⟩
    · (simp only [go_sem, Nat.reduceAdd, Nat.reduceEqDiff, reduceIte, go_sem, and_self, and_true, true_and, implies_true, List.take_succ_cons, List.take_zero, and_true, true_and]; try omega)
    · (simp only [go_sem, Nat.reduceAdd, Nat.reduceEqDiff, reduceIte, go_sem, and_self, and_true, true_and, implies_true, List.take_succ_cons, List.take_zero, and_true, true_and]; try omega)
    · simp [go_sem]
    · rw [hsn]; simp
  · have : s = m + 1 := by omega
    subst this
    have hL' : (List.range m ++ [m]).map (fun s => tIdx n xss s) = L := by rw [← List.range_succ, hL]
    repeat (first | (with_reducible first | refine SW.seq ?_ | refine SW.block ?_ | refine SW.rowC ?_ | refine SW.skip ?_ | refine SW.exit ?_ | intro _ | refine And.intro (by omega) ?_) | simp (config := { maxSteps := 1000000 }) (disch := (first | omega | (simp only [go_sem]; try omega))) only [go_sem, Nat.reduceAdd, Nat.reduceEqDiff, Nat.reduceLeDiff, Nat.reduceMul, Nat.reduceLT, reduceIte, Int.reduceToNat, w64_id, cast_succ])
    rw [hL']
    refine SW.ret ?_; (try simp only [go_sem]); (first | refine FunPost.one ?_ | refine FunPost.two ?_ | refine FunPost.three ?_); (try simp (config := { maxSteps := 1000000 }) (disch := (first | omega | (simp only [go_sem]; try omega))) only [go_sem, Nat.reduceAdd, Nat.reduceEqDiff, Nat.reduceLeDiff, Nat.reduceMul, Nat.reduceLT, reduceIte, Int.reduceToNat, w64_id, cast_succ])
    exact GR.of ⟨_, _, _, rfl, rfl, .inl ⟨H.length + 1, ver, 2, by rw [hl], ⟨by omega, by simp⟩, by simp, by simp⟩, rfl⟩
end Go.Proofs.Ytnlfokkljgbaaaa
