/- Systems compared; all permutations; copies. -/
import Derived.Test.YtkifdjjnbplghaaProg
import Derived.KernelRfl
import Derived.Test.YtkifdjjnbplghaaK62
import Derived.Test.YtkifdjjnbplghaaK66
import Derived.Test.YtkifdjjnbplghaaM2
import Derived.Test.YtkifdjjnbplghaaC1
set_option linter.unusedSimpArgs false
set_option linter.unusedVariables false
set_option maxHeartbeats 4000000
set_option maxRecDepth 100000
namespace Go.Proofs.Ytkifdjjnbplghaa
open Go.Av

/-! The abstract code of functions, printed by program and tied to the program by the kernel. -/
/-- loop.example/g00920/impl.allPermutations -/
abbrev f_impl_allPermutations : Nat := 42
def c_impl_allPermutations : SC :=
 .seq (.reg [
     ⟨(some 2), .mv (.const (.slice none 0 0)), none⟩] [0])
 (.seq (.reg [
     ⟨(some 3), .mv (.const (.slice none 0 0)), none⟩] [0, 3])
 (.seq (.seq (.reg [
     ⟨(some 7), .mv (.tmp 0), none⟩,
     ⟨(some 8), .call 44 [(.tmp 7)], none⟩,
     ⟨(some 9), .mv (.const (.int .i64 0)), none⟩] [0, 3, 8, 9])
 (.block 0 (.loop [0, 3, 8, 9]
   (.seq (.reg [
       ⟨(some 10), .bin .lss (.tmp 9) (.tmp 8), none⟩] [0, 3, 8, 9, 10])
   (.seq (.cond (.tmp 10)
    (.skip)
    (.exit 0))
   (.seq (.block 1 (.seq (.reg [
        ⟨(some 11), .mv (.tmp 9), none⟩,
        ⟨(some 4), .mv (.tmp 11), none⟩] [0, 3, 4, 8, 9])
    (.seq (.reg [
        ⟨(some 13), .mv (.tmp 0), none⟩,
        ⟨(some 14), .mv (.tmp 4), none⟩,
        ⟨(some 15), .call 66 [(.tmp 13), (.tmp 14)], none⟩,
        ⟨(some 12), .mv (.tmp 15), none⟩,
        ⟨(some 16), .ext (.tmp 12) 0, none⟩,
        ⟨(some 17), .ext (.tmp 12) 1, none⟩,
        ⟨(some 5), .mv (.tmp 16), none⟩,
        ⟨(some 6), .mv (.tmp 17), none⟩] [0, 3, 5, 8, 9])
    (.reg [
        ⟨(some 18), .mv (.tmp 3), none⟩,
        ⟨(some 19), .mv (.tmp 5), none⟩,
        ⟨(some 20), .bslice 25 1 1 [(.slice none 0 0)] [(0, (.tmp 19))], none⟩,
        ⟨(some 21), .app 25 1 24 (.tmp 18) (.tmp 20), none⟩,
        ⟨(some 3), .mv (.tmp 21), none⟩] [0, 3, 8, 9]))))
   (.reg [
       ⟨(some 22), .bin .add (.tmp 9) (.const (.int .i64 1)), none⟩,
       ⟨(some 9), .mv (.tmp 22), none⟩] [0, 3, 8, 9])))))))
 (.seq (.reg [
     ⟨(some 23), .mv (.tmp 3), none⟩,
     ⟨(some 2), .mv (.tmp 23), none⟩] [2])
 (.ret))))
theorem s_impl_allPermutations : stripF Try.prog 42 [[0], [0, 3], [0, 3, 8, 9], [0, 3, 8, 9], [0, 3, 8, 9, 10], [0, 3, 4, 8, 9], [0, 3, 5, 8, 9], [0, 3, 8, 9], [0, 3, 8, 9], [2]] = some (c_impl_allPermutations, [.tmp 2], 24) := by kernel_rfl


theorem cmpSS_step (a : List (List Int)) (b : List (List Int)) (x : List Int) (i : Nat) (h : i < b.length) : cmpSS (x :: a) (b.drop i) = if cmpL x (b.getD i []) = 0 then cmpSS a (b.drop (i + 1)) else cmpL x (b.getD i []) := by
  rw [List.drop_eq_getElem_cons h, cmpSS]
  simp [List.getElem?_eq_getElem h]

def perms (n : Nat) : List (List Int) := (List.range (fct n)).map (perm n)
theorem allPermutations_fn (n : Nat) (hn : n ≤ 6) : PFn Try.prog f_impl_allPermutations [I n] (ilSS (perms n)) := by
  intro H; refine ACalls.introB s_impl_allPermutations (by simp) ?_; intro hB hA; unfold c_impl_allPermutations; simp (config := { maxSteps := 1000000 }) (disch := (first | omega | (simp only [go_sem]; try omega))) only [go_sem, Nat.reduceAdd, Nat.reduceEqDiff, Nat.reduceLeDiff, Nat.reduceMul, Nat.reduceLT, reduceIte, Int.reduceToNat, w64_id, cast_succ]
  have hf := fct_le hn
  repeat (first | (with_reducible first | refine SW.seq ?_ | refine SW.block ?_ | refine SW.rowC ?_ | refine SW.skip ?_ | refine SW.exit ?_ | refine PFn.use (implFact_fn n hn) ?_ | refine PFn.useq (implFact_fn n hn) ?_ | intro _ | refine And.intro (by omega) ?_) | simp (config := { maxSteps := 1000000 }) (disch := (first | omega | (simp only [go_sem]; try omega))) only [go_sem, Nat.reduceAdd, Nat.reduceEqDiff, Nat.reduceLeDiff, Nat.reduceMul, Nat.reduceLT, reduceIte, Int.reduceToNat, w64_id, cast_succ])
  refine SW.ghost (Gh.name 3 25 1 rfl) ?_
  simp (config := { maxSteps := 1000000 }) (disch := (first | omega | (simp only [go_sem]; try omega))) only [go_sem, Nat.reduceAdd, Nat.reduceEqDiff, Nat.reduceLeDiff, Nat.reduceMul, Nat.reduceLT, reduceIte, Int.reduceToNat, w64_id, cast_succ]
  unfold perms
  generalize hN : fct n = N at *
  refine SW.loopE (fun E0 H0 q E' H' => ∃ (m ver : Nat), m ≤ N ∧ q = N - m ∧ E' = aput (aput E0 9 (I m)) 3 (.nm H.length ver 0 ((List.range m).map (perm n)).length) ∧ H' = H ++ [⟨ver, tyLL, 1, ((List.range m).map (perm n)).map ilS⟩]) N ⟨0, 0, by omega, by omega, rfl, rfl⟩ ?_
  rintro q E' H' ⟨m, ver, hm, rfl, rfl, rfl⟩
  have hms : (List.range (m + 1)).map (perm n) = (List.range m).map (perm n) ++ [perm n m] := by simp [List.range_succ]
  have hml : ((List.range m).map (perm n)).length = m := by simp
  generalize hM : (List.range m).map (perm n) = M at *
  have htl : (M.map ilS).take m = M.map ilS := List.take_of_length_le (by simp [hml])
  simp (config := { maxSteps := 1000000 }) (disch := (first | omega | (simp only [go_sem]; try omega))) only [go_sem, Nat.reduceAdd, Nat.reduceEqDiff, Nat.reduceLeDiff, Nat.reduceMul, Nat.reduceLT, reduceIte, Int.reduceToNat, w64_id, cast_succ]
  repeat (first | (with_reducible first | refine SW.seq ?_ | refine SW.block ?_ | refine SW.rowC ?_ | refine SW.skip ?_ | refine SW.exit ?_ | intro _ | refine And.intro (by omega) ?_) | simp (config := { maxSteps := 1000000 }) (disch := (first | omega | (simp only [go_sem]; try omega))) only [go_sem, Nat.reduceAdd, Nat.reduceEqDiff, Nat.reduceLeDiff, Nat.reduceMul, Nat.reduceLT, reduceIte, Int.reduceToNat, w64_id, cast_succ])
  (first | refine SW.condD rfl (fun h => ?_) (fun h => ?_) | refine SW.condN rfl (fun h => ?_) (fun h => ?_) | refine SW.condNB rfl (fun h => ?_) (fun h => ?_) | refine SW.condB rfl (fun h => ?_) (fun h => ?_))
  · repeat (first | (with_reducible first | refine SW.seq ?_ | refine SW.block ?_ | refine SW.rowC ?_ | refine SW.skip ?_ | refine SW.exit ?_ | refine PFn.use (UnrankB_fn n m hn (by omega)) ?_ | refine PFn.useq (UnrankB_fn n m hn (by omega)) ?_ | intro _ | refine And.intro (by omega) ?_) | simp (config := { maxSteps := 1000000 }) (disch := (first | omega | (simp only [go_sem]; try omega))) only [go_sem, Nat.reduceAdd, Nat.reduceEqDiff, Nat.reduceLeDiff, Nat.reduceMul, Nat.reduceLT, reduceIte, Int.reduceToNat, w64_id, cast_succ, htl, hml])
    refine SLoop.nextT 1 (N - (m + 1)) hB (by omega) (by omega) (by simp) ?_ ?_ ⟨m + 1, ver + 1, by omega, rfl, ?_, ?_⟩
    · (simp only [go_sem, Nat.reduceAdd, Nat.reduceEqDiff, reduceIte, go_sem, and_self, and_true, true_and, implies_true, List.take_succ_cons, List.take_zero, and_true, true_and]; try omega)
    · (simp only [go_sem, Nat.reduceAdd, Nat.reduceEqDiff, reduceIte, go_sem, and_self, and_true, true_and, implies_true, List.take_succ_cons, List.take_zero, and_true, true_and]; try omega)
    · simp [go_sem]
    · rw [hms]; simp
  · have : m = N := by omega
    subst this
    rw [hM]
    repeat (first | (with_reducible first | refine SW.seq ?_ | refine SW.block ?_ | refine SW.rowC ?_ | refine SW.skip ?_ | refine SW.exit ?_ | intro _ | refine And.intro (by omega) ?_) | simp (config := { maxSteps := 1000000 }) (disch := (first | omega | (simp only [go_sem]; try omega))) only [go_sem, Nat.reduceAdd, Nat.reduceEqDiff, Nat.reduceLeDiff, Nat.reduceMul, Nat.reduceLT, reduceIte, Int.reduceToNat, w64_id, cast_succ])
    refine SW.ret ?_; (try simp only [go_sem]); (first | refine FunPost.one ?_ | refine FunPost.two ?_ | refine FunPost.three ?_); (try simp (config := { maxSteps := 1000000 }) (disch := (first | omega | (simp only [go_sem]; try omega))) only [go_sem, Nat.reduceAdd, Nat.reduceEqDiff, Nat.reduceLeDiff, Nat.reduceMul, Nat.reduceLT, reduceIte, Int.reduceToNat, w64_id, cast_succ])
    exact GR.froz (froz_rowS (r := H.length) (ver := ver) (ty := tyLL) (Nat.le_refl _) (by simp)) ⟨rfl, rfl⟩

theorem l00OwnF_fn (xs : List Int) (hl : xs.length ≤ 2000000) : PFn Try.prog f_spec_l00Own [ilS xs] (ilS xs) := by
  intro H
  refine (l00OwnB_ok H xs hl).gr ?_
  rintro r H' ⟨rfl, rfl⟩
  exact GR.froz (froz_rowI (r := H.length) (ver := 1) (ty := 2) (Nat.le_refl _) (by simp)) ⟨rfl, rfl⟩
end Go.Proofs.Ytkifdjjnbplghaa
