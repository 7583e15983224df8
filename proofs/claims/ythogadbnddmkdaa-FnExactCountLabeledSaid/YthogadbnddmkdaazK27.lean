/- Sets that fit to a system. -/
import Derived.Test.YthogadbnddmkdaaProg
import Derived.KernelRfl
import Derived.Test.YthogadbnddmkdaazK26
import Derived.Test.YthogadbnddmkdaazK28
import Derived.Test.YthogadbnddmkdaazK3
import Derived.Test.YthogadbnddmkdaazM2
set_option linter.unusedSimpArgs false
set_option linter.unusedVariables false
set_option maxHeartbeats 4000000
set_option maxRecDepth 100000
namespace Go.Proofs.Ythogadbnddmkdaa
open Go.Av
abbrev f_spec_l27Fits : Nat := 86
def c_spec_l27Fits : SC :=
 .seq (.reg [
     ⟨(some 6), .mv (.const (.bool false)), none⟩] [0, 1, 2])
 (.seq (.seq (.reg [
     ⟨(some 7), .mv (.const (.int .i64 0)), none⟩] [0, 1, 2, 7])
 (.block 0 (.loop [0, 1, 2, 7]
   (.seq (.seq (.reg [
       ⟨(some 8), .mv (.tmp 7), none⟩,
       ⟨(some 9), .mv (.tmp 0), none⟩,
       ⟨(some 10), .len (.tmp 9), none⟩,
       ⟨(some 11), .bin .lss (.tmp 8) (.tmp 10), none⟩] [0, 1, 2, 7, 11])
   (.cond (.tmp 11)
    (.skip)
    (.exit 0)))
   (.seq (.block 1 (.seq (.reg [
        ⟨(some 14), .mv (.tmp 0), none⟩,
        ⟨(some 15), .mv (.tmp 7), none⟩,
        ⟨(some 16), .iaddr 1 (.tmp 14) (.tmp 15), none⟩,
        ⟨(some 17), .load 1 false (.tmp 16), none⟩,
        ⟨(some 18), .mv (.tmp 1), none⟩,
        ⟨(some 19), .call 119 [(.tmp 17), (.tmp 18)], none⟩,
        ⟨(some 20), .mv (.tmp 19), none⟩,
        ⟨(some 21), .mv (.tmp 0), (some (20, false))⟩,
        ⟨(some 22), .mv (.tmp 7), (some (20, false))⟩,
        ⟨(some 23), .iaddr 1 (.tmp 21) (.tmp 22), (some (20, false))⟩,
        ⟨(some 24), .load 1 false (.tmp 23), (some (20, false))⟩,
        ⟨(some 25), .mv (.tmp 1), (some (20, false))⟩,
        ⟨(some 26), .call 120 [(.tmp 24), (.tmp 25), (.const (.bool true))], (some (20, false))⟩,
        ⟨(some 27), .len (.tmp 26), (some (20, false))⟩,
        ⟨(some 28), .mv (.tmp 2), (some (20, false))⟩,
        ⟨(some 29), .bin .gtr (.tmp 27) (.tmp 28), (some (20, false))⟩,
        ⟨(some 30), .pick (.tmp 20) (.const (.bool true)) (.tmp 29), none⟩] [0, 1, 2, 7, 30])
    (.cond (.tmp 30)
     (.seq (.reg [
         ⟨(some 6), .mv (.const (.bool false)), none⟩] [6])
     (.ret))
     (.skip))))
   (.reg [
       ⟨(some 12), .mv (.tmp 7), none⟩,
       ⟨(some 13), .bin .add (.tmp 12) (.const (.int .i64 1)), none⟩,
       ⟨(some 7), .mv (.tmp 13), none⟩] [0, 1, 2, 7]))))))
 (.seq (.reg [
     ⟨(some 6), .mv (.const (.bool true)), none⟩] [6])
 (.ret)))
theorem s_spec_l27Fits : stripF Try.prog 86 [[0, 1, 2], [0, 1, 2, 7], [0, 1, 2, 7], [0, 1, 2, 7, 11], [0, 1, 2, 7, 30], [6], [0, 1, 2, 7], [6]] = some (c_spec_l27Fits, [.tmp 6], 31) := by kernel_rfl
abbrev f_impl_common : Nat := 91
def c_impl_common : SC :=
 .seq (.reg [
     ⟨(some 4), .mv (.const (.int .i64 0)), none⟩] [0, 1])
 (.seq (.reg [
     ⟨(some 5), .mv (.const (.int .i64 0)), none⟩] [0, 1, 5])
 (.seq (.seq (.reg [
     ⟨(some 8), .mv (.tmp 0), none⟩,
     ⟨(some 9), .len (.tmp 8), none⟩,
     ⟨(some 10), .mv (.const (.int .i64 0)), none⟩] [1, 5, 8, 9, 10])
 (.block 0 (.loop [1, 5, 8, 9, 10]
   (.seq (.reg [
       ⟨(some 11), .bin .lss (.tmp 10) (.tmp 9), none⟩] [1, 5, 8, 9, 10, 11])
   (.seq (.cond (.tmp 11)
    (.skip)
    (.exit 0))
   (.seq (.block 1 (.seq (.reg [
        ⟨(some 12), .iaddr 1 (.tmp 8) (.tmp 10), none⟩,
        ⟨(some 13), .load 1 false (.tmp 12), none⟩,
        ⟨(some 7), .mv (.tmp 13), none⟩] [1, 5, 7, 8, 9, 10])
    (.seq (.reg [
        ⟨(some 14), .mv (.tmp 1), none⟩,
        ⟨(some 15), .mv (.tmp 7), none⟩,
        ⟨(some 16), .call 75 [(.tmp 14), (.tmp 15)], none⟩] [1, 5, 8, 9, 10, 16])
    (.cond (.tmp 16)
     (.reg [
         ⟨(some 17), .mv (.tmp 5), none⟩,
         ⟨(some 18), .bin .add (.tmp 17) (.const (.int .i64 1)), none⟩,
         ⟨(some 5), .mv (.tmp 18), none⟩] [1, 5, 8, 9, 10])
     (.skip)))))
   (.reg [
       ⟨(some 19), .bin .add (.tmp 10) (.const (.int .i64 1)), none⟩,
       ⟨(some 10), .mv (.tmp 19), none⟩] [1, 5, 8, 9, 10])))))))
 (.seq (.reg [
     ⟨(some 20), .mv (.tmp 5), none⟩,
     ⟨(some 4), .mv (.tmp 20), none⟩] [4])
 (.ret))))
theorem s_impl_common : stripF Try.prog 91 [[0, 1], [0, 1, 5], [1, 5, 8, 9, 10], [1, 5, 8, 9, 10], [1, 5, 8, 9, 10, 11], [1, 5, 7, 8, 9, 10], [1, 5, 8, 9, 10, 16], [1, 5, 8, 9, 10], [1, 5, 8, 9, 10], [4]] = some (c_impl_common, [.tmp 4], 21) := by kernel_rfl
abbrev f_spec_l00Same : Nat := 119
def c_spec_l00Same : SC :=
 .seq (.reg [
     ⟨(some 4), .mv (.const (.bool false)), none⟩] [0, 1])
 (.seq (.seq (.reg [
     ⟨(some 6), .mv (.tmp 0), none⟩,
     ⟨(some 7), .len (.tmp 6), none⟩,
     ⟨(some 8), .mv (.tmp 1), none⟩,
     ⟨(some 9), .len (.tmp 8), none⟩,
     ⟨(some 10), .bin .neq (.tmp 7) (.tmp 9), none⟩] [0, 1, 10])
 (.cond (.tmp 10)
  (.seq (.reg [
      ⟨(some 4), .mv (.const (.bool false)), none⟩] [4])
  (.ret))
  (.skip)))
 (.seq (.seq (.reg [
     ⟨(some 5), .mv (.const (.int .i64 0)), none⟩] [0, 1, 5])
 (.block 0 (.loop [0, 1, 5]
   (.seq (.seq (.reg [
       ⟨(some 11), .mv (.tmp 5), none⟩,
       ⟨(some 12), .mv (.tmp 0), none⟩,
       ⟨(some 13), .len (.tmp 12), none⟩,
       ⟨(some 14), .bin .lss (.tmp 11) (.tmp 13), none⟩] [0, 1, 5, 14])
   (.cond (.tmp 14)
    (.skip)
    (.exit 0)))
   (.seq (.block 1 (.seq (.reg [
        ⟨(some 17), .mv (.tmp 0), none⟩,
        ⟨(some 18), .mv (.tmp 5), none⟩,
        ⟨(some 19), .iaddr 1 (.tmp 17) (.tmp 18), none⟩,
        ⟨(some 20), .load 1 false (.tmp 19), none⟩,
        ⟨(some 21), .mv (.tmp 1), none⟩,
        ⟨(some 22), .mv (.tmp 5), none⟩,
        ⟨(some 23), .iaddr 1 (.tmp 21) (.tmp 22), none⟩,
        ⟨(some 24), .load 1 false (.tmp 23), none⟩,
        ⟨(some 25), .bin .neq (.tmp 20) (.tmp 24), none⟩] [0, 1, 5, 25])
    (.cond (.tmp 25)
     (.seq (.reg [
         ⟨(some 4), .mv (.const (.bool false)), none⟩] [4])
     (.ret))
     (.skip))))
   (.reg [
       ⟨(some 15), .mv (.tmp 5), none⟩,
       ⟨(some 16), .bin .add (.tmp 15) (.const (.int .i64 1)), none⟩,
       ⟨(some 5), .mv (.tmp 16), none⟩] [0, 1, 5]))))))
 (.seq (.reg [
     ⟨(some 4), .mv (.const (.bool true)), none⟩] [4])
 (.ret))))
theorem s_spec_l00Same : stripF Try.prog 119 [[0, 1], [0, 1, 10], [4], [0, 1, 5], [0, 1, 5], [0, 1, 5, 14], [0, 1, 5, 25], [4], [0, 1, 5], [4]] = some (c_spec_l00Same, [.tmp 4], 26) := by kernel_rfl
abbrev f_spec_l01Both : Nat := 120
def c_spec_l01Both : SC :=
 .seq (.reg [
     ⟨(some 6), .mv (.const (.slice none 0 0)), none⟩] [0, 1, 2])
 (.seq (.seq (.reg [
     ⟨(some 9), .mv (.tmp 0), none⟩,
     ⟨(some 10), .call 138 [(.tmp 9)], none⟩,
     ⟨(some 11), .un .not (.tmp 10), none⟩,
     ⟨(some 12), .mv (.tmp 11), none⟩,
     ⟨(some 13), .mv (.tmp 1), (some (12, false))⟩,
     ⟨(some 14), .call 138 [(.tmp 13)], (some (12, false))⟩,
     ⟨(some 15), .un .not (.tmp 14), (some (12, false))⟩,
     ⟨(some 16), .pick (.tmp 12) (.const (.bool true)) (.tmp 15), none⟩] [0, 1, 2, 16])
 (.cond (.tmp 16)
  (.seq (.reg [
      ⟨(some 6), .mv (.const (.slice none 0 0)), none⟩] [6])
  (.ret))
  (.skip)))
 (.seq (.reg [
     ⟨(some 17), .bslice 2 1 0 [] [], none⟩,
     ⟨(some 7), .mv (.tmp 17), none⟩] [0, 1, 2, 7])
 (.seq (.seq (.reg [
     ⟨(some 8), .mv (.const (.int .i64 0)), none⟩] [0, 1, 2, 7, 8])
 (.block 0 (.loop [0, 1, 2, 7, 8]
   (.seq (.seq (.reg [
       ⟨(some 18), .mv (.tmp 8), none⟩,
       ⟨(some 19), .mv (.tmp 0), none⟩,
       ⟨(some 20), .len (.tmp 19), none⟩,
       ⟨(some 21), .bin .lss (.tmp 18) (.tmp 20), none⟩] [0, 1, 2, 7, 8, 21])
   (.cond (.tmp 21)
    (.skip)
    (.exit 0)))
   (.seq (.block 1 (.seq (.reg [
        ⟨(some 24), .mv (.tmp 1), none⟩,
        ⟨(some 25), .mv (.tmp 0), none⟩,
        ⟨(some 26), .mv (.tmp 8), none⟩,
        ⟨(some 27), .iaddr 1 (.tmp 25) (.tmp 26), none⟩,
        ⟨(some 28), .load 1 false (.tmp 27), none⟩,
        ⟨(some 29), .call 139 [(.tmp 24), (.tmp 28)], none⟩,
        ⟨(some 30), .mv (.tmp 2), none⟩,
        ⟨(some 31), .binb false (.tmp 29) (.tmp 30), none⟩] [0, 1, 2, 7, 8, 31])
    (.cond (.tmp 31)
     (.reg [
         ⟨(some 32), .mv (.tmp 7), none⟩,
         ⟨(some 33), .mv (.tmp 0), none⟩,
         ⟨(some 34), .mv (.tmp 8), none⟩,
         ⟨(some 35), .iaddr 1 (.tmp 33) (.tmp 34), none⟩,
         ⟨(some 36), .load 1 false (.tmp 35), none⟩,
         ⟨(some 37), .bslice 2 1 1 [(.int .i64 0)] [(0, (.tmp 36))], none⟩,
         ⟨(some 38), .app 2 1 8 (.tmp 32) (.tmp 37), none⟩,
         ⟨(some 7), .mv (.tmp 38), none⟩] [0, 1, 2, 7, 8])
     (.skip))))
   (.reg [
       ⟨(some 22), .mv (.tmp 8), none⟩,
       ⟨(some 23), .bin .add (.tmp 22) (.const (.int .i64 1)), none⟩,
       ⟨(some 8), .mv (.tmp 23), none⟩] [0, 1, 2, 7, 8]))))))
 (.seq (.reg [
     ⟨(some 39), .mv (.tmp 7), none⟩,
     ⟨(some 6), .mv (.tmp 39), none⟩] [6])
 (.ret)))))
theorem s_spec_l01Both : stripF Try.prog 120 [[0, 1, 2], [0, 1, 2, 16], [6], [0, 1, 2, 7], [0, 1, 2, 7, 8], [0, 1, 2, 7, 8], [0, 1, 2, 7, 8, 21], [0, 1, 2, 7, 8, 31], [0, 1, 2, 7, 8], [0, 1, 2, 7, 8], [6]] = some (c_spec_l01Both, [.tmp 6], 40) := by kernel_rfl
abbrev f_spec_l01Set : Nat := 138
def c_spec_l01Set : SC :=
 .seq (.reg [
     ⟨(some 2), .mv (.const (.bool false)), none⟩] [0])
 (.seq (.reg [
     ⟨(some 3), .mv (.tmp 0), none⟩,
     ⟨(some 4), .call 150 [(.tmp 3), (.const (.int .i64 0)), (.const (.int .i64 31))], none⟩,
     ⟨(some 2), .mv (.tmp 4), none⟩] [2])
 (.ret))
theorem s_spec_l01Set : stripF Try.prog 138 [[0], [2]] = some (c_spec_l01Set, [.tmp 2], 5) := by kernel_rfl
theorem l00Same_fnU (xs ys : List Int) : PFn Try.prog f_spec_l00Same [ilS xs, ilS ys] (Bv (decide (xs = ys))) := fun H => eqS_of s_spec_l00Same H _ _ xs ys (rd_ilS _ _) (rd_ilS _ _)
def comm (a b : List Int) : Nat := a.countP b.contains
theorem common_fn (a b : List Int) (hl : a.length ≤ 1000000) : PFn Try.prog f_impl_common [ilS a, ilS b] (I (comm a b)) := by
  intro H; refine ACalls.introB s_impl_common (by simp) ?_; intro hB hA; unfold c_impl_common; simp (config := { maxSteps := 1000000 }) (disch := (first | omega | (simp only [go_sem]; try omega))) only [go_sem, Nat.reduceAdd, Nat.reduceEqDiff, Nat.reduceLeDiff, Nat.reduceMul, Nat.reduceLT, reduceIte, Int.reduceToNat, w64_id, cast_succ]
  repeat (first | (with_reducible first | refine SW.seq ?_ | refine SW.block ?_ | refine SW.rowC ?_ | refine SW.skip ?_ | refine SW.exit ?_ | intro _ | refine And.intro (by omega) ?_) | simp (config := { maxSteps := 1000000 }) (disch := (first | omega | (simp only [go_sem]; try omega))) only [go_sem, Nat.reduceAdd, Nat.reduceEqDiff, Nat.reduceLeDiff, Nat.reduceMul, Nat.reduceLT, reduceIte, Int.reduceToNat, w64_id, cast_succ])
  refine SW.loopE (fun E0 H0 q E' H' => ∃ (pre post : List Int), a = pre ++ post ∧ q = post.length ∧ E' = aput (aput E0 10 (I pre.length)) 5 (I (comm pre b)) ∧ H' = H0) a.length ⟨[], a, rfl, rfl, rfl, rfl⟩ ?_
  rintro q E' H' ⟨pre, post, hq, rfl, rfl, rfl⟩
  have hc : comm pre b ≤ 1000000 := by
    have h1 := List.countP_le_length (p := b.contains) (l := pre)
    have h2 : pre.length ≤ a.length := by rw [hq]; simp
    unfold comm; omega
  have hsn : ∀ x, comm (pre ++ [x]) b = comm pre b + (if b.contains x then 1 else 0) := by
    intro x; simp only [comm, List.countP_append, List.countP_singleton]
  generalize hcc : comm pre b = c at *
  simp (config := { maxSteps := 1000000 }) (disch := (first | omega | (simp only [go_sem]; try omega))) only [go_sem, Nat.reduceAdd, Nat.reduceEqDiff, Nat.reduceLeDiff, Nat.reduceMul, Nat.reduceLT, reduceIte, Int.reduceToNat, w64_id, cast_succ]
  repeat (first | (with_reducible first | refine SW.seq ?_ | refine SW.block ?_ | refine SW.rowC ?_ | refine SW.skip ?_ | refine SW.exit ?_ | intro _ | refine And.intro (by omega) ?_) | simp (config := { maxSteps := 1000000 }) (disch := (first | omega | (simp only [go_sem]; try omega))) only [go_sem, Nat.reduceAdd, Nat.reduceEqDiff, Nat.reduceLeDiff, Nat.reduceMul, Nat.reduceLT, reduceIte, Int.reduceToNat, w64_id, cast_succ])
  (first | refine SW.condD rfl (fun h => ?_) (fun h => ?_) | refine SW.condN rfl (fun h => ?_) (fun h => ?_) | refine SW.condNB rfl (fun h => ?_) (fun h => ?_) | refine SW.condB rfl (fun h => ?_) (fun h => ?_))
  · obtain ⟨x, post, rfl, hg, -⟩ := consOf (d := 0) hq (by omega)
    repeat (first | (with_reducible first | refine SW.seq ?_ | refine SW.block ?_ | refine SW.rowC ?_ | refine SW.skip ?_ | refine SW.exit ?_ | refine PFn.use (ContainsI_fn _ _) ?_ | refine PFn.useq (ContainsI_fn _ _) ?_ | intro _ | refine And.intro (by omega) ?_) | simp (config := { maxSteps := 1000000 }) (disch := (first | omega | (simp only [go_sem]; try omega))) only [go_sem, Nat.reduceAdd, Nat.reduceEqDiff, Nat.reduceLeDiff, Nat.reduceMul, Nat.reduceLT, reduceIte, Int.reduceToNat, w64_id, cast_succ, hg])
    (first | refine SW.condD rfl (fun h2 => ?_) (fun h2 => ?_) | refine SW.condN rfl (fun h2 => ?_) (fun h2 => ?_) | refine SW.condNB rfl (fun h2 => ?_) (fun h2 => ?_) | refine SW.condB rfl (fun h2 => ?_) (fun h2 => ?_))
    · repeat (first | (with_reducible first | refine SW.seq ?_ | refine SW.block ?_ | refine SW.rowC ?_ | refine SW.skip ?_ | refine SW.exit ?_ | intro _ | refine And.intro (by omega) ?_) | simp (config := { maxSteps := 1000000 }) (disch := (first | omega | (simp only [go_sem]; try omega))) only [go_sem, Nat.reduceAdd, Nat.reduceEqDiff, Nat.reduceLeDiff, Nat.reduceMul, Nat.reduceLT, reduceIte, Int.reduceToNat, w64_id, cast_succ])
      refine SLoop.next post.length (by simp) ⟨pre ++ [x], post, by simp [hq], rfl, ?_, rfl⟩
      rw [hsn, if_pos h2]; simp [go_sem]
    · repeat (first | (with_reducible first | refine SW.seq ?_ | refine SW.block ?_ | refine SW.rowC ?_ | refine SW.skip ?_ | refine SW.exit ?_ | intro _ | refine And.intro (by omega) ?_) | simp (config := { maxSteps := 1000000 }) (disch := (first | omega | (simp only [go_sem]; try omega))) only [go_sem, Nat.reduceAdd, Nat.reduceEqDiff, Nat.reduceLeDiff, Nat.reduceMul, Nat.reduceLT, reduceIte, Int.reduceToNat, w64_id, cast_succ])
      refine SLoop.next post.length (by simp) ⟨pre ++ [x], post, by simp [hq], rfl, ?_, rfl⟩
      rw [hsn, if_neg (by simpa using h2)]; simp [go_sem]
  · obtain ⟨rfl, rfl⟩ := nilOf hq (by omega)
    repeat (first | (with_reducible first | refine SW.seq ?_ | refine SW.block ?_ | refine SW.rowC ?_ | refine SW.skip ?_ | refine SW.exit ?_ | intro _ | refine And.intro (by omega) ?_) | simp (config := { maxSteps := 1000000 }) (disch := (first | omega | (simp only [go_sem]; try omega))) only [go_sem, Nat.reduceAdd, Nat.reduceEqDiff, Nat.reduceLeDiff, Nat.reduceMul, Nat.reduceLT, reduceIte, Int.reduceToNat, w64_id, cast_succ])
    refine SW.ret ?_; (try simp only [go_sem]); (first | refine FunPost.one ?_ | refine FunPost.two ?_ | refine FunPost.three ?_); (try simp (config := { maxSteps := 1000000 }) (disch := (first | omega | (simp only [go_sem]; try omega))) only [go_sem, Nat.reduceAdd, Nat.reduceEqDiff, Nat.reduceLeDiff, Nat.reduceMul, Nat.reduceLT, reduceIte, Int.reduceToNat, w64_id, cast_succ]); (first | (with_reducible refine GR.drop ?_ ?_; (simp only [go_sem, and_self, and_true, true_and, implies_true, List.take_succ_cons, List.take_zero])) | refine GR.of ?_); refine ⟨?_, rfl⟩; (try with_reducible rfl)
    rw [hcc]
def fitB (xss : List (List Int)) (s : Int) (set : List Int) : Bool := !xss.any fun b => decide (b = set) || decide (s < comm b set)
def kept (S : List (List Int)) (P : List Int → Bool) (i : Nat) : List Nat := (List.range i).filter fun j => P (S.getD j [])
theorem l01Set_fn (xs : List Int) (hx : ∀ x ∈ xs, (Lit.int .i64 x).wf = true) : PFn Try.prog f_spec_l01Set [ilS xs] (Bv (asc 0 31 xs)) := by
  intro H; refine ACalls.introB s_spec_l01Set (by simp) ?_; intro hB hA; unfold c_spec_l01Set; simp (config := { maxSteps := 1000000 }) (disch := (first | omega | (simp only [go_sem]; try omega))) only [go_sem, Nat.reduceAdd, Nat.reduceEqDiff, Nat.reduceLeDiff, Nat.reduceMul, Nat.reduceLT, reduceIte, Int.reduceToNat, w64_id, cast_succ]
  repeat (first | (with_reducible first | refine SW.seq ?_ | refine SW.block ?_ | refine SW.rowC ?_ | refine SW.skip ?_ | refine SW.exit ?_ | refine PFn.use (l00Rises_fn xs 0 31 hx) ?_ | refine PFn.useq (l00Rises_fn xs 0 31 hx) ?_ | intro _ | refine And.intro (by omega) ?_) | simp (config := { maxSteps := 1000000 }) (disch := (first | omega | (simp only [go_sem]; try omega))) only [go_sem, Nat.reduceAdd, Nat.reduceEqDiff, Nat.reduceLeDiff, Nat.reduceMul, Nat.reduceLT, reduceIte, Int.reduceToNat, w64_id, cast_succ])
  refine SW.ret ?_; (try simp only [go_sem]); (first | refine FunPost.one ?_ | refine FunPost.two ?_ | refine FunPost.three ?_); (try simp (config := { maxSteps := 1000000 }) (disch := (first | omega | (simp only [go_sem]; try omega))) only [go_sem, Nat.reduceAdd, Nat.reduceEqDiff, Nat.reduceLeDiff, Nat.reduceMul, Nat.reduceLT, reduceIte, Int.reduceToNat, w64_id, cast_succ]); (first | (with_reducible refine GR.drop ?_ ?_; (simp only [go_sem, and_self, and_true, true_and, implies_true, List.take_succ_cons, List.take_zero])) | refine GR.of ?_); refine ⟨?_, rfl⟩; (try with_reducible rfl)
theorem wfOf {x : Int} (h : -9223372036854775808 ≤ x ∧ x ≤ 9223372036854775807) : (Lit.int .i64 x).wf = true := by
  simp [Lit.wf, IntKind.min, IntKind.max, IntKind.signed, IntKind.bits]
  omega
theorem wfAsc {l : List Int} {n : Int} (h0 : n ≤ 1000) (hl : asc 0 n l = true) : ∀ x ∈ l, (Lit.int .i64 x).wf = true := fun x hx => by
  have := asc_mem hl x hx
  exact wfOf (by omega)
theorem asc_weak : ∀ {l : List Int} {lo hi hi' : Int}, hi ≤ hi' → asc lo hi l = true → asc lo hi' l = true
  | [], _, _, _, _, _ => rfl
  | x :: l, lo, hi, hi', hh, h => by
    simp only [asc, Bool.and_eq_true, decide_eq_true_eq] at h ⊢
    exact ⟨⟨h.1.1, by omega⟩, asc_weak hh h.2⟩
theorem l01Both_fn (a b : List Int) (h1 : asc 0 31 a = true) (h2 : asc 0 31 b = true) : PFn Try.prog f_spec_l01Both [ilS a, ilS b, Bv true] (ilS (a.filter b.contains)) := by
  have hs1 := l01Set_fn a (wfAsc (by omega) h1)
  have hs2 := l01Set_fn b (wfAsc (by omega) h2)
  rw [h1] at hs1
  rw [h2] at hs2
  have hal : a.length ≤ 32 := by rcases asc_len h1 with h | h <;> simp_all; omega
  intro H; refine ACalls.introB s_spec_l01Both (by simp) ?_; intro hB hA; unfold c_spec_l01Both; simp (config := { maxSteps := 1000000 }) (disch := (first | omega | (simp only [go_sem]; try omega))) only [go_sem, Nat.reduceAdd, Nat.reduceEqDiff, Nat.reduceLeDiff, Nat.reduceMul, Nat.reduceLT, reduceIte, Int.reduceToNat, w64_id, cast_succ]
  repeat (first | (with_reducible first | refine SW.seq ?_ | refine SW.block ?_ | refine SW.rowC ?_ | refine SW.skip ?_ | refine SW.exit ?_ | refine PFn.use (hs1) ?_ | refine PFn.useq (hs1) ?_ | refine PFn.use (hs2) ?_ | refine PFn.useq (hs2) ?_ | intro _ | refine And.intro (by omega) ?_) | simp (config := { maxSteps := 1000000 }) (disch := (first | omega | (simp only [go_sem]; try omega))) only [go_sem, Nat.reduceAdd, Nat.reduceEqDiff, Nat.reduceLeDiff, Nat.reduceMul, Nat.reduceLT, reduceIte, Int.reduceToNat, w64_id, cast_succ])
  refine SW.condF rfl ?_
  repeat (first | (with_reducible first | refine SW.seq ?_ | refine SW.block ?_ | refine SW.rowC ?_ | refine SW.skip ?_ | refine SW.exit ?_ | intro _ | refine And.intro (by omega) ?_) | simp (config := { maxSteps := 1000000 }) (disch := (first | omega | (simp only [go_sem]; try omega))) only [go_sem, Nat.reduceAdd, Nat.reduceEqDiff, Nat.reduceLeDiff, Nat.reduceMul, Nat.reduceLT, reduceIte, Int.reduceToNat, w64_id, cast_succ])
  refine SW.loopE (fun E0 H0 q E' H' => ∃ (pre post : List Int) (ver : Nat), a = pre ++ post ∧ q = post.length ∧ E' = aput (aput E0 8 (I pre.length)) 7 (.nm H.length ver 0 (pre.filter b.contains).length) ∧ H' = H ++ [⟨ver, 2, 1, (pre.filter b.contains).map I⟩]) a.length ⟨[], a, 0, rfl, rfl, rfl, rfl⟩ ?_
  rintro q E' H' ⟨pre, post, ver, hq, rfl, rfl, rfl⟩
  have hfl := List.length_filter_le b.contains pre
  have hpl : pre.length ≤ a.length := by rw [hq]; simp
  have hsn : ∀ x, (pre ++ [x]).filter b.contains = pre.filter b.contains ++ (if b.contains x then [x] else []) := by
    intro x; rw [List.filter_append, List.filter_cons, List.filter_nil]
  generalize hF : pre.filter b.contains = F at *
  simp (config := { maxSteps := 1000000 }) (disch := (first | omega | (simp only [go_sem]; try omega))) only [go_sem, Nat.reduceAdd, Nat.reduceEqDiff, Nat.reduceLeDiff, Nat.reduceMul, Nat.reduceLT, reduceIte, Int.reduceToNat, w64_id, cast_succ]
  repeat (first | (with_reducible first | refine SW.seq ?_ | refine SW.block ?_ | refine SW.rowC ?_ | refine SW.skip ?_ | refine SW.exit ?_ | intro _ | refine And.intro (by omega) ?_) | simp (config := { maxSteps := 1000000 }) (disch := (first | omega | (simp only [go_sem]; try omega))) only [go_sem, Nat.reduceAdd, Nat.reduceEqDiff, Nat.reduceLeDiff, Nat.reduceMul, Nat.reduceLT, reduceIte, Int.reduceToNat, w64_id, cast_succ])
  (first | refine SW.condD rfl (fun h => ?_) (fun h => ?_) | refine SW.condN rfl (fun h => ?_) (fun h => ?_) | refine SW.condNB rfl (fun h => ?_) (fun h => ?_) | refine SW.condB rfl (fun h => ?_) (fun h => ?_))
  · obtain ⟨x, post, rfl, hg, -⟩ := consOf (d := 0) hq (by omega)
    repeat (first | (with_reducible first | refine SW.seq ?_ | refine SW.block ?_ | refine SW.rowC ?_ | refine SW.skip ?_ | refine SW.exit ?_ | refine PFn.use (l00Has_fn _ _) ?_ | refine PFn.useq (l00Has_fn _ _) ?_ | intro _ | refine And.intro (by omega) ?_) | simp (config := { maxSteps := 1000000 }) (disch := (first | omega | (simp only [go_sem]; try omega))) only [go_sem, Nat.reduceAdd, Nat.reduceEqDiff, Nat.reduceLeDiff, Nat.reduceMul, Nat.reduceLT, reduceIte, Int.reduceToNat, w64_id, cast_succ, hg])
    cases hc : b.contains x
    · refine SW.condF (by simp [go_sem]) ?_
      repeat (first | (with_reducible first | refine SW.seq ?_ | refine SW.block ?_ | refine SW.rowC ?_ | refine SW.skip ?_ | refine SW.exit ?_ | intro _ | refine And.intro (by omega) ?_) | simp (config := { maxSteps := 1000000 }) (disch := (first | omega | (simp only [go_sem]; try omega))) only [go_sem, Nat.reduceAdd, Nat.reduceEqDiff, Nat.reduceLeDiff, Nat.reduceMul, Nat.reduceLT, reduceIte, Int.reduceToNat, w64_id, cast_succ])
      refine SLoop.next post.length (by simp) ⟨pre ++ [x], post, ver, by simp [hq], rfl, ?_, ?_⟩
      · rw [hsn, hc]; simp [go_sem]
      · rw [hsn, hc]; simp
    · refine SW.condT (by simp [go_sem]) ?_
      repeat (first | (with_reducible first | refine SW.seq ?_ | refine SW.block ?_ | refine SW.rowC ?_ | refine SW.skip ?_ | refine SW.exit ?_ | intro _ | refine And.intro (by omega) ?_) | simp (config := { maxSteps := 1000000 }) (disch := (first | omega | (simp only [go_sem]; try omega))) only [go_sem, Nat.reduceAdd, Nat.reduceEqDiff, Nat.reduceLeDiff, Nat.reduceMul, Nat.reduceLT, reduceIte, Int.reduceToNat, w64_id, cast_succ, hg])
      refine SLoop.nextT 1 post.length hB (by omega) (by simp) (by simp) ?_ ?_ ⟨pre ++ [x], post, ver + 1, by simp [hq], rfl, ?_, ?_⟩
      · (simp only [go_sem, Nat.reduceAdd, Nat.reduceEqDiff, reduceIte, go_sem, and_self, and_true, true_and, implies_true, List.take_succ_cons, List.take_zero, and_true, true_and]; try omega)
      · (simp only [go_sem, Nat.reduceAdd, Nat.reduceEqDiff, reduceIte, go_sem, and_self, and_true, true_and, implies_true, List.take_succ_cons, List.take_zero, and_true, true_and]; try omega)
      · rw [hsn, hc]; simp [go_sem]
      · rw [hsn, hc]; simp
  · obtain ⟨rfl, rfl⟩ := nilOf hq (by omega)
    repeat (first | (with_reducible first | refine SW.seq ?_ | refine SW.block ?_ | refine SW.rowC ?_ | refine SW.skip ?_ | refine SW.exit ?_ | intro _ | refine And.intro (by omega) ?_) | simp (config := { maxSteps := 1000000 }) (disch := (first | omega | (simp only [go_sem]; try omega))) only [go_sem, Nat.reduceAdd, Nat.reduceEqDiff, Nat.reduceLeDiff, Nat.reduceMul, Nat.reduceLT, reduceIte, Int.reduceToNat, w64_id, cast_succ])
    refine SW.ret ?_; (try simp only [go_sem]); (first | refine FunPost.one ?_ | refine FunPost.two ?_ | refine FunPost.three ?_); (try simp (config := { maxSteps := 1000000 }) (disch := (first | omega | (simp only [go_sem]; try omega))) only [go_sem, Nat.reduceAdd, Nat.reduceEqDiff, Nat.reduceLeDiff, Nat.reduceMul, Nat.reduceLT, reduceIte, Int.reduceToNat, w64_id, cast_succ])
    rw [hF]
    exact GR.froz (froz_rowI (ver := ver) (ty := 2) (Nat.le_refl _) (by simp)) ⟨rfl, rfl⟩
theorem l27Fits_fn (xss : List (List Int)) (set : List Int) (s : Int) (hb : ∀ b ∈ xss, asc 0 31 b = true) (hs : asc 0 31 set = true) : PFn Try.prog f_spec_l27Fits [ilSS xss, ilS set, I s] (Bv (fitB xss s set)) := by
  intro H; refine ACalls.introB s_spec_l27Fits (by simp) ?_; intro hB hA; unfold c_spec_l27Fits; simp (config := { maxSteps := 1000000 }) (disch := (first | omega | (simp only [go_sem]; try omega))) only [go_sem, Nat.reduceAdd, Nat.reduceEqDiff, Nat.reduceLeDiff, Nat.reduceMul, Nat.reduceLT, reduceIte, Int.reduceToNat, w64_id, cast_succ]
  repeat (first | (with_reducible first | refine SW.seq ?_ | refine SW.block ?_ | refine SW.rowC ?_ | refine SW.skip ?_ | refine SW.exit ?_ | intro _ | refine And.intro (by omega) ?_) | simp (config := { maxSteps := 1000000 }) (disch := (first | omega | (simp only [go_sem]; try omega))) only [go_sem, Nat.reduceAdd, Nat.reduceEqDiff, Nat.reduceLeDiff, Nat.reduceMul, Nat.reduceLT, reduceIte, Int.reduceToNat, w64_id, cast_succ])
  refine SW.loopE (fun E0 H0 q E' H' => ∃ (pre post : List (List Int)), xss = pre ++ post ∧ q = post.length ∧ E' = aput E0 7 (I pre.length) ∧ H' = H0 ∧ fitB pre s set = true) xss.length ⟨[], xss, rfl, rfl, rfl, rfl, rfl⟩ ?_
  rintro q E' H' ⟨pre, post, hq, rfl, rfl, rfl, ha⟩
  simp (config := { maxSteps := 1000000 }) (disch := (first | omega | (simp only [go_sem]; try omega))) only [go_sem, Nat.reduceAdd, Nat.reduceEqDiff, Nat.reduceLeDiff, Nat.reduceMul, Nat.reduceLT, reduceIte, Int.reduceToNat, w64_id, cast_succ]
  repeat (first | (with_reducible first | refine SW.seq ?_ | refine SW.block ?_ | refine SW.rowC ?_ | refine SW.skip ?_ | refine SW.exit ?_ | intro _ | refine And.intro (by omega) ?_) | simp (config := { maxSteps := 1000000 }) (disch := (first | omega | (simp only [go_sem]; try omega))) only [go_sem, Nat.reduceAdd, Nat.reduceEqDiff, Nat.reduceLeDiff, Nat.reduceMul, Nat.reduceLT, reduceIte, Int.reduceToNat, w64_id, cast_succ])
  (first | refine SW.condD rfl (fun h => ?_) (fun h => ?_) | refine SW.condN rfl (fun h => ?_) (fun h => ?_) | refine SW.condNB rfl (fun h => ?_) (fun h => ?_) | refine SW.condB rfl (fun h => ?_) (fun h => ?_))
  · obtain ⟨b, post, rfl, hg, -⟩ := consOf (d := []) hq (by omega)
    have hbb := hb b (by rw [hq]; simp)
    have hfl : (b.filter set.contains).length = comm b set := by unfold comm; rw [List.countP_eq_length_filter]
    have hbl : b.length ≤ 32 := by
      rcases asc_len hbb with h | h
      · rw [h]; simp
      · omega
    have hcl : comm b set ≤ 32 := by have := List.countP_le_length (p := set.contains) (l := b); unfold comm; omega
    have bad : (decide (b = set) || decide (s < comm b set)) = true → fitB xss s set = false := by
      intro h; rw [fitB, hq, List.any_append, List.any_cons, h]; simp
    have good : (decide (b = set) || decide (s < comm b set)) = false → fitB (pre ++ [b]) s set = true := by
      intro h
      rw [fitB, Bool.not_eq_true'] at ha ⊢
      rw [List.any_append, ha, List.any_cons, h]; rfl
    repeat (first | (with_reducible first | refine SW.seq ?_ | refine SW.block ?_ | refine SW.rowC ?_ | refine SW.skip ?_ | refine SW.exit ?_ | refine PFn.use (l00Same_fnU _ _) ?_ | refine PFn.useq (l00Same_fnU _ _) ?_ | intro _ | refine And.intro (by omega) ?_) | simp (config := { maxSteps := 1000000 }) (disch := (first | omega | (simp only [go_sem]; try omega))) only [go_sem, Nat.reduceAdd, Nat.reduceEqDiff, Nat.reduceLeDiff, Nat.reduceMul, Nat.reduceLT, reduceIte, Int.reduceToNat, w64_id, cast_succ, hg])
    (first | refine GSplit.df (fun h2 => ?_) (fun h2 => ?_) | refine GSplit.dt (fun h2 => ?_) (fun h2 => ?_) | refine GSplit.ndf (fun h2 => ?_) (fun h2 => ?_) | refine GSplit.ndt (fun h2 => ?_) (fun h2 => ?_) | refine GSplit.nbf (fun h2 => ?_) (fun h2 => ?_) | refine GSplit.nbt (fun h2 => ?_) (fun h2 => ?_) | refine GSplit.bf (fun h2 => ?_) (fun h2 => ?_) | refine GSplit.bt (fun h2 => ?_) (fun h2 => ?_))
    · repeat (first | (with_reducible first | refine SW.seq ?_ | refine SW.block ?_ | refine SW.rowC ?_ | refine SW.skip ?_ | refine SW.exit ?_ | refine PFn.use (l01Both_fn b set hbb hs) ?_ | refine PFn.useq (l01Both_fn b set hbb hs) ?_ | intro _ | refine And.intro (by omega) ?_) | simp (config := { maxSteps := 1000000 }) (disch := (first | omega | (simp only [go_sem]; try omega))) only [go_sem, Nat.reduceAdd, Nat.reduceEqDiff, Nat.reduceLeDiff, Nat.reduceMul, Nat.reduceLT, reduceIte, Int.reduceToNat, w64_id, cast_succ, hg])
      (first | refine SW.condD rfl (fun h3 => ?_) (fun h3 => ?_) | refine SW.condN rfl (fun h3 => ?_) (fun h3 => ?_) | refine SW.condNB rfl (fun h3 => ?_) (fun h3 => ?_) | refine SW.condB rfl (fun h3 => ?_) (fun h3 => ?_))
      · repeat (first | (with_reducible first | refine SW.seq ?_ | refine SW.block ?_ | refine SW.rowC ?_ | refine SW.skip ?_ | refine SW.exit ?_ | intro _ | refine And.intro (by omega) ?_) | simp (config := { maxSteps := 1000000 }) (disch := (first | omega | (simp only [go_sem]; try omega))) only [go_sem, Nat.reduceAdd, Nat.reduceEqDiff, Nat.reduceLeDiff, Nat.reduceMul, Nat.reduceLT, reduceIte, Int.reduceToNat, w64_id, cast_succ])
        refine SW.ret ?_; (try simp only [go_sem]); (first | refine FunPost.one ?_ | refine FunPost.two ?_ | refine FunPost.three ?_); (try simp (config := { maxSteps := 1000000 }) (disch := (first | omega | (simp only [go_sem]; try omega))) only [go_sem, Nat.reduceAdd, Nat.reduceEqDiff, Nat.reduceLeDiff, Nat.reduceMul, Nat.reduceLT, reduceIte, Int.reduceToNat, w64_id, cast_succ]); (first | (with_reducible refine GR.drop ?_ ?_; (simp only [go_sem, and_self, and_true, true_and, implies_true, List.take_succ_cons, List.take_zero])) | refine GR.of ?_); refine ⟨?_, rfl⟩; (try with_reducible rfl)
        rw [bad (by rw [Bool.or_eq_true]; right; rw [decide_eq_true_eq, ← hfl]; exact h3)]
      · repeat (first | (with_reducible first | refine SW.seq ?_ | refine SW.block ?_ | refine SW.rowC ?_ | refine SW.skip ?_ | refine SW.exit ?_ | intro _ | refine And.intro (by omega) ?_) | simp (config := { maxSteps := 1000000 }) (disch := (first | omega | (simp only [go_sem]; try omega))) only [go_sem, Nat.reduceAdd, Nat.reduceEqDiff, Nat.reduceLeDiff, Nat.reduceMul, Nat.reduceLT, reduceIte, Int.reduceToNat, w64_id, cast_succ])
        refine SLoop.next post.length (by simp) ⟨pre ++ [b], post, by simp [hq], rfl, ?_, rfl, good ?_⟩
        · simp [go_sem]
        · rw [decide_eq_false h2, decide_eq_false (by rw [← hfl]; exact h3)]; rfl
    · repeat (first | (with_reducible first | refine SW.seq ?_ | refine SW.block ?_ | refine SW.rowC ?_ | refine SW.skip ?_ | refine SW.exit ?_ | intro _ | refine And.intro (by omega) ?_) | simp (config := { maxSteps := 1000000 }) (disch := (first | omega | (simp only [go_sem]; try omega))) only [go_sem, Nat.reduceAdd, Nat.reduceEqDiff, Nat.reduceLeDiff, Nat.reduceMul, Nat.reduceLT, reduceIte, Int.reduceToNat, w64_id, cast_succ])
      (first | refine SW.condD rfl (fun h3 => ?_) (fun h3 => ?_) | refine SW.condN rfl (fun h3 => ?_) (fun h3 => ?_) | refine SW.condNB rfl (fun h3 => ?_) (fun h3 => ?_) | refine SW.condB rfl (fun h3 => ?_) (fun h3 => ?_))
      · repeat (first | (with_reducible first | refine SW.seq ?_ | refine SW.block ?_ | refine SW.rowC ?_ | refine SW.skip ?_ | refine SW.exit ?_ | intro _ | refine And.intro (by omega) ?_) | simp (config := { maxSteps := 1000000 }) (disch := (first | omega | (simp only [go_sem]; try omega))) only [go_sem, Nat.reduceAdd, Nat.reduceEqDiff, Nat.reduceLeDiff, Nat.reduceMul, Nat.reduceLT, reduceIte, Int.reduceToNat, w64_id, cast_succ])
        refine SW.ret ?_; (try simp only [go_sem]); (first | refine FunPost.one ?_ | refine FunPost.two ?_ | refine FunPost.three ?_); (try simp (config := { maxSteps := 1000000 }) (disch := (first | omega | (simp only [go_sem]; try omega))) only [go_sem, Nat.reduceAdd, Nat.reduceEqDiff, Nat.reduceLeDiff, Nat.reduceMul, Nat.reduceLT, reduceIte, Int.reduceToNat, w64_id, cast_succ]); (first | (with_reducible refine GR.drop ?_ ?_; (simp only [go_sem, and_self, and_true, true_and, implies_true, List.take_succ_cons, List.take_zero])) | refine GR.of ?_); refine ⟨?_, rfl⟩; (try with_reducible rfl)
        rw [bad (by rw [Bool.or_eq_true]; left; rw [decide_eq_true_eq]; exact h2)]
      · cases h3
  · obtain ⟨rfl, rfl⟩ := nilOf hq (by omega)
    repeat (first | (with_reducible first | refine SW.seq ?_ | refine SW.block ?_ | refine SW.rowC ?_ | refine SW.skip ?_ | refine SW.exit ?_ | intro _ | refine And.intro (by omega) ?_) | simp (config := { maxSteps := 1000000 }) (disch := (first | omega | (simp only [go_sem]; try omega))) only [go_sem, Nat.reduceAdd, Nat.reduceEqDiff, Nat.reduceLeDiff, Nat.reduceMul, Nat.reduceLT, reduceIte, Int.reduceToNat, w64_id, cast_succ])
    refine SW.ret ?_; (try simp only [go_sem]); (first | refine FunPost.one ?_ | refine FunPost.two ?_ | refine FunPost.three ?_); (try simp (config := { maxSteps := 1000000 }) (disch := (first | omega | (simp only [go_sem]; try omega))) only [go_sem, Nat.reduceAdd, Nat.reduceEqDiff, Nat.reduceLeDiff, Nat.reduceMul, Nat.reduceLT, reduceIte, Int.reduceToNat, w64_id, cast_succ]); (first | (with_reducible refine GR.drop ?_ ?_; (simp only [go_sem, and_self, and_true, true_and, implies_true, List.take_succ_cons, List.take_zero])) | refine GR.of ?_); refine ⟨?_, rfl⟩; (try with_reducible rfl)
    rw [ha]
end Go.Proofs.Ythogadbnddmkdaa
