/- Graphs of squares: the program. -/
import Derived.Test.YtonfknfphdeenaaProg
import Derived.KernelRfl
import Derived.Test.YtonfknfphdeenaaQ5
import Derived.Test.YtonfknfphdeenaaQ4
import Derived.Test.YtonfknfphdeenaaQ3
import Derived.Test.YtonfknfphdeenaaT0
import Derived.Test.YtonfknfphdeenaaE6
set_option linter.unusedSimpArgs false
set_option linter.unusedVariables false
set_option maxHeartbeats 4000000
set_option maxRecDepth 100000
namespace Go.Proofs.Ytonfknfphdeenaa
open Go.Av

/-! The abstract code of functions, printed by program and tied to the program by the kernel. -/
/-- loop.example/g00920/impl.SquareGraph -/
abbrev f_impl_SquareGraph : Nat := 36
def c_impl_SquareGraph : SC :=
 .seq (.reg [
     ⟨(some 4), .alloc 38 [(.slice none 0 0), (.slice none 0 0)], none⟩,
     ⟨(some 5), .mv (.const (.int .i64 0)), none⟩] [0, 1, 4])
 (.seq (.seq (.reg [
     ⟨(some 14), .mv (.tmp 0), none⟩,
     ⟨(some 15), .call 78 [(.tmp 14)], none⟩,
     ⟨(some 16), .un .not (.tmp 15), none⟩] [0, 1, 4, 16])
 (.cond (.tmp 16)
  (.seq (.reg [
      ⟨(some 17), .build [(.slice none 0 0), (.slice none 0 0)] [], none⟩,
      ⟨none, .store 2 (.tmp 4) (.tmp 17), none⟩,
      ⟨(some 5), .mv (.const (.int .i64 1)), none⟩] [4, 5])
  (.ret))
  (.skip)))
 (.seq (.reg [
     ⟨(some 18), .mv (.tmp 0), none⟩,
     ⟨(some 19), .call 79 [(.tmp 18)], none⟩,
     ⟨(some 6), .mv (.tmp 19), none⟩] [0, 1, 4, 6])
 (.seq (.seq (.reg [
     ⟨(some 20), .mv (.tmp 6), none⟩,
     ⟨(some 21), .bin .gtr (.tmp 20) (.const (.int .i64 6)), none⟩] [0, 1, 4, 6, 21])
 (.cond (.tmp 21)
  (.seq (.reg [
      ⟨(some 22), .build [(.slice none 0 0), (.slice none 0 0)] [], none⟩,
      ⟨none, .store 2 (.tmp 4) (.tmp 22), none⟩,
      ⟨(some 5), .mv (.const (.int .i64 5)), none⟩] [4, 5])
  (.ret))
  (.skip)))
 (.seq (.reg [
     ⟨(some 7), .mv (.const (.slice none 0 0)), none⟩] [0, 1, 4, 6, 7])
 (.seq (.seq (.reg [
     ⟨(some 23), .mv (.tmp 6), none⟩,
     ⟨(some 24), .bin .mul (.const (.int .i64 3)) (.tmp 23), none⟩,
     ⟨(some 25), .mv (.tmp 6), none⟩,
     ⟨(some 26), .mv (.tmp 6), none⟩,
     ⟨(some 27), .bin .mul (.tmp 25) (.tmp 26), none⟩,
     ⟨(some 28), .bin .add (.tmp 24) (.tmp 27), none⟩,
     ⟨(some 29), .mv (.const (.int .i64 0)), none⟩] [0, 1, 4, 6, 7, 28, 29])
 (.block 0 (.loop [0, 1, 4, 6, 7, 28, 29]
   (.seq (.reg [
       ⟨(some 30), .bin .lss (.tmp 29) (.tmp 28), none⟩] [0, 1, 4, 6, 7, 28, 29, 30])
   (.seq (.cond (.tmp 30)
    (.skip)
    (.exit 0))
   (.seq (.block 1 (.seq (.reg [
        ⟨(some 31), .mv (.tmp 29), none⟩,
        ⟨(some 8), .mv (.tmp 31), none⟩] [0, 1, 4, 6, 7, 8, 28, 29])
    (.seq (.reg [
        ⟨(some 32), .mv (.tmp 8), none⟩,
        ⟨(some 33), .mv (.tmp 6), none⟩,
        ⟨(some 34), .bin .quo (.tmp 32) (.tmp 33), none⟩,
        ⟨(some 35), .mm false (.tmp 34) (.const (.int .i64 3)), none⟩,
        ⟨(some 9), .mv (.tmp 35), none⟩] [0, 1, 4, 6, 7, 8, 9, 28, 29])
    (.seq (.seq (.reg [
        ⟨(some 36), .mv (.tmp 1), none⟩,
        ⟨(some 37), .mv (.tmp 36), none⟩,
        ⟨(some 38), .mv (.tmp 8), (some (37, true))⟩,
        ⟨(some 39), .mv (.tmp 6), (some (37, true))⟩,
        ⟨(some 40), .bin .mul (.const (.int .i64 3)) (.tmp 39), (some (37, true))⟩,
        ⟨(some 41), .bin .lss (.tmp 38) (.tmp 40), (some (37, true))⟩,
        ⟨(some 42), .pick (.tmp 37) (.tmp 41) (.const (.bool false)), none⟩] [0, 1, 4, 6, 7, 9, 28, 29, 42])
    (.cond (.tmp 42)
     (.reg [
         ⟨(some 9), .mv (.const (.int .i64 0)), none⟩] [0, 1, 4, 6, 7, 9, 28, 29])
     (.skip)))
    (.reg [
        ⟨(some 43), .mv (.tmp 7), none⟩,
        ⟨(some 44), .mv (.tmp 9), none⟩,
        ⟨(some 45), .bslice 2 1 1 [(.int .i64 0)] [(0, (.tmp 44))], none⟩,
        ⟨(some 46), .app 2 1 8 (.tmp 43) (.tmp 45), none⟩,
        ⟨(some 7), .mv (.tmp 46), none⟩] [0, 1, 4, 6, 7, 28, 29])))))
   (.reg [
       ⟨(some 47), .bin .add (.tmp 29) (.const (.int .i64 1)), none⟩,
       ⟨(some 29), .mv (.tmp 47), none⟩] [0, 1, 4, 6, 7, 28, 29])))))))
 (.seq (.reg [
     ⟨(some 10), .mv (.const (.slice none 0 0)), none⟩] [0, 4, 6, 7, 10])
 (.seq (.seq (.reg [
     ⟨(some 48), .mv (.tmp 6), none⟩,
     ⟨(some 49), .mv (.const (.int .i64 0)), none⟩] [0, 4, 6, 7, 10, 48, 49])
 (.block 2 (.loop [0, 4, 6, 7, 10, 48, 49]
   (.seq (.reg [
       ⟨(some 50), .bin .lss (.tmp 49) (.tmp 48), none⟩] [0, 4, 6, 7, 10, 48, 49, 50])
   (.seq (.cond (.tmp 50)
    (.skip)
    (.exit 2))
   (.seq (.block 3 (.seq (.reg [
        ⟨(some 51), .mv (.tmp 49), none⟩,
        ⟨(some 11), .mv (.tmp 51), none⟩] [0, 4, 6, 7, 10, 11, 48, 49])
    (.seq (.reg [
        ⟨(some 52), .mv (.tmp 6), none⟩,
        ⟨(some 53), .mv (.const (.int .i64 0)), none⟩] [0, 4, 6, 7, 10, 11, 48, 49, 52, 53])
    (.block 4 (.loop [0, 4, 6, 7, 10, 11, 48, 49, 52, 53]
      (.seq (.reg [
          ⟨(some 54), .bin .lss (.tmp 53) (.tmp 52), none⟩] [0, 4, 6, 7, 10, 11, 48, 49, 52, 53, 54])
      (.seq (.cond (.tmp 54)
       (.skip)
       (.exit 4))
      (.seq (.block 5 (.seq (.reg [
           ⟨(some 55), .mv (.tmp 53), none⟩,
           ⟨(some 12), .mv (.tmp 55), none⟩] [0, 4, 6, 7, 10, 11, 12, 48, 49, 52, 53])
       (.seq (.reg [
           ⟨(some 56), .mv (.tmp 6), none⟩,
           ⟨(some 57), .bin .mul (.const (.int .i64 3)) (.tmp 56), none⟩,
           ⟨(some 58), .mv (.tmp 6), none⟩,
           ⟨(some 59), .mv (.tmp 11), none⟩,
           ⟨(some 60), .bin .mul (.tmp 58) (.tmp 59), none⟩,
           ⟨(some 61), .bin .add (.tmp 57) (.tmp 60), none⟩,
           ⟨(some 62), .mv (.tmp 12), none⟩,
           ⟨(some 63), .bin .add (.tmp 61) (.tmp 62), none⟩,
           ⟨(some 13), .mv (.tmp 63), none⟩] [0, 4, 6, 7, 10, 11, 12, 13, 48, 49, 52, 53])
       (.reg [
           ⟨(some 64), .mv (.tmp 10), none⟩,
           ⟨(some 65), .mv (.tmp 11), none⟩,
           ⟨(some 66), .mv (.tmp 13), none⟩,
           ⟨(some 67), .build [(.int .i64 0), (.int .i64 0)] [(0, 1, (.tmp 65)), (1, 1, (.tmp 66))], none⟩,
           ⟨(some 68), .mv (.tmp 6), none⟩,
           ⟨(some 69), .mv (.tmp 12), none⟩,
           ⟨(some 70), .bin .add (.tmp 68) (.tmp 69), none⟩,
           ⟨(some 71), .mv (.tmp 13), none⟩,
           ⟨(some 72), .build [(.int .i64 0), (.int .i64 0)] [(0, 1, (.tmp 70)), (1, 1, (.tmp 71))], none⟩,
           ⟨(some 73), .mv (.tmp 6), none⟩,
           ⟨(some 74), .bin .mul (.const (.int .i64 2)) (.tmp 73), none⟩,
           ⟨(some 75), .mv (.tmp 0), none⟩,
           ⟨(some 76), .mv (.tmp 11), none⟩,
           ⟨(some 77), .iaddr 1 (.tmp 75) (.tmp 76), none⟩,
           ⟨(some 78), .load 1 false (.tmp 77), none⟩,
           ⟨(some 79), .mv (.tmp 12), none⟩,
           ⟨(some 80), .iaddr 1 (.tmp 78) (.tmp 79), none⟩,
           ⟨(some 81), .load 1 false (.tmp 80), none⟩,
           ⟨(some 82), .bin .add (.tmp 74) (.tmp 81), none⟩,
           ⟨(some 83), .mv (.tmp 13), none⟩,
           ⟨(some 84), .build [(.int .i64 0), (.int .i64 0)] [(0, 1, (.tmp 82)), (1, 1, (.tmp 83))], none⟩,
           ⟨(some 85), .bslice 93 2 3 [(.int .i64 0), (.int .i64 0), (.int .i64 0), (.int .i64 0), (.int .i64 0), (.int .i64 0)] [(0, (.tmp 67)), (1, (.tmp 72)), (2, (.tmp 84))], none⟩,
           ⟨(some 86), .app 93 2 16 (.tmp 64) (.tmp 85), none⟩,
           ⟨(some 10), .mv (.tmp 86), none⟩] [0, 4, 6, 7, 10, 11, 48, 49, 52, 53]))))
      (.reg [
          ⟨(some 87), .bin .add (.tmp 53) (.const (.int .i64 1)), none⟩,
          ⟨(some 53), .mv (.tmp 87), none⟩] [0, 4, 6, 7, 10, 11, 48, 49, 52, 53])))))))))
   (.reg [
       ⟨(some 88), .bin .add (.tmp 49) (.const (.int .i64 1)), none⟩,
       ⟨(some 49), .mv (.tmp 88), none⟩] [0, 4, 6, 7, 10, 48, 49])))))))
 (.seq (.reg [
     ⟨(some 89), .mv (.tmp 7), none⟩,
     ⟨(some 90), .mv (.tmp 10), none⟩,
     ⟨(some 91), .call 80 [(.tmp 89), (.tmp 90)], none⟩,
     ⟨(some 92), .ext (.tmp 91) 0, none⟩,
     ⟨(some 93), .ext (.tmp 91) 1, none⟩,
     ⟨none, .store 2 (.tmp 4) (.tmp 92), none⟩,
     ⟨(some 5), .mv (.tmp 93), none⟩] [4, 5])
 (.ret)))))))))
theorem s_impl_SquareGraph : stripF Try.prog 36 [[0, 1, 4], [0, 1, 4, 16], [4, 5], [0, 1, 4, 6], [0, 1, 4, 6, 21], [4, 5], [0, 1, 4, 6, 7], [0, 1, 4, 6, 7, 28, 29], [0, 1, 4, 6, 7, 28, 29], [0, 1, 4, 6, 7, 28, 29, 30], [0, 1, 4, 6, 7, 8, 28, 29], [0, 1, 4, 6, 7, 8, 9, 28, 29], [0, 1, 4, 6, 7, 9, 28, 29, 42], [0, 1, 4, 6, 7, 9, 28, 29], [0, 1, 4, 6, 7, 28, 29], [0, 1, 4, 6, 7, 28, 29], [0, 4, 6, 7, 10], [0, 4, 6, 7, 10, 48, 49], [0, 4, 6, 7, 10, 48, 49], [0, 4, 6, 7, 10, 48, 49, 50], [0, 4, 6, 7, 10, 11, 48, 49], [0, 4, 6, 7, 10, 11, 48, 49, 52, 53], [0, 4, 6, 7, 10, 11, 48, 49, 52, 53], [0, 4, 6, 7, 10, 11, 48, 49, 52, 53, 54], [0, 4, 6, 7, 10, 11, 12, 48, 49, 52, 53], [0, 4, 6, 7, 10, 11, 12, 13, 48, 49, 52, 53], [0, 4, 6, 7, 10, 11, 48, 49, 52, 53], [0, 4, 6, 7, 10, 11, 48, 49, 52, 53], [0, 4, 6, 7, 10, 48, 49], [4, 5]] = some (c_impl_SquareGraph, [.cell 4 2, .tmp 5], 94) := by kernel_rfl


theorem ValidSquare_fn (xss : List (List Int)) (hl : ∀ x ∈ xss, x.length ≤ 2000000) : PFn Try.prog f_impl_ValidSquare [ilSS xss] (Bv (latB xss)) :=
  ValidSquare_of xss (arePermutations_fn _ xss hl) (fun p hp => ValidPermutation_fn p hp)
def colF (n : Nat) (cl : Bool) (v : Nat) : Int := if (cl && decide (v < 3 * n)) = true then 0 else ((min (v / n) 3 : Nat) : Int)
theorem colF_is (n : Nat) (cl : Bool) : sqCol n cl = tab (3 * n + n * n) (colF n cl) := rfl

theorem implSquareGraph_ok (H : List Blk) (xss : List (List Int)) (cl : Bool) (hl : ∀ x ∈ xss, x.length ≤ 2000000) :
    ACalls Try.prog f_impl_SquareGraph [ilSS xss, Bv cl] H (GrR H (sqV xss cl)) := by
  have hv := ValidSquare_fn xss hl
  unfold sqV
  by_cases hb : latB xss = true
  rotate_left
  · rw [if_neg hb]
    rw [Bool.not_eq_true] at hb
    rw [hb] at hv
    refine ACalls.introB s_impl_SquareGraph (by simp) ?_; intro hB hA; unfold c_impl_SquareGraph; simp (config := { maxSteps := 1000000 }) (disch := (first | omega | (simp only [go_sem]; try omega))) only [go_sem, Nat.reduceAdd, Nat.reduceEqDiff, Nat.reduceLeDiff, Nat.reduceMul, Nat.reduceLT, reduceIte, Int.reduceToNat, w64_id, cast_succ]
    repeat (first | (with_reducible first | refine SW.seq ?_ | refine SW.block ?_ | refine SW.rowC ?_ | refine SW.skip ?_ | refine SW.exit ?_ | refine PFn.use (hv) ?_ | refine PFn.useq (hv) ?_ | intro _ | refine And.intro (by omega) ?_) | simp (config := { maxSteps := 1000000 }) (disch := (first | omega | (simp only [go_sem]; try omega))) only [go_sem, Nat.reduceAdd, Nat.reduceEqDiff, Nat.reduceLeDiff, Nat.reduceMul, Nat.reduceLT, reduceIte, Int.reduceToNat, w64_id, cast_succ])
    refine SW.condT rfl ?_
    repeat (first | (with_reducible first | refine SW.seq ?_ | refine SW.block ?_ | refine SW.rowC ?_ | refine SW.skip ?_ | refine SW.exit ?_ | intro _ | refine And.intro (by omega) ?_) | simp (config := { maxSteps := 1000000 }) (disch := (first | omega | (simp only [go_sem]; try omega))) only [go_sem, Nat.reduceAdd, Nat.reduceEqDiff, Nat.reduceLeDiff, Nat.reduceMul, Nat.reduceLT, reduceIte, Int.reduceToNat, w64_id, cast_succ])
    refine SW.ret ?_
    exact FunPost.cell_tmp (cs := [nilS, nilS]) (by simp (config := { maxSteps := 1000000 }) (disch := (first | omega | (simp only [go_sem]; try omega))) only [go_sem, Nat.reduceAdd, Nat.reduceEqDiff, Nat.reduceLeDiff, Nat.reduceMul, Nat.reduceLT, reduceIte, Int.reduceToNat, w64_id, cast_succ]) (GR.of nilGr)
  rw [if_pos hb]
  rw [hb] at hv
  by_cases h6 : 6 < xss.length
  · rw [if_pos h6]
    refine ACalls.introB s_impl_SquareGraph (by simp) ?_; intro hB hA; unfold c_impl_SquareGraph; simp (config := { maxSteps := 1000000 }) (disch := (first | omega | (simp only [go_sem]; try omega))) only [go_sem, Nat.reduceAdd, Nat.reduceEqDiff, Nat.reduceLeDiff, Nat.reduceMul, Nat.reduceLT, reduceIte, Int.reduceToNat, w64_id, cast_succ]
    have d1 : decide ((6 : Int) < (xss.length : Int)) = true := decide_eq_true (by omega)
    repeat (first | (with_reducible first | refine SW.seq ?_ | refine SW.block ?_ | refine SW.rowC ?_ | refine SW.skip ?_ | refine SW.exit ?_ | refine PFn.use (hv) ?_ | refine PFn.useq (hv) ?_ | refine PFn.use (sizeS_fn _) ?_ | refine PFn.useq (sizeS_fn _) ?_ | intro _ | refine And.intro (by omega) ?_) | simp (config := { maxSteps := 1000000 }) (disch := (first | omega | (simp only [go_sem]; try omega))) only [go_sem, Nat.reduceAdd, Nat.reduceEqDiff, Nat.reduceLeDiff, Nat.reduceMul, Nat.reduceLT, reduceIte, Int.reduceToNat, w64_id, cast_succ, d1])
    refine SW.condF rfl ?_
    repeat (first | (with_reducible first | refine SW.seq ?_ | refine SW.block ?_ | refine SW.rowC ?_ | refine SW.skip ?_ | refine SW.exit ?_ | refine PFn.use (sizeS_fn _) ?_ | refine PFn.useq (sizeS_fn _) ?_ | intro _ | refine And.intro (by omega) ?_) | simp (config := { maxSteps := 1000000 }) (disch := (first | omega | (simp only [go_sem]; try omega))) only [go_sem, Nat.reduceAdd, Nat.reduceEqDiff, Nat.reduceLeDiff, Nat.reduceMul, Nat.reduceLT, reduceIte, Int.reduceToNat, w64_id, cast_succ, d1])
    refine SW.condT rfl ?_
    repeat (first | (with_reducible first | refine SW.seq ?_ | refine SW.block ?_ | refine SW.rowC ?_ | refine SW.skip ?_ | refine SW.exit ?_ | intro _ | refine And.intro (by omega) ?_) | simp (config := { maxSteps := 1000000 }) (disch := (first | omega | (simp only [go_sem]; try omega))) only [go_sem, Nat.reduceAdd, Nat.reduceEqDiff, Nat.reduceLeDiff, Nat.reduceMul, Nat.reduceLT, reduceIte, Int.reduceToNat, w64_id, cast_succ])
    refine SW.ret ?_
    exact FunPost.cell_tmp (cs := [nilS, nilS]) (by simp (config := { maxSteps := 1000000 }) (disch := (first | omega | (simp only [go_sem]; try omega))) only [go_sem, Nat.reduceAdd, Nat.reduceEqDiff, Nat.reduceLeDiff, Nat.reduceMul, Nat.reduceLT, reduceIte, Int.reduceToNat, w64_id, cast_succ]) (GR.of nilGr)
  rw [if_neg h6]
  have d1 : decide ((6 : Int) < (xss.length : Int)) = false := decide_eq_false (by omega)
  obtain ⟨hn1, -, hrl, -⟩ := latB_facts hb
  have hcel := fun {x y : Nat} hx hy => latB_cell hb (x := x) (y := y) hx hy
  have hnd := sqEd_nodup hb
  have hle := sqEd_le hb
  have h66 : xss.length ≤ 6 := by omega
  have hnn : xss.length * xss.length ≤ 36 := Nat.mul_le_mul h66 h66
  have hns := sizeS_fn xss
  generalize hn : xss.length = n at *
  have enn : (n : Int) * (n : Int) = ((n * n : Nat) : Int) := by simp
  refine ACalls.introB s_impl_SquareGraph (by simp) ?_; intro hB hA; unfold c_impl_SquareGraph; simp (config := { maxSteps := 1000000 }) (disch := (first | omega | (simp only [go_sem]; try omega))) only [go_sem, Nat.reduceAdd, Nat.reduceEqDiff, Nat.reduceLeDiff, Nat.reduceMul, Nat.reduceLT, reduceIte, Int.reduceToNat, w64_id, cast_succ]
  repeat (first | (with_reducible first | refine SW.seq ?_ | refine SW.block ?_ | refine SW.rowC ?_ | refine SW.skip ?_ | refine SW.exit ?_ | refine PFn.use (hv) ?_ | refine PFn.useq (hv) ?_ | refine PFn.use (hns) ?_ | refine PFn.useq (hns) ?_ | intro _ | refine And.intro (by omega) ?_) | simp (config := { maxSteps := 1000000 }) (disch := (first | omega | (simp only [go_sem]; try omega))) only [go_sem, Nat.reduceAdd, Nat.reduceEqDiff, Nat.reduceLeDiff, Nat.reduceMul, Nat.reduceLT, reduceIte, Int.reduceToNat, w64_id, cast_succ, d1, hn, enn])
  refine SW.condF rfl ?_
  repeat (first | (with_reducible first | refine SW.seq ?_ | refine SW.block ?_ | refine SW.rowC ?_ | refine SW.skip ?_ | refine SW.exit ?_ | refine PFn.use (hns) ?_ | refine PFn.useq (hns) ?_ | intro _ | refine And.intro (by omega) ?_) | simp (config := { maxSteps := 1000000 }) (disch := (first | omega | (simp only [go_sem]; try omega))) only [go_sem, Nat.reduceAdd, Nat.reduceEqDiff, Nat.reduceLeDiff, Nat.reduceMul, Nat.reduceLT, reduceIte, Int.reduceToNat, w64_id, cast_succ, d1, hn, enn])
  refine SW.condF rfl ?_
  repeat (first | (with_reducible first | refine SW.seq ?_ | refine SW.block ?_ | refine SW.rowC ?_ | refine SW.skip ?_ | refine SW.exit ?_ | refine PFn.use (hns) ?_ | refine PFn.useq (hns) ?_ | intro _ | refine And.intro (by omega) ?_) | simp (config := { maxSteps := 1000000 }) (disch := (first | omega | (simp only [go_sem]; try omega))) only [go_sem, Nat.reduceAdd, Nat.reduceEqDiff, Nat.reduceLeDiff, Nat.reduceMul, Nat.reduceLT, reduceIte, Int.reduceToNat, w64_id, cast_succ, d1, hn, enn])
  refine SW.ghost (Gh.name 7 2 1 rfl) ?_
  simp (config := { maxSteps := 1000000 }) (disch := (first | omega | (simp only [go_sem]; try omega))) only [go_sem, Nat.reduceAdd, Nat.reduceEqDiff, Nat.reduceLeDiff, Nat.reduceMul, Nat.reduceLT, reduceIte, Int.reduceToNat, w64_id, cast_succ]
  refine SW.loopE (fun E0 H0 q E' H' => ∃ (v ver : Nat), v ≤ 3 * n + n * n ∧ q = 3 * n + n * n - v ∧ E' = aput (aput E0 29 (I v)) 7 (.nm (H.length + 1) ver 0 v) ∧ H' = H ++ [⟨0, tyGr, 1, [nilS, nilS]⟩, ⟨ver, 2, 1, (tab v (colF n cl)).map I⟩]) (3 * n + n * n) ⟨0, 0, by omega, by omega, rfl, rfl⟩ ?_
  rintro q E' H' ⟨v, ver, hvl, rfl, rfl, rfl⟩
  simp (config := { maxSteps := 1000000 }) (disch := (first | omega | (simp only [go_sem]; try omega))) only [go_sem, Nat.reduceAdd, Nat.reduceEqDiff, Nat.reduceLeDiff, Nat.reduceMul, Nat.reduceLT, reduceIte, Int.reduceToNat, w64_id, cast_succ]
  have hvn := Nat.div_le_self v n
  have et : (v : Int).tdiv (n : Int) = ((v / n : Nat) : Int) := tdivN
  have hcf : colF n cl v = if (cl && decide (v < 3 * n)) = true then 0 else ((min (v / n) 3 : Nat) : Int) := rfl
  generalize hqd : v / n = qd at hvn et hcf
  have hmin : (if (3 : Int) < (qd : Int) then (3 : Int) else (qd : Int)) = ((min qd 3 : Nat) : Int) := by
    split <;> omega
  have hmm : 0 ≤ ((min qd 3 : Nat) : Int) ∧ ((min qd 3 : Nat) : Int) ≤ 3 := by omega
  generalize ((min qd 3 : Nat) : Int) = mq at *
  have htl := take_tab v (colF n cl)
  have hll := tab_length v (colF n cl)
  have hts : tab (v + 1) (colF n cl) = tab v (colF n cl) ++ [colF n cl v] := by simp [tab, List.range_succ]
  repeat (first | (with_reducible first | refine SW.seq ?_ | refine SW.block ?_ | refine SW.rowC ?_ | refine SW.skip ?_ | refine SW.exit ?_ | intro _ | refine And.intro (by omega) ?_) | simp (config := { maxSteps := 1000000 }) (disch := (first | omega | (simp only [go_sem]; try omega))) only [go_sem, Nat.reduceAdd, Nat.reduceEqDiff, Nat.reduceLeDiff, Nat.reduceMul, Nat.reduceLT, reduceIte, Int.reduceToNat, w64_id, cast_succ, hn, enn])
  (first | refine SW.condD rfl (fun h1 => ?_) (fun h1 => ?_) | refine SW.condN rfl (fun h1 => ?_) (fun h1 => ?_) | refine SW.condNB rfl (fun h1 => ?_) (fun h1 => ?_) | refine SW.condB rfl (fun h1 => ?_) (fun h1 => ?_))
  · have fin : ∀ c : Int, c = colF n cl v → tab v (colF n cl) ++ [c] = tab (v + 1) (colF n cl) := by
      rintro c rfl; rw [hts]
    cases cl with
    | true =>
      by_cases h2 : v < 3 * n
      · have d2 : decide ((v : Int) < 3 * (n : Int)) = true := decide_eq_true (by omega)
        repeat (first | (with_reducible first | refine SW.seq ?_ | refine SW.block ?_ | refine SW.rowC ?_ | refine SW.skip ?_ | refine SW.exit ?_ | intro _ | refine And.intro (by omega) ?_) | simp (config := { maxSteps := 1000000 }) (disch := (first | omega | (simp only [go_sem]; try omega))) only [go_sem, Nat.reduceAdd, Nat.reduceEqDiff, Nat.reduceLeDiff, Nat.reduceMul, Nat.reduceLT, reduceIte, Int.reduceToNat, w64_id, cast_succ, hn, enn, et, hmin, d2])
        refine SW.condT rfl ?_
        repeat (first | (with_reducible first | refine SW.seq ?_ | refine SW.block ?_ | refine SW.rowC ?_ | refine SW.skip ?_ | refine SW.exit ?_ | intro _ | refine And.intro (by omega) ?_) | simp (config := { maxSteps := 1000000 }) (disch := (first | omega | (simp only [go_sem]; try omega))) only [go_sem, Nat.reduceAdd, Nat.reduceEqDiff, Nat.reduceLeDiff, Nat.reduceMul, Nat.reduceLT, reduceIte, Int.reduceToNat, w64_id, cast_succ, htl, hll])
        refine SLoop.nextT 2 (3 * n + n * n - (v + 1)) hB (by omega) (by omega) (by simp) ?_ ?_ ⟨v + 1, ver + 1, by omega, rfl, ?_, ?_⟩
        · (simp only [go_sem, Nat.reduceAdd, Nat.reduceEqDiff, reduceIte, go_sem, and_self, and_true, true_and, implies_true, List.take_succ_cons, List.take_zero, and_true, true_and]; try omega)
        · (simp only [go_sem, Nat.reduceAdd, Nat.reduceEqDiff, reduceIte, go_sem, and_self, and_true, true_and, implies_true, List.take_succ_cons, List.take_zero, and_true, true_and]; try omega)
        · simp [go_sem]
        · simp only [List.take_succ_cons, List.take_zero]
          rw [fin 0 (by rw [hcf]; simp [h2])]
      · have d2 : decide ((v : Int) < 3 * (n : Int)) = false := decide_eq_false (by omega)
        repeat (first | (with_reducible first | refine SW.seq ?_ | refine SW.block ?_ | refine SW.rowC ?_ | refine SW.skip ?_ | refine SW.exit ?_ | intro _ | refine And.intro (by omega) ?_) | simp (config := { maxSteps := 1000000 }) (disch := (first | omega | (simp only [go_sem]; try omega))) only [go_sem, Nat.reduceAdd, Nat.reduceEqDiff, Nat.reduceLeDiff, Nat.reduceMul, Nat.reduceLT, reduceIte, Int.reduceToNat, w64_id, cast_succ, hn, enn, et, hmin, d2])
        refine SW.condF rfl ?_
        repeat (first | (with_reducible first | refine SW.seq ?_ | refine SW.block ?_ | refine SW.rowC ?_ | refine SW.skip ?_ | refine SW.exit ?_ | intro _ | refine And.intro (by omega) ?_) | simp (config := { maxSteps := 1000000 }) (disch := (first | omega | (simp only [go_sem]; try omega))) only [go_sem, Nat.reduceAdd, Nat.reduceEqDiff, Nat.reduceLeDiff, Nat.reduceMul, Nat.reduceLT, reduceIte, Int.reduceToNat, w64_id, cast_succ, htl, hll])
        refine SLoop.nextT 2 (3 * n + n * n - (v + 1)) hB (by omega) (by omega) (by simp) ?_ ?_ ⟨v + 1, ver + 1, by omega, rfl, ?_, ?_⟩
        · (simp only [go_sem, Nat.reduceAdd, Nat.reduceEqDiff, reduceIte, go_sem, and_self, and_true, true_and, implies_true, List.take_succ_cons, List.take_zero, and_true, true_and]; try omega)
        · (simp only [go_sem, Nat.reduceAdd, Nat.reduceEqDiff, reduceIte, go_sem, and_self, and_true, true_and, implies_true, List.take_succ_cons, List.take_zero, and_true, true_and]; try omega)
        · simp [go_sem]
        · simp only [List.take_succ_cons, List.take_zero]
          rw [fin mq (by rw [hcf]; simp [h2])]
    | false =>
      repeat (first | (with_reducible first | refine SW.seq ?_ | refine SW.block ?_ | refine SW.rowC ?_ | refine SW.skip ?_ | refine SW.exit ?_ | intro _ | refine And.intro (by omega) ?_) | simp (config := { maxSteps := 1000000 }) (disch := (first | omega | (simp only [go_sem]; try omega))) only [go_sem, Nat.reduceAdd, Nat.reduceEqDiff, Nat.reduceLeDiff, Nat.reduceMul, Nat.reduceLT, reduceIte, Int.reduceToNat, w64_id, cast_succ, hn, enn, et, hmin])
      refine SW.condF rfl ?_
      repeat (first | (with_reducible first | refine SW.seq ?_ | refine SW.block ?_ | refine SW.rowC ?_ | refine SW.skip ?_ | refine SW.exit ?_ | intro _ | refine And.intro (by omega) ?_) | simp (config := { maxSteps := 1000000 }) (disch := (first | omega | (simp only [go_sem]; try omega))) only [go_sem, Nat.reduceAdd, Nat.reduceEqDiff, Nat.reduceLeDiff, Nat.reduceMul, Nat.reduceLT, reduceIte, Int.reduceToNat, w64_id, cast_succ, htl, hll])
      refine SLoop.nextT 2 (3 * n + n * n - (v + 1)) hB (by omega) (by omega) (by simp) ?_ ?_ ⟨v + 1, ver + 1, by omega, rfl, ?_, ?_⟩
      · (simp only [go_sem, Nat.reduceAdd, Nat.reduceEqDiff, reduceIte, go_sem, and_self, and_true, true_and, implies_true, List.take_succ_cons, List.take_zero, and_true, true_and]; try omega)
      · (simp only [go_sem, Nat.reduceAdd, Nat.reduceEqDiff, reduceIte, go_sem, and_self, and_true, true_and, implies_true, List.take_succ_cons, List.take_zero, and_true, true_and]; try omega)
      · simp [go_sem]
      · simp only [List.take_succ_cons, List.take_zero]
        rw [fin mq (by rw [hcf]; simp)]
  · have : v = 3 * n + n * n := by omega
    subst this
    clear hvn hcf hqd et hmin hmm hts htl
    repeat (first | (with_reducible first | refine SW.seq ?_ | refine SW.block ?_ | refine SW.rowC ?_ | refine SW.skip ?_ | refine SW.exit ?_ | intro _ | refine And.intro (by omega) ?_) | simp (config := { maxSteps := 1000000 }) (disch := (first | omega | (simp only [go_sem]; try omega))) only [go_sem, Nat.reduceAdd, Nat.reduceEqDiff, Nat.reduceLeDiff, Nat.reduceMul, Nat.reduceLT, reduceIte, Int.reduceToNat, w64_id, cast_succ, hn, enn])
    refine SW.ghost (Gh.name 10 tyE 2 rfl) ?_
    simp (config := { maxSteps := 1000000 }) (disch := (first | omega | (simp only [go_sem]; try omega))) only [go_sem, Nat.reduceAdd, Nat.reduceEqDiff, Nat.reduceLeDiff, Nat.reduceMul, Nat.reduceLT, reduceIte, Int.reduceToNat, w64_id, cast_succ]
    rw [← colF_is]
    have hcl : (sqCol n cl).length = 3 * n + n * n := tab_length _ _
    generalize hC : sqCol n cl = C at *
    refine SW.loopE (fun E0 H0 q E' H' => ∃ (x ve : Nat), x ≤ n ∧ q = n - x ∧ E' = aput (aput E0 49 (I x)) 10 (.nm (H.length + 2) ve 0 (sqEd n xss x).length) ∧ H' = H ++ [⟨0, tyGr, 1, [nilS, nilS]⟩, ⟨ver, 2, 1, C.map I⟩, ⟨ve, tyE, 2, flatE (sqEd n xss x)⟩]) n ⟨0, 0, by omega, by omega, rfl, rfl⟩ ?_
    rintro q E' H' ⟨x, ve, hxl, rfl, rfl, rfl⟩
    have hEl := sqEd_len n xss x
    have hx3 : x * (3 * n) ≤ 108 := Nat.le_trans (Nat.mul_le_mul (show x ≤ 6 by omega) (show 3 * n ≤ 18 by omega)) (by omega)
    have hes := sqEd_succ n xss x
    generalize hL : sqEd n xss x = L at *
    simp (config := { maxSteps := 1000000 }) (disch := (first | omega | (simp only [go_sem]; try omega))) only [go_sem, Nat.reduceAdd, Nat.reduceEqDiff, Nat.reduceLeDiff, Nat.reduceMul, Nat.reduceLT, reduceIte, Int.reduceToNat, w64_id, cast_succ]
    repeat (first | (with_reducible first | refine SW.seq ?_ | refine SW.block ?_ | refine SW.rowC ?_ | refine SW.skip ?_ | refine SW.exit ?_ | intro _ | refine And.intro (by omega) ?_) | simp (config := { maxSteps := 1000000 }) (disch := (first | omega | (simp only [go_sem]; try omega))) only [go_sem, Nat.reduceAdd, Nat.reduceEqDiff, Nat.reduceLeDiff, Nat.reduceMul, Nat.reduceLT, reduceIte, Int.reduceToNat, w64_id, cast_succ])
    (first | refine SW.condD rfl (fun h1 => ?_) (fun h1 => ?_) | refine SW.condN rfl (fun h1 => ?_) (fun h1 => ?_) | refine SW.condNB rfl (fun h1 => ?_) (fun h1 => ?_) | refine SW.condB rfl (fun h1 => ?_) (fun h1 => ?_))
    · repeat (first | (with_reducible first | refine SW.seq ?_ | refine SW.block ?_ | refine SW.rowC ?_ | refine SW.skip ?_ | refine SW.exit ?_ | intro _ | refine And.intro (by omega) ?_) | simp (config := { maxSteps := 1000000 }) (disch := (first | omega | (simp only [go_sem]; try omega))) only [go_sem, Nat.reduceAdd, Nat.reduceEqDiff, Nat.reduceLeDiff, Nat.reduceMul, Nat.reduceLT, reduceIte, Int.reduceToNat, w64_id, cast_succ])
      refine SW.loopE (fun E0 H0 q E' H' => ∃ (y ve : Nat), y ≤ n ∧ q = n - y ∧ E' = aput (aput E0 53 (I y)) 10 (.nm (H.length + 2) ve 0 (L ++ sqEdR n xss x y).length) ∧ H' = H ++ [⟨0, tyGr, 1, [nilS, nilS]⟩, ⟨ver, 2, 1, C.map I⟩, ⟨ve, tyE, 2, flatE (L ++ sqEdR n xss x y)⟩]) n ⟨0, ve, by omega, by omega, by simp [go_sem, sqEdR], by simp [sqEdR]⟩ ?_
      rintro q E' H' ⟨y, ve, hyl, rfl, rfl, rfl⟩
      have hMl : (L ++ sqEdR n xss x y).length = L.length + 3 * y := by rw [List.length_append, sqEdR_len]
      have hMs : L ++ sqEdR n xss x (y + 1) = (L ++ sqEdR n xss x y) ++ sqEd1 n xss x y := by rw [sqEdR_succ, List.append_assoc]
      generalize hM : L ++ sqEdR n xss x y = M at *
      simp (config := { maxSteps := 1000000 }) (disch := (first | omega | (simp only [go_sem]; try omega))) only [go_sem, Nat.reduceAdd, Nat.reduceEqDiff, Nat.reduceLeDiff, Nat.reduceMul, Nat.reduceLT, reduceIte, Int.reduceToNat, w64_id, cast_succ]
      repeat (first | (with_reducible first | refine SW.seq ?_ | refine SW.block ?_ | refine SW.rowC ?_ | refine SW.skip ?_ | refine SW.exit ?_ | intro _ | refine And.intro (by omega) ?_) | simp (config := { maxSteps := 1000000 }) (disch := (first | omega | (simp only [go_sem]; try omega))) only [go_sem, Nat.reduceAdd, Nat.reduceEqDiff, Nat.reduceLeDiff, Nat.reduceMul, Nat.reduceLT, reduceIte, Int.reduceToNat, w64_id, cast_succ])
      (first | refine SW.condD rfl (fun h2 => ?_) (fun h2 => ?_) | refine SW.condN rfl (fun h2 => ?_) (fun h2 => ?_) | refine SW.condNB rfl (fun h2 => ?_) (fun h2 => ?_) | refine SW.condB rfl (fun h2 => ?_) (fun h2 => ?_))
      · have htl : (flatE M).take (M.length * 2) = flatE M := List.take_of_length_le (by rw [flatE_length]; omega)
        have hfl := flatE_length M
        have nm6 : ∀ (ty : Nat) (a b c d e f : AV), NmV 0 0 3 (some ⟨0, ty, 2, [a, b, c, d, e, f]⟩) = some (3, [a, b, c, d, e, f]) := fun ty a b c d e f => by simp [NmV]
        have hxn : (n : Int) * (x : Int) = ((n * x : Nat) : Int) := by simp
        have hxb : n * x ≤ 36 := Nat.mul_le_mul (show n ≤ 6 by omega) (show x ≤ 6 by omega)
        have hc := hcel (x := x) (y := y) (by omega) (by omega)
        have hrx : (xss.getD x []).length = n := hrl _ (by rw [List.getD_eq_getElem?_getD, List.getElem?_eq_getElem (by omega)]; exact List.getElem_mem _)
        have hcN : (3 * (n : Int) + ((n * x : Nat) : Int) + (y : Int)) = celN n x y := by unfold celN; omega
        generalize hcy : celN n x y = cy at *
        generalize hcv : (xss.getD x []).getD y 0 = cv at *
        have e1 : sqEd1 n xss x y = [((x : Int), cy), (((n + y : Nat) : Int), cy), (2 * (n : Int) + cv, cy)] := by unfold sqEd1; rw [hcy, hcv]
        repeat (first | (with_reducible first | refine SW.seq ?_ | refine SW.block ?_ | refine SW.rowC ?_ | refine SW.skip ?_ | refine SW.exit ?_ | intro _ | refine And.intro (by omega) ?_) | simp (config := { maxSteps := 1000000 }) (disch := (first | omega | (simp only [go_sem]; try omega))) only [go_sem, Nat.reduceAdd, Nat.reduceEqDiff, Nat.reduceLeDiff, Nat.reduceMul, Nat.reduceLT, reduceIte, Int.reduceToNat, w64_id, cast_succ, hn, enn, htl, hfl, nm6, hxn, hrx, hcv, hcN])
        have e9 : flatE M ++ [I (x : Int), I cy, I ((n : Int) + (y : Int)), I cy, I (2 * (n : Int) + cv), I cy] = flatE (M ++ sqEd1 n xss x y) := by
          rw [e1]; simp [flatE]
        refine SLoop.nextT 3 (n - (y + 1)) hB (by omega) (by omega) (by simp) ?_ ?_ ⟨y + 1, ve + 1, by omega, rfl, ?_, ?_⟩
        · (simp only [go_sem, Nat.reduceAdd, Nat.reduceEqDiff, reduceIte, go_sem, and_self, and_true, true_and, implies_true, List.take_succ_cons, List.take_zero, and_true, true_and]; try omega)
        · simp only [List.take_succ_cons, List.take_zero]
          rw [e9]
          simp only [BB_cons, BB_nil, and_true]
          refine ⟨fun c hc => ?_, fun c hc => ?_, fun c hc => ?_⟩
          · simp at hc; subst hc; exact .lit _
          · obtain ⟨v, _, rfl⟩ := List.mem_map.1 hc; exact .lit _
          · rw [flatE_lit] at hc
            obtain ⟨v, _, rfl⟩ := List.mem_map.1 hc
            exact .lit v
        · simp [go_sem, sqEdR_len, hMl]; omega
        · simp only [List.take_succ_cons, List.take_zero]
          rw [e9, hMs]
      · have : y = n := by omega
        subst this
        repeat (first | (with_reducible first | refine SW.seq ?_ | refine SW.block ?_ | refine SW.rowC ?_ | refine SW.skip ?_ | refine SW.exit ?_ | intro _ | refine And.intro (by omega) ?_) | simp (config := { maxSteps := 1000000 }) (disch := (first | omega | (simp only [go_sem]; try omega))) only [go_sem, Nat.reduceAdd, Nat.reduceEqDiff, Nat.reduceLeDiff, Nat.reduceMul, Nat.reduceLT, reduceIte, Int.reduceToNat, w64_id, cast_succ])
        refine SLoop.next (y - (x + 1)) (by omega) ⟨x + 1, ve, by omega, rfl, ?_, ?_⟩
        · rw [hes, hM]; simp [go_sem]
        · rw [hes, hM]
    · have : x = n := by omega
      subst this
      have hrc : RdS (H ++ [(⟨0, tyGr, 1, [nilS, nilS]⟩ : Blk), ⟨ver, 2, 1, C.map I⟩, ⟨ve, tyE, 2, flatE L⟩]) (.nm (H.length + 1) ver 0 C.length) C := view_nm (ver := ver) (ty := 2) (by simp) (by simp)
      have hre : RdE (H ++ [(⟨0, tyGr, 1, [nilS, nilS]⟩ : Blk), ⟨ver, 2, 1, C.map I⟩, ⟨ve, tyE, 2, flatE L⟩]) (.nm (H.length + 2) ve 0 L.length) L := rd_nmE (ver := ve) (ty := tyE) (by simp)
      rw [hcl] at hrc
      rw [hL] at hle hnd ⊢
      have hgo := graphOf_ok _ _ _ _ _ hrc hre ⟨rfl, rfl⟩ (by omega) (by omega) hle hnd
      repeat (first | (with_reducible first | refine SW.seq ?_ | refine SW.block ?_ | refine SW.rowC ?_ | refine SW.skip ?_ | refine SW.exit ?_ | intro _ | refine And.intro (by omega) ?_) | simp (config := { maxSteps := 1000000 }) (disch := (first | omega | (simp only [go_sem]; try omega))) only [go_sem, Nat.reduceAdd, Nat.reduceEqDiff, Nat.reduceLeDiff, Nat.reduceMul, Nat.reduceLT, reduceIte, Int.reduceToNat, w64_id, cast_succ])
      refine hgo.mono ?_
      rintro r H2 ⟨ext, v, rfl, rfl, ho⟩
      repeat (first | (with_reducible first | refine SW.seq ?_ | refine SW.block ?_ | refine SW.rowC ?_ | refine SW.skip ?_ | refine SW.exit ?_ | intro _ | refine And.intro (by omega) ?_) | simp (config := { maxSteps := 1000000 }) (disch := (first | omega | (simp only [go_sem]; try omega))) only [go_sem, Nat.reduceAdd, Nat.reduceEqDiff, Nat.reduceLeDiff, Nat.reduceMul, Nat.reduceLT, reduceIte, Int.reduceToNat, w64_id, cast_succ, ho.one.1, ho.one.2])
      refine SW.ret ?_
      refine FunPost.cell_tmp (cs := [.nm (H.length + 1) ver 0 (3 * x + x * x), v]) (by simp (config := { maxSteps := 1000000 }) (disch := (first | omega | (simp only [go_sem]; try omega))) only [go_sem, Nat.reduceAdd, Nat.reduceEqDiff, Nat.reduceLeDiff, Nat.reduceMul, Nat.reduceLT, reduceIte, Int.reduceToNat, w64_id, cast_succ]) (GR.of ⟨_, _, v, H.length + 3, rfl, rfl, by omega, by simp, .inl ⟨H.length + 1, ver, 2, by rw [hcl], ⟨by omega, by omega⟩, by simp, by simp⟩, ?_⟩)
      generalize hgb : (⟨0, tyGr, 1, [.nm (H.length + 1) ver 0 (3 * x + x * x), v]⟩ : Blk) = g1
      have e5 : ∀ b c : Blk, H ++ (g1 :: b :: c :: ext) = (H ++ [(⟨0, tyGr, 1, [nilS, nilS]⟩ : Blk), b, c] ++ ext).set H.length g1 := fun b c => by simp
      rw [e5]
      refine (ho.same (fun j b h1 h2 => ?_)).weak (fun r h1 h2 => ?_)
      · rw [List.getElem?_set_ne (by unfold Btw at h1; simp at h1; omega)]; exact h2
      · unfold Btw at h1 ⊢; simp at h1 h2 ⊢; omega
end Go.Proofs.Ytonfknfphdeenaa
