/- Graphs of sets: the program. -/
import Derived.Test.YtonfknfphdeenaaProg
import Derived.KernelRfl
import Derived.Test.YtonfknfphdeenaaE2
import Derived.Test.YtonfknfphdeenaaK20
import Derived.Test.YtonfknfphdeenaaK6
import Derived.Test.YtonfknfphdeenaaK19
import Derived.Test.YtonfknfphdeenaaD1
set_option linter.unusedSimpArgs false
set_option linter.unusedVariables false
set_option maxHeartbeats 4000000
set_option maxRecDepth 100000
namespace Go.Proofs.Ytonfknfphdeenaa
open Go.Av

/-! The abstract code of functions, printed by program and tied to the program by the kernel. -/
/-- loop.example/g00920/impl.DesignGraph -/
abbrev f_impl_DesignGraph : Nat := 21
def c_impl_DesignGraph : SC :=
 .seq (.reg [
     ⟨(some 1), .box 41 (.tmp 0), none⟩,
     ⟨(some 2), .alloc 38 [(.slice none 0 0), (.slice none 0 0)], none⟩,
     ⟨(some 3), .mv (.const (.int .i64 0)), none⟩] [1, 2])
 (.seq (.seq (.reg [
     ⟨(some 4), .load 2 true (.tmp 1), none⟩,
     ⟨(some 5), .call 57 [(.tmp 4)], none⟩,
     ⟨(some 6), .un .not (.tmp 5), none⟩] [1, 2, 6])
 (.cond (.tmp 6)
  (.seq (.reg [
      ⟨(some 7), .build [(.slice none 0 0), (.slice none 0 0)] [], none⟩,
      ⟨none, .store 2 (.tmp 2) (.tmp 7), none⟩,
      ⟨(some 3), .mv (.const (.int .i64 1)), none⟩] [2, 3])
  (.ret))
  (.skip)))
 (.seq (.reg [
     ⟨(some 8), .faddr 0 (.tmp 1), none⟩,
     ⟨(some 9), .load 1 false (.tmp 8), none⟩,
     ⟨(some 10), .faddr 1 (.tmp 1), none⟩,
     ⟨(some 11), .load 1 false (.tmp 10), none⟩,
     ⟨(some 12), .call 58 [(.tmp 9), (.tmp 11)], none⟩,
     ⟨(some 13), .ext (.tmp 12) 0, none⟩,
     ⟨(some 14), .ext (.tmp 12) 1, none⟩,
     ⟨none, .store 2 (.tmp 2) (.tmp 13), none⟩,
     ⟨(some 3), .mv (.tmp 14), none⟩] [2, 3])
 (.ret)))
theorem s_impl_DesignGraph : stripF Try.prog 21 [[1, 2], [1, 2, 6], [2, 3], [2, 3]] = some (c_impl_DesignGraph, [.cell 2 2, .tmp 3], 15) := by kernel_rfl

/-- loop.example/g00920/impl.setGraph -/
abbrev f_impl_setGraph : Nat := 58
def c_impl_setGraph : SC :=
 .seq (.reg [
     ⟨(some 4), .alloc 38 [(.slice none 0 0), (.slice none 0 0)], none⟩,
     ⟨(some 5), .mv (.const (.int .i64 0)), none⟩] [0, 1, 4])
 (.seq (.reg [
     ⟨(some 6), .mv (.const (.slice none 0 0)), none⟩] [0, 1, 4, 6])
 (.seq (.seq (.reg [
     ⟨(some 11), .mv (.tmp 1), none⟩,
     ⟨(some 12), .len (.tmp 11), none⟩,
     ⟨(some 13), .mv (.const (.int .i64 0)), none⟩] [0, 1, 4, 6, 11, 12, 13])
 (.block 0 (.loop [0, 1, 4, 6, 11, 12, 13]
   (.seq (.reg [
       ⟨(some 14), .bin .lss (.tmp 13) (.tmp 12), none⟩] [0, 1, 4, 6, 11, 12, 13, 14])
   (.seq (.cond (.tmp 14)
    (.skip)
    (.exit 0))
   (.seq (.block 1 (.seq (.reg [
        ⟨(some 15), .mv (.tmp 13), none⟩,
        ⟨(some 16), .iaddr 1 (.tmp 11) (.tmp 13), none⟩,
        ⟨(some 17), .load 1 false (.tmp 16), none⟩,
        ⟨(some 7), .mv (.tmp 15), none⟩,
        ⟨(some 8), .mv (.tmp 17), none⟩] [0, 1, 4, 6, 7, 8, 11, 12, 13])
    (.seq (.reg [
        ⟨(some 18), .mv (.tmp 8), none⟩,
        ⟨(some 19), .len (.tmp 18), none⟩,
        ⟨(some 20), .mv (.const (.int .i64 0)), none⟩] [0, 1, 4, 6, 7, 11, 12, 13, 18, 19, 20])
    (.block 2 (.loop [0, 1, 4, 6, 7, 11, 12, 13, 18, 19, 20]
      (.seq (.reg [
          ⟨(some 21), .bin .lss (.tmp 20) (.tmp 19), none⟩] [0, 1, 4, 6, 7, 11, 12, 13, 18, 19, 20, 21])
      (.seq (.cond (.tmp 21)
       (.skip)
       (.exit 2))
      (.seq (.block 3 (.seq (.reg [
           ⟨(some 22), .iaddr 1 (.tmp 18) (.tmp 20), none⟩,
           ⟨(some 23), .load 1 false (.tmp 22), none⟩,
           ⟨(some 10), .mv (.tmp 23), none⟩] [0, 1, 4, 6, 7, 10, 11, 12, 13, 18, 19, 20])
       (.reg [
           ⟨(some 24), .mv (.tmp 6), none⟩,
           ⟨(some 25), .mv (.tmp 10), none⟩,
           ⟨(some 26), .mv (.tmp 0), none⟩,
           ⟨(some 27), .mv (.tmp 7), none⟩,
           ⟨(some 28), .bin .add (.tmp 26) (.tmp 27), none⟩,
           ⟨(some 29), .build [(.int .i64 0), (.int .i64 0)] [(0, 1, (.tmp 25)), (1, 1, (.tmp 28))], none⟩,
           ⟨(some 30), .bslice 93 2 1 [(.int .i64 0), (.int .i64 0)] [(0, (.tmp 29))], none⟩,
           ⟨(some 31), .app 93 2 16 (.tmp 24) (.tmp 30), none⟩,
           ⟨(some 6), .mv (.tmp 31), none⟩] [0, 1, 4, 6, 7, 11, 12, 13, 18, 19, 20])))
      (.reg [
          ⟨(some 32), .bin .add (.tmp 20) (.const (.int .i64 1)), none⟩,
          ⟨(some 20), .mv (.tmp 32), none⟩] [0, 1, 4, 6, 7, 11, 12, 13, 18, 19, 20])))))))))
   (.reg [
       ⟨(some 33), .bin .add (.tmp 13) (.const (.int .i64 1)), none⟩,
       ⟨(some 13), .mv (.tmp 33), none⟩] [0, 1, 4, 6, 11, 12, 13])))))))
 (.seq (.reg [
     ⟨(some 34), .mv (.tmp 0), none⟩,
     ⟨(some 35), .mv (.tmp 1), none⟩,
     ⟨(some 36), .call 79 [(.tmp 35)], none⟩,
     ⟨(some 37), .call 83 [(.tmp 34), (.tmp 36)], none⟩,
     ⟨(some 38), .mv (.tmp 6), none⟩,
     ⟨(some 39), .call 80 [(.tmp 37), (.tmp 38)], none⟩,
     ⟨(some 40), .ext (.tmp 39) 0, none⟩,
     ⟨(some 41), .ext (.tmp 39) 1, none⟩,
     ⟨none, .store 2 (.tmp 4) (.tmp 40), none⟩,
     ⟨(some 5), .mv (.tmp 41), none⟩] [4, 5])
 (.ret))))
theorem s_impl_setGraph : stripF Try.prog 58 [[0, 1, 4], [0, 1, 4, 6], [0, 1, 4, 6, 11, 12, 13], [0, 1, 4, 6, 11, 12, 13], [0, 1, 4, 6, 11, 12, 13, 14], [0, 1, 4, 6, 7, 8, 11, 12, 13], [0, 1, 4, 6, 7, 11, 12, 13, 18, 19, 20], [0, 1, 4, 6, 7, 11, 12, 13, 18, 19, 20], [0, 1, 4, 6, 7, 11, 12, 13, 18, 19, 20, 21], [0, 1, 4, 6, 7, 10, 11, 12, 13, 18, 19, 20], [0, 1, 4, 6, 7, 11, 12, 13, 18, 19, 20], [0, 1, 4, 6, 7, 11, 12, 13, 18, 19, 20], [0, 1, 4, 6, 11, 12, 13], [4, 5]] = some (c_impl_setGraph, [.cell 4 2, .tmp 5], 42) := by kernel_rfl

/-- loop.example/g00920/impl.graphOf -/
abbrev f_impl_graphOf : Nat := 80
def c_impl_graphOf : SC :=
 .seq (.reg [
     ⟨(some 4), .alloc 38 [(.slice none 0 0), (.slice none 0 0)], none⟩,
     ⟨(some 5), .mv (.const (.int .i64 0)), none⟩] [0, 1, 4])
 (.seq (.seq (.reg [
     ⟨(some 6), .mv (.tmp 0), none⟩,
     ⟨(some 7), .len (.tmp 6), none⟩,
     ⟨(some 8), .bin .gtr (.tmp 7) (.const (.int .i64 64)), none⟩,
     ⟨(some 9), .mv (.tmp 8), none⟩,
     ⟨(some 10), .mv (.tmp 1), (some (9, false))⟩,
     ⟨(some 11), .len (.tmp 10), (some (9, false))⟩,
     ⟨(some 12), .bin .gtr (.tmp 11) (.const (.int .i64 512)), (some (9, false))⟩,
     ⟨(some 13), .pick (.tmp 9) (.const (.bool true)) (.tmp 12), none⟩] [0, 1, 4, 13])
 (.cond (.tmp 13)
  (.seq (.reg [
      ⟨(some 14), .build [(.slice none 0 0), (.slice none 0 0)] [], none⟩,
      ⟨none, .store 2 (.tmp 4) (.tmp 14), none⟩,
      ⟨(some 5), .mv (.const (.int .i64 5)), none⟩] [4, 5])
  (.ret))
  (.skip)))
 (.seq (.reg [
     ⟨(some 15), .mv (.tmp 0), none⟩,
     ⟨(some 16), .mv (.tmp 1), none⟩,
     ⟨(some 17), .call 118 [(.tmp 16)], none⟩,
     ⟨(some 18), .build [(.slice none 0 0), (.slice none 0 0)] [(0, 1, (.tmp 15)), (1, 1, (.tmp 17))], none⟩,
     ⟨none, .store 2 (.tmp 4) (.tmp 18), none⟩,
     ⟨(some 5), .mv (.const (.int .i64 0)), none⟩] [4, 5])
 (.ret)))
theorem s_impl_graphOf : stripF Try.prog 80 [[0, 1, 4], [0, 1, 4, 13], [4, 5], [4, 5]] = some (c_impl_graphOf, [.cell 4 2, .tmp 5], 19) := by kernel_rfl

/-- loop.example/g00920/impl.twoColors -/
abbrev f_impl_twoColors : Nat := 83
def c_impl_twoColors : SC :=
 .seq (.reg [
     ⟨(some 4), .mv (.const (.slice none 0 0)), none⟩] [0, 1])
 (.seq (.reg [
     ⟨(some 7), .mv (.tmp 0), none⟩,
     ⟨(some 8), .mv (.tmp 1), none⟩,
     ⟨(some 9), .bin .add (.tmp 7) (.tmp 8), none⟩,
     ⟨(some 10), .mslice 2 8 (.int .i64 0) (.tmp 9) (.tmp 9), none⟩,
     ⟨(some 5), .mv (.tmp 10), none⟩] [0, 1, 5])
 (.seq (.seq (.reg [
     ⟨(some 11), .mv (.tmp 0), none⟩,
     ⟨(some 6), .mv (.tmp 11), none⟩] [0, 1, 5, 6])
 (.block 0 (.loop [0, 1, 5, 6]
   (.seq (.seq (.reg [
       ⟨(some 12), .mv (.tmp 6), none⟩,
       ⟨(some 13), .mv (.tmp 0), none⟩,
       ⟨(some 14), .mv (.tmp 1), none⟩,
       ⟨(some 15), .bin .add (.tmp 13) (.tmp 14), none⟩,
       ⟨(some 16), .bin .lss (.tmp 12) (.tmp 15), none⟩] [0, 1, 5, 6, 16])
   (.cond (.tmp 16)
    (.skip)
    (.exit 0)))
   (.seq (.block 1 (.reg [
        ⟨(some 19), .mv (.tmp 5), none⟩,
        ⟨(some 20), .mv (.tmp 6), none⟩,
        ⟨(some 21), .iaddr 1 (.tmp 19) (.tmp 20), none⟩,
        ⟨none, .store 1 (.tmp 21) (.const (.int .i64 1)), none⟩] [0, 1, 5, 6]))
   (.reg [
       ⟨(some 17), .mv (.tmp 6), none⟩,
       ⟨(some 18), .bin .add (.tmp 17) (.const (.int .i64 1)), none⟩,
       ⟨(some 6), .mv (.tmp 18), none⟩] [0, 1, 5, 6]))))))
 (.seq (.reg [
     ⟨(some 22), .mv (.tmp 5), none⟩,
     ⟨(some 4), .mv (.tmp 22), none⟩] [4])
 (.ret))))
theorem s_impl_twoColors : stripF Try.prog 83 [[0, 1], [0, 1, 5], [0, 1, 5, 6], [0, 1, 5, 6], [0, 1, 5, 6, 16], [0, 1, 5, 6], [0, 1, 5, 6], [4]] = some (c_impl_twoColors, [.tmp 4], 23) := by kernel_rfl

/-- loop.example/g00920/impl.sortedEdges -/
abbrev f_impl_sortedEdges : Nat := 118
def c_impl_sortedEdges : SC :=
 .seq (.reg [
     ⟨(some 2), .mv (.const (.slice none 0 0)), none⟩] [0])
 (.seq (.reg [
     ⟨(some 3), .mv (.const (.slice none 0 0)), none⟩] [0, 3])
 (.seq (.seq (.reg [
     ⟨(some 6), .mv (.tmp 0), none⟩,
     ⟨(some 7), .len (.tmp 6), none⟩,
     ⟨(some 8), .mv (.const (.int .i64 0)), none⟩] [3, 6, 7, 8])
 (.block 0 (.loop [3, 6, 7, 8]
   (.seq (.reg [
       ⟨(some 9), .bin .lss (.tmp 8) (.tmp 7), none⟩] [3, 6, 7, 8, 9])
   (.seq (.cond (.tmp 9)
    (.skip)
    (.exit 0))
   (.seq (.block 1 (.seq (.reg [
        ⟨(some 10), .iaddr 2 (.tmp 6) (.tmp 8), none⟩,
        ⟨(some 11), .load 2 true (.tmp 10), none⟩,
        ⟨(some 5), .alloc 93 [(.int .i64 0), (.int .i64 0)], none⟩,
        ⟨none, .store 2 (.tmp 5) (.tmp 11), none⟩] [3, 5, 6, 7, 8])
    (.reg [
        ⟨(some 12), .mv (.tmp 3), none⟩,
        ⟨(some 13), .faddr 0 (.tmp 5), none⟩,
        ⟨(some 14), .load 1 false (.tmp 13), none⟩,
        ⟨(some 15), .faddr 1 (.tmp 5), none⟩,
        ⟨(some 16), .load 1 false (.tmp 15), none⟩,
        ⟨(some 17), .mm false (.tmp 14) (.tmp 16), none⟩,
        ⟨(some 18), .faddr 0 (.tmp 5), none⟩,
        ⟨(some 19), .load 1 false (.tmp 18), none⟩,
        ⟨(some 20), .faddr 1 (.tmp 5), none⟩,
        ⟨(some 21), .load 1 false (.tmp 20), none⟩,
        ⟨(some 22), .mm true (.tmp 19) (.tmp 21), none⟩,
        ⟨(some 23), .build [(.int .i64 0), (.int .i64 0)] [(0, 1, (.tmp 17)), (1, 1, (.tmp 22))], none⟩,
        ⟨(some 24), .bslice 93 2 1 [(.int .i64 0), (.int .i64 0)] [(0, (.tmp 23))], none⟩,
        ⟨(some 25), .app 93 2 16 (.tmp 12) (.tmp 24), none⟩,
        ⟨(some 3), .mv (.tmp 25), none⟩] [3, 6, 7, 8])))
   (.reg [
       ⟨(some 26), .bin .add (.tmp 8) (.const (.int .i64 1)), none⟩,
       ⟨(some 8), .mv (.tmp 26), none⟩] [3, 6, 7, 8])))))))
 (.seq (.reg [
     ⟨(some 27), .mv (.tmp 3), none⟩,
     ⟨(some 28), .call 148 [(.tmp 27), (.func 112)], none⟩] [3])
 (.seq (.reg [
     ⟨(some 29), .mv (.tmp 3), none⟩,
     ⟨(some 30), .call 149 [(.tmp 29)], none⟩,
     ⟨(some 2), .mv (.tmp 30), none⟩] [2])
 (.ret)))))
theorem s_impl_sortedEdges : stripF Try.prog 118 [[0], [0, 3], [3, 6, 7, 8], [3, 6, 7, 8], [3, 6, 7, 8, 9], [3, 5, 6, 7, 8], [3, 6, 7, 8], [3, 6, 7, 8], [3], [2]] = some (c_impl_sortedEdges, [.tmp 2], 31) := by kernel_rfl


abbrev tyGr : Nat := 38
def twoC (a b : Nat) : List Int := tab (a + b) fun j => if a ≤ j then 1 else 0
theorem flatE_snoc (es : List (Int × Int)) (e : Int × Int) : flatE (es ++ [e]) = flatE es ++ [I e.1, I e.2] := by simp [flatE]
theorem twoColors_new (a b : Nat) (ha : a ≤ 1000) (hb : b ≤ 1000) : NewS Try.prog f_impl_twoColors [I a, I b] (twoC a b) := by
  intro H
  refine ACalls.introB s_impl_twoColors (by simp) ?_; intro hB hA; unfold c_impl_twoColors; simp (config := { maxSteps := 1000000 }) (disch := (first | omega | (simp only [go_sem]; try omega))) only [go_sem, Nat.reduceAdd, Nat.reduceEqDiff, Nat.reduceLeDiff, Nat.reduceMul, Nat.reduceLT, reduceIte, Int.reduceToNat, w64_id, cast_succ]
  have e1 : (a : Int) + (b : Int) = ((a + b : Nat) : Int) := by omega
  repeat (first | (with_reducible first | refine SW.seq ?_ | refine SW.block ?_ | refine SW.rowC ?_ | refine SW.skip ?_ | refine SW.exit ?_ | intro _ | refine And.intro (by omega) ?_) | simp (config := { maxSteps := 1000000 }) (disch := (first | omega | (simp only [go_sem]; try omega))) only [go_sem, Nat.reduceAdd, Nat.reduceEqDiff, Nat.reduceLeDiff, Nat.reduceMul, Nat.reduceLT, reduceIte, Int.reduceToNat, w64_id, cast_succ, e1])
  rw [tab_rep]
  refine SW.loopE (fun E0 H0 q E' H' => ∃ i : Nat, i ≤ b ∧ q = b - i ∧ E' = aput E0 6 (I (a + i : Nat)) ∧ H' = H ++ [⟨0, 2, 1, (tab (a + b) fun j => if a ≤ j ∧ j < a + i then 1 else 0).map I⟩]) b ⟨0, by omega, by omega, rfl, ?_⟩ ?_
  · congr 4
    exact tab_congr fun j hj => by rw [if_neg (by omega)]
  rintro q E' H' ⟨i, hi, rfl, rfl, rfl⟩
  have hll := tab_length (a + b) fun j => if a ≤ j ∧ j < a + i then (1 : Int) else 0
  simp (config := { maxSteps := 1000000 }) (disch := (first | omega | (simp only [go_sem]; try omega))) only [go_sem, Nat.reduceAdd, Nat.reduceEqDiff, Nat.reduceLeDiff, Nat.reduceMul, Nat.reduceLT, reduceIte, Int.reduceToNat, w64_id, cast_succ]
  repeat (first | (with_reducible first | refine SW.seq ?_ | refine SW.block ?_ | refine SW.rowC ?_ | refine SW.skip ?_ | refine SW.exit ?_ | intro _ | refine And.intro (by omega) ?_) | simp (config := { maxSteps := 1000000 }) (disch := (first | omega | (simp only [go_sem]; try omega))) only [go_sem, Nat.reduceAdd, Nat.reduceEqDiff, Nat.reduceLeDiff, Nat.reduceMul, Nat.reduceLT, reduceIte, Int.reduceToNat, w64_id, cast_succ, e1])
  (first | refine SW.condD rfl (fun h => ?_) (fun h => ?_) | refine SW.condN rfl (fun h => ?_) (fun h => ?_) | refine SW.condNB rfl (fun h => ?_) (fun h => ?_) | refine SW.condB rfl (fun h => ?_) (fun h => ?_))
  · repeat (first | (with_reducible first | refine SW.seq ?_ | refine SW.block ?_ | refine SW.rowC ?_ | refine SW.skip ?_ | refine SW.exit ?_ | intro _ | refine And.intro (by omega) ?_) | simp (config := { maxSteps := 1000000 }) (disch := (first | omega | (simp only [go_sem]; try omega))) only [go_sem, Nat.reduceAdd, Nat.reduceEqDiff, Nat.reduceLeDiff, Nat.reduceMul, Nat.reduceLT, reduceIte, Int.reduceToNat, w64_id, cast_succ, take_tab])
    refine SLoop.next (b - (i + 1)) (by omega) ⟨i + 1, by omega, rfl, ?_, ?_⟩
    · simp [go_sem, tab_length, Int.add_assoc]
    · rw [tab_set]
      congr 4
      exact tab_congr fun j hj => by
        by_cases hjm : j = a + i
        · subst hjm
          rw [if_pos rfl, if_pos (by omega)]
        · rw [if_neg hjm]
          by_cases h2 : a ≤ j ∧ j < a + i
          · rw [if_pos h2, if_pos (by omega)]
          · rw [if_neg h2, if_neg (by omega)]
  · have : i = b := by omega
    subst this
    have e2 : (tab (a + i) fun j => if a ≤ j ∧ j < a + i then (1 : Int) else 0) = twoC a i := tab_congr fun j hj => by
      by_cases h2 : a ≤ j
      · rw [if_pos ⟨h2, hj⟩, if_pos h2]
      · rw [if_neg (by omega), if_neg h2]
    repeat (first | (with_reducible first | refine SW.seq ?_ | refine SW.block ?_ | refine SW.rowC ?_ | refine SW.skip ?_ | refine SW.exit ?_ | intro _ | refine And.intro (by omega) ?_) | simp (config := { maxSteps := 1000000 }) (disch := (first | omega | (simp only [go_sem]; try omega))) only [go_sem, Nat.reduceAdd, Nat.reduceEqDiff, Nat.reduceLeDiff, Nat.reduceMul, Nat.reduceLT, reduceIte, Int.reduceToNat, w64_id, cast_succ])
    refine SW.ret ?_; (try simp only [go_sem]); (first | refine FunPost.one ?_ | refine FunPost.two ?_ | refine FunPost.three ?_); (try simp (config := { maxSteps := 1000000 }) (disch := (first | omega | (simp only [go_sem]; try omega))) only [go_sem, Nat.reduceAdd, Nat.reduceEqDiff, Nat.reduceLeDiff, Nat.reduceMul, Nat.reduceLT, reduceIte, Int.reduceToNat, w64_id, cast_succ])
    rw [e2]
    refine GR.of ⟨?_, rfl⟩
    simp [twoC, tab]

theorem sortedEdges_ok (H : List Blk) (s : AV) (es : List (Int × Int)) (hs : RdE H s es) (hle : ∀ e ∈ es, e.1 ≤ e.2) (hnd : es.Nodup) (hl : es.length ≤ 2000000) :
    ACalls Try.prog f_impl_sortedEdges [s] H (fun r H' => ∃ ext, H' = H ++ ext ∧ OwnE H' (Btw H.length H'.length) r (sortU cmpE es)) := by
  have hsv : ∀ ext, aview (H ++ ext) s = some (es.length, flatE es) := fun ext => hs.append ext
  have hsv0 : aview H s = some (es.length, flatE es) := hs
  refine ACalls.introB s_impl_sortedEdges (by simp) ?_; intro hB hA; unfold c_impl_sortedEdges; simp (config := { maxSteps := 1000000 }) (disch := (first | omega | (simp only [go_sem]; try omega))) only [go_sem, Nat.reduceAdd, Nat.reduceEqDiff, Nat.reduceLeDiff, Nat.reduceMul, Nat.reduceLT, reduceIte, Int.reduceToNat, w64_id, cast_succ]
  have hsb : ∀ k, H.length ≤ k → Bel k s := fun k hk => (hA s (by simp)).mono hk
  repeat (first | (with_reducible first | refine SW.seq ?_ | refine SW.block ?_ | refine SW.rowC ?_ | refine SW.skip ?_ | refine SW.exit ?_ | intro _ | refine And.intro (by omega) ?_) | simp (config := { maxSteps := 1000000 }) (disch := (first | omega | (simp only [go_sem]; try omega))) only [go_sem, Nat.reduceAdd, Nat.reduceEqDiff, Nat.reduceLeDiff, Nat.reduceMul, Nat.reduceLT, reduceIte, Int.reduceToNat, w64_id, cast_succ, hsv, hsv0])
  refine SW.ghost (Gh.name 3 tyE 2 rfl) ?_
  simp (config := { maxSteps := 1000000 }) (disch := (first | omega | (simp only [go_sem]; try omega))) only [go_sem, Nat.reduceAdd, Nat.reduceEqDiff, Nat.reduceLeDiff, Nat.reduceMul, Nat.reduceLT, reduceIte, Int.reduceToNat, w64_id, cast_succ]
  refine SW.loopE (fun E0 H0 q E' H' => ∃ (pre post : List (Int × Int)) (ver : Nat), es = pre ++ post ∧ q = post.length ∧ E' = aput (aput E0 8 (I pre.length)) 3 (.nm H.length ver 0 pre.length) ∧ H' = H ++ [⟨ver, tyE, 2, flatE pre⟩]) es.length ⟨[], es, 0, rfl, rfl, rfl, rfl⟩ ?_
  rintro q E' H' ⟨pre, post, ver, hpp, rfl, rfl, rfl⟩
  have hpl : pre.length ≤ 2000000 := by rw [hpp] at hl; simp at hl; omega
  simp (config := { maxSteps := 1000000 }) (disch := (first | omega | (simp only [go_sem]; try omega))) only [go_sem, Nat.reduceAdd, Nat.reduceEqDiff, Nat.reduceLeDiff, Nat.reduceMul, Nat.reduceLT, reduceIte, Int.reduceToNat, w64_id, cast_succ]
  repeat (first | (with_reducible first | refine SW.seq ?_ | refine SW.block ?_ | refine SW.rowC ?_ | refine SW.skip ?_ | refine SW.exit ?_ | intro _ | refine And.intro (by omega) ?_) | simp (config := { maxSteps := 1000000 }) (disch := (first | omega | (simp only [go_sem]; try omega))) only [go_sem, Nat.reduceAdd, Nat.reduceEqDiff, Nat.reduceLeDiff, Nat.reduceMul, Nat.reduceLT, reduceIte, Int.reduceToNat, w64_id, cast_succ, hsv])
  (first | refine SW.condD rfl (fun h => ?_) (fun h => ?_) | refine SW.condN rfl (fun h => ?_) (fun h => ?_) | refine SW.condNB rfl (fun h => ?_) (fun h => ?_) | refine SW.condB rfl (fun h => ?_) (fun h => ?_))
  · obtain ⟨x, post, rfl, hg, -⟩ := consOf (d := (0, 0)) hpp (by omega)
    have hx := hle x (by rw [hpp]; simp)
    have l1 : ∀ ext, acells (H ++ ext) 2 (.el s (pre.length * 2)) = some [I x.1, I x.2] := fun ext => by
      have := (hs.append ext).ld (j := pre.length) (by omega)
      rwa [hg] at this
    have htl : (flatE pre).take (pre.length * 2) = flatE pre := List.take_of_length_le (by rw [flatE_length]; omega)
    have hfl := flatE_length pre
    have hmin : (if x.2 < x.1 then x.2 else x.1) = x.1 := if_neg (by omega)
    have hmax : (if x.1 < x.2 then x.2 else x.1) = x.2 := by
      split
      · rfl
      · omega
    have nm2 : ∀ (ty : Nat) (a b : AV), NmV 0 0 1 (some ⟨0, ty, 2, [a, b]⟩) = some (1, [a, b]) := fun ty a b => by simp [NmV]
    have hsb1 := hsb (H.length + 1) (by omega)
    repeat (first | (with_reducible first | refine SW.seq ?_ | refine SW.block ?_ | refine SW.rowC ?_ | refine SW.skip ?_ | refine SW.exit ?_ | intro _ | refine And.intro (by omega) ?_) | simp (config := { maxSteps := 1000000 }) (disch := (first | omega | (simp only [go_sem]; try omega))) only [go_sem, Nat.reduceAdd, Nat.reduceEqDiff, Nat.reduceLeDiff, Nat.reduceMul, Nat.reduceLT, reduceIte, Int.reduceToNat, w64_id, cast_succ, hsv, l1, htl, hfl, hmin, hmax, nm2])
    refine SLoop.nextT 1 post.length hB (by omega) (by simp) (by simp) ?_ ?_ ⟨pre ++ [x], post, ver + 1, by simp [hpp], rfl, ?_, ?_⟩
    · (simp only [go_sem, Nat.reduceAdd, Nat.reduceEqDiff, reduceIte, go_sem, and_self, and_true, true_and, implies_true, List.take_succ_cons, List.take_zero, and_true, true_and, hsb1]; try omega)
    · rw [← flatE_snoc]
      simp only [List.take_succ_cons, List.take_zero, BB_cons, BB_nil, and_true]
      intro c hc
      rw [flatE_lit] at hc
      obtain ⟨v, _, rfl⟩ := List.mem_map.1 hc
      exact .lit v
    · simp [go_sem]
    · rw [flatE_snoc]; simp
  · obtain ⟨rfl, rfl⟩ := nilOf hpp (by omega)
    repeat (first | (with_reducible first | refine SW.seq ?_ | refine SW.block ?_ | refine SW.rowC ?_ | refine SW.skip ?_ | refine SW.exit ?_ | intro _ | refine And.intro (by omega) ?_) | simp (config := { maxSteps := 1000000 }) (disch := (first | omega | (simp only [go_sem]; try omega))) only [go_sem, Nat.reduceAdd, Nat.reduceEqDiff, Nat.reduceLeDiff, Nat.reduceMul, Nat.reduceLT, reduceIte, Int.reduceToNat, w64_id, cast_succ, hsv])
    refine (sortE_ok sortE_p sortE_n compareEdges_call cmpE cmpE_tot.swo compareEdges_fn _ H.length ver tyE pre (by simp) (by omega)).mono ?_
    rintro r H' ⟨rfl, fs, hpm, hsd, rfl⟩
    have hfs : fs = sortU cmpE pre := sorted_is cmpE_tot hpm hsd hnd
    have hlen : pre.length = fs.length := hpm.length_eq.symm
    rw [hlen]
    repeat (first | (with_reducible first | refine SW.seq ?_ | refine SW.block ?_ | refine SW.rowC ?_ | refine SW.skip ?_ | refine SW.exit ?_ | intro _ | refine And.intro (by omega) ?_) | simp (config := { maxSteps := 1000000 }) (disch := (first | omega | (simp only [go_sem]; try omega))) only [go_sem, Nat.reduceAdd, Nat.reduceEqDiff, Nat.reduceLeDiff, Nat.reduceMul, Nat.reduceLT, reduceIte, Int.reduceToNat, w64_id, cast_succ])
    refine (compactE_ok _ H.length ver tyE fs (by simp) (by rw [hfs]; exact sortU_asc cmpE_tot _) (by omega)).mono ?_
    rintro r H' ⟨rfl, rfl⟩
    repeat (first | (with_reducible first | refine SW.seq ?_ | refine SW.block ?_ | refine SW.rowC ?_ | refine SW.skip ?_ | refine SW.exit ?_ | intro _ | refine And.intro (by omega) ?_) | simp (config := { maxSteps := 1000000 }) (disch := (first | omega | (simp only [go_sem]; try omega))) only [go_sem, Nat.reduceAdd, Nat.reduceEqDiff, Nat.reduceLeDiff, Nat.reduceMul, Nat.reduceLT, reduceIte, Int.reduceToNat, w64_id, cast_succ])
    refine SW.ret ?_; (try simp only [go_sem]); (first | refine FunPost.one ?_ | refine FunPost.two ?_ | refine FunPost.three ?_); (try simp (config := { maxSteps := 1000000 }) (disch := (first | omega | (simp only [go_sem]; try omega))) only [go_sem, Nat.reduceAdd, Nat.reduceEqDiff, Nat.reduceLeDiff, Nat.reduceMul, Nat.reduceLT, reduceIte, Int.reduceToNat, w64_id, cast_succ])
    rw [← hfs]
    exact GR.of ⟨_, rfl, .inl ⟨H.length, ver, tyE, rfl, ⟨by omega, by simp⟩, by simp⟩⟩

theorem graphOf_bad (H : List Blk) (cv ev : AV) (cols : List Int) (es : List (Int × Int)) (hc : RdS H cv cols) (he : RdE H ev es) (hb : cols.length > 64 ∨ es.length > 512) (hl : es.length ≤ 2000000) (hl2 : cols.length ≤ 2000000) :
    ACalls Try.prog f_impl_graphOf [cv, ev] H (fun r H' => r = .tup [.agg [nilS, nilS], I 5] ∧ ∃ ext, H' = H ++ ext) := by
  have hcv : ∀ ext, aview (H ++ ext) cv = some (cols.length, cols.map I) := fun ext => hc.append ext
  have hev : ∀ ext, aview (H ++ ext) ev = some (es.length, flatE es) := fun ext => he.append ext
  have hb2 : ((decide ((64 : Int) < (cols.length : Int))) || decide ((512 : Int) < (es.length : Int))) = true := by
    rcases hb with h | h
    · rw [decide_eq_true (show (64 : Int) < (cols.length : Int) by omega)]; rfl
    · rw [decide_eq_true (show (512 : Int) < (es.length : Int) by omega), Bool.or_true]
  refine ACalls.introB s_impl_graphOf (by simp) ?_; intro hB hA; unfold c_impl_graphOf; simp (config := { maxSteps := 1000000 }) (disch := (first | omega | (simp only [go_sem]; try omega))) only [go_sem, Nat.reduceAdd, Nat.reduceEqDiff, Nat.reduceLeDiff, Nat.reduceMul, Nat.reduceLT, reduceIte, Int.reduceToNat, w64_id, cast_succ]
  by_cases h1 : cols.length > 64
  · have d1 : decide ((64 : Int) < (cols.length : Int)) = true := decide_eq_true (by omega)
    repeat (first | (with_reducible first | refine SW.seq ?_ | refine SW.block ?_ | refine SW.rowC ?_ | refine SW.skip ?_ | refine SW.exit ?_ | intro _ | refine And.intro (by omega) ?_) | simp (config := { maxSteps := 1000000 }) (disch := (first | omega | (simp only [go_sem]; try omega))) only [go_sem, Nat.reduceAdd, Nat.reduceEqDiff, Nat.reduceLeDiff, Nat.reduceMul, Nat.reduceLT, reduceIte, Int.reduceToNat, w64_id, cast_succ, hcv, hev, d1])
    refine SW.condT rfl ?_
    repeat (first | (with_reducible first | refine SW.seq ?_ | refine SW.block ?_ | refine SW.rowC ?_ | refine SW.skip ?_ | refine SW.exit ?_ | intro _ | refine And.intro (by omega) ?_) | simp (config := { maxSteps := 1000000 }) (disch := (first | omega | (simp only [go_sem]; try omega))) only [go_sem, Nat.reduceAdd, Nat.reduceEqDiff, Nat.reduceLeDiff, Nat.reduceMul, Nat.reduceLT, reduceIte, Int.reduceToNat, w64_id, cast_succ])
    refine SW.ret ?_
    exact FunPost.cell_tmp (cs := [nilS, nilS]) (by simp (config := { maxSteps := 1000000 }) (disch := (first | omega | (simp only [go_sem]; try omega))) only [go_sem, Nat.reduceAdd, Nat.reduceEqDiff, Nat.reduceLeDiff, Nat.reduceMul, Nat.reduceLT, reduceIte, Int.reduceToNat, w64_id, cast_succ]) (GR.of ⟨rfl, _, rfl⟩)
  · have d1 : decide ((64 : Int) < (cols.length : Int)) = false := decide_eq_false (by omega)
    have d2 : decide ((512 : Int) < (es.length : Int)) = true := decide_eq_true (by omega)
    repeat (first | (with_reducible first | refine SW.seq ?_ | refine SW.block ?_ | refine SW.rowC ?_ | refine SW.skip ?_ | refine SW.exit ?_ | intro _ | refine And.intro (by omega) ?_) | simp (config := { maxSteps := 1000000 }) (disch := (first | omega | (simp only [go_sem]; try omega))) only [go_sem, Nat.reduceAdd, Nat.reduceEqDiff, Nat.reduceLeDiff, Nat.reduceMul, Nat.reduceLT, reduceIte, Int.reduceToNat, w64_id, cast_succ, hcv, hev, d1, d2])
    refine SW.condT rfl ?_
    repeat (first | (with_reducible first | refine SW.seq ?_ | refine SW.block ?_ | refine SW.rowC ?_ | refine SW.skip ?_ | refine SW.exit ?_ | intro _ | refine And.intro (by omega) ?_) | simp (config := { maxSteps := 1000000 }) (disch := (first | omega | (simp only [go_sem]; try omega))) only [go_sem, Nat.reduceAdd, Nat.reduceEqDiff, Nat.reduceLeDiff, Nat.reduceMul, Nat.reduceLT, reduceIte, Int.reduceToNat, w64_id, cast_succ])
    refine SW.ret ?_
    exact FunPost.cell_tmp (cs := [nilS, nilS]) (by simp (config := { maxSteps := 1000000 }) (disch := (first | omega | (simp only [go_sem]; try omega))) only [go_sem, Nat.reduceAdd, Nat.reduceEqDiff, Nat.reduceLeDiff, Nat.reduceMul, Nat.reduceLT, reduceIte, Int.reduceToNat, w64_id, cast_succ]) (GR.of ⟨rfl, _, rfl⟩)
theorem graphOf_ok (H : List Blk) (cv ev : AV) (cols : List Int) (es : List (Int × Int)) (hc : RdS H cv cols) (he : RdE H ev es) (c1 : cv.cell1 = true ∧ partsOf cv = [cv]) (hb1 : cols.length ≤ 64) (hb2 : es.length ≤ 512) (hle : ∀ e ∈ es, e.1 ≤ e.2) (hnd : es.Nodup) :
    ACalls Try.prog f_impl_graphOf [cv, ev] H (fun r H' => ∃ ext v, H' = H ++ ext ∧ r = .tup [.agg [cv, v], I 0] ∧ OwnE H' (Btw H.length H'.length) v (sortU cmpE es)) := by
  have hcv : ∀ ext, aview (H ++ ext) cv = some (cols.length, cols.map I) := fun ext => hc.append ext
  have hev : ∀ ext, aview (H ++ ext) ev = some (es.length, flatE es) := fun ext => he.append ext
  have d1 : decide ((64 : Int) < (cols.length : Int)) = false := decide_eq_false (by omega)
  have d2 : decide ((512 : Int) < (es.length : Int)) = false := decide_eq_false (by omega)
  refine ACalls.introB s_impl_graphOf (by simp) ?_; intro hB hA; unfold c_impl_graphOf; simp (config := { maxSteps := 1000000 }) (disch := (first | omega | (simp only [go_sem]; try omega))) only [go_sem, Nat.reduceAdd, Nat.reduceEqDiff, Nat.reduceLeDiff, Nat.reduceMul, Nat.reduceLT, reduceIte, Int.reduceToNat, w64_id, cast_succ]
  repeat (first | (with_reducible first | refine SW.seq ?_ | refine SW.block ?_ | refine SW.rowC ?_ | refine SW.skip ?_ | refine SW.exit ?_ | intro _ | refine And.intro (by omega) ?_) | simp (config := { maxSteps := 1000000 }) (disch := (first | omega | (simp only [go_sem]; try omega))) only [go_sem, Nat.reduceAdd, Nat.reduceEqDiff, Nat.reduceLeDiff, Nat.reduceMul, Nat.reduceLT, reduceIte, Int.reduceToNat, w64_id, cast_succ, hcv, hev, d1, d2])
  refine SW.condF rfl ?_
  repeat (first | (with_reducible first | refine SW.seq ?_ | refine SW.block ?_ | refine SW.rowC ?_ | refine SW.skip ?_ | refine SW.exit ?_ | intro _ | refine And.intro (by omega) ?_) | simp (config := { maxSteps := 1000000 }) (disch := (first | omega | (simp only [go_sem]; try omega))) only [go_sem, Nat.reduceAdd, Nat.reduceEqDiff, Nat.reduceLeDiff, Nat.reduceMul, Nat.reduceLT, reduceIte, Int.reduceToNat, w64_id, cast_succ])
  refine (sortedEdges_ok _ ev es (he.append _) hle hnd (by omega)).mono ?_
  rintro r H1 ⟨ext, rfl, ho⟩
  repeat (first | (with_reducible first | refine SW.seq ?_ | refine SW.block ?_ | refine SW.rowC ?_ | refine SW.skip ?_ | refine SW.exit ?_ | intro _ | refine And.intro (by omega) ?_) | simp (config := { maxSteps := 1000000 }) (disch := (first | omega | (simp only [go_sem]; try omega))) only [go_sem, Nat.reduceAdd, Nat.reduceEqDiff, Nat.reduceLeDiff, Nat.reduceMul, Nat.reduceLT, reduceIte, Int.reduceToNat, w64_id, cast_succ, c1.1, c1.2, ho.one.1, ho.one.2])
  refine SW.ret ?_
  refine FunPost.cell_tmp (cs := [cv, r]) (by simp (config := { maxSteps := 1000000 }) (disch := (first | omega | (simp only [go_sem]; try omega))) only [go_sem, Nat.reduceAdd, Nat.reduceEqDiff, Nat.reduceLeDiff, Nat.reduceMul, Nat.reduceLT, reduceIte, Int.reduceToNat, w64_id, cast_succ]) (GR.of ⟨_, r, rfl, rfl, ?_⟩)
  have e5 : H ++ ((⟨0, tyGr, 1, [cv, r]⟩ : Blk) :: ext) = (H ++ [(⟨0, tyGr, 1, [nilS, nilS]⟩ : Blk)] ++ ext).set H.length ⟨0, tyGr, 1, [cv, r]⟩ := by simp
  rw [e5]
  refine (ho.same (fun j b h1 h2 => ?_)).weak (fun r h1 h2 => ?_)
  · rw [List.getElem?_set_ne (by unfold Btw at h1; simp at h1; omega)]; exact h2
  · unfold Btw at h1 ⊢; simp at h1 h2 ⊢; omega

/-- The edges of sets: each element to its set's number. -/
def edI (n : Nat) (xss : List (List Int)) : List (Int × Int) := xss.zipIdx.flatMap fun p => p.1.map fun x => (x, (n : Int) + (p.2 : Int))
theorem edI_snoc (n : Nat) (pre : List (List Int)) (x : List Int) : edI n (pre ++ [x]) = edI n pre ++ x.map fun y => (y, (n : Int) + (pre.length : Int)) := by
  unfold edI
  rw [List.zipIdx_append, List.flatMap_append]
  simp
theorem edI_len {n : Nat} : ∀ {xss : List (List Int)}, (∀ x ∈ xss, x.length ≤ 32) → (edI n xss).length ≤ xss.length * 32 := by
  intro xss
  rw [← List.reverse_reverse xss]
  induction xss.reverse with
  | nil => intro _; simp [edI]
  | cons x r ih =>
    intro h
    rw [List.reverse_cons] at h ⊢
    rw [edI_snoc, List.length_append, List.length_map]
    have e1 := h x (by simp)
    have e2 := ih (fun y hy => h y (by simp at hy ⊢; exact .inl hy))
    simp at e2 ⊢; omega

theorem edI_mem {n : Nat} : ∀ {xss : List (List Int)} {e : Int × Int}, e ∈ edI n xss ↔ ∃ (k : Nat) (x : List Int), xss[k]? = some x ∧ e.1 ∈ x ∧ e.2 = (n : Int) + (k : Int) := by
  intro xss e
  unfold edI
  rw [List.mem_flatMap]
  constructor
  · rintro ⟨⟨x, k⟩, hp, he⟩
    obtain ⟨y, hy, rfl⟩ := List.mem_map.1 he
    exact ⟨k, x, by simpa using List.mem_zipIdx_iff_getElem?.1 hp, hy, rfl⟩
  · rintro ⟨k, x, hk, h1, h2⟩
    refine ⟨(x, k), List.mem_zipIdx_iff_getElem?.2 (by simpa using hk), List.mem_map.2 ⟨e.1, h1, ?_⟩⟩
    exact Prod.ext rfl h2.symm
theorem edI_nodup {n : Nat} : ∀ {xss : List (List Int)}, (∀ x ∈ xss, x.Nodup) → (edI n xss).Nodup := by
  intro xss
  rw [← List.reverse_reverse xss]
  induction xss.reverse with
  | nil => intro _; simp [edI]
  | cons x r ih =>
    intro h
    rw [List.reverse_cons] at h ⊢
    rw [edI_snoc, List.nodup_append]
    refine ⟨ih (fun y hy => h y (by simp at hy ⊢; exact .inl hy)), ?_, ?_⟩
    · rw [List.nodup_iff_pairwise_ne, List.pairwise_map]
      refine (List.nodup_iff_pairwise_ne.1 (h x (by simp))).imp ?_
      intro a b hab he
      exact hab (Prod.mk.inj he).1
    · rintro a ha b hb rfl
      obtain ⟨k, y, hk, _, h2⟩ := edI_mem.1 ha
      obtain ⟨z, _, rfl⟩ := List.mem_map.1 hb
      have := (List.getElem?_eq_some_iff.1 hk).1
      simp only at h2
      omega

def grV (n : Nat) (xss : List (List Int)) : (List Int × List (Int × Int)) × Int := if n + xss.length > 64 ∨ (edI n xss).length > 512 then (([], []), 5) else ((twoC n xss.length, sortU cmpE (edI n xss)), 0)
/-- A graph of the call's own and a code. -/
def GrR (H : List Blk) (V : (List Int × List (Int × Int)) × Int) (r : AV) (H' : List Blk) : Prop :=
  ∃ ext v u q, H' = H ++ ext ∧ r = .tup [.agg [v, u], I V.2] ∧ H.length ≤ q ∧ q ≤ H'.length ∧ OwnS H' (Btw H.length q) H'.length v V.1.1 ∧ OwnE H' (Btw q H'.length) u V.1.2
theorem nilGr {H ext : List Blk} {code : Int} : GrR H (([], []), code) (.tup [.agg [nilS, nilS], I code]) (H ++ ext) :=
  ⟨ext, nilS, nilS, H.length, rfl, rfl, Nat.le_refl _, by simp, .inr ⟨rfl, .inl rfl⟩, .inr ⟨rfl, .inl rfl⟩⟩

theorem setGraph_ok (H : List Blk) (n : Nat) (xss : List (List Int)) (hn1 : 1 ≤ n) (hn : n ≤ 32) (hl : xss.length ≤ 128) (hx : ∀ xs ∈ xss, asc 0 ((n : Int) - 1) xs = true) :
    ACalls Try.prog f_impl_setGraph [I n, ilSS xss] H (GrR H (grV n xss)) := by
  have hx32 : ∀ x ∈ xss, x.length ≤ 32 := fun x h => by
    rcases asc_len (hx x h) with h1 | h1
    · rw [h1]; simp
    · omega
  refine ACalls.introB s_impl_setGraph (by simp) ?_; intro hB hA; unfold c_impl_setGraph; simp (config := { maxSteps := 1000000 }) (disch := (first | omega | (simp only [go_sem]; try omega))) only [go_sem, Nat.reduceAdd, Nat.reduceEqDiff, Nat.reduceLeDiff, Nat.reduceMul, Nat.reduceLT, reduceIte, Int.reduceToNat, w64_id, cast_succ]
  repeat (first | (with_reducible first | refine SW.seq ?_ | refine SW.block ?_ | refine SW.rowC ?_ | refine SW.skip ?_ | refine SW.exit ?_ | intro _ | refine And.intro (by omega) ?_) | simp (config := { maxSteps := 1000000 }) (disch := (first | omega | (simp only [go_sem]; try omega))) only [go_sem, Nat.reduceAdd, Nat.reduceEqDiff, Nat.reduceLeDiff, Nat.reduceMul, Nat.reduceLT, reduceIte, Int.reduceToNat, w64_id, cast_succ])
  refine SW.ghost (Gh.name 6 tyE 2 rfl) ?_
  simp (config := { maxSteps := 1000000 }) (disch := (first | omega | (simp only [go_sem]; try omega))) only [go_sem, Nat.reduceAdd, Nat.reduceEqDiff, Nat.reduceLeDiff, Nat.reduceMul, Nat.reduceLT, reduceIte, Int.reduceToNat, w64_id, cast_succ]
  refine SW.loopE (fun E0 H0 q E' H' => ∃ (pre post : List (List Int)) (ver : Nat), xss = pre ++ post ∧ q = post.length ∧ E' = aput (aput E0 13 (I pre.length)) 6 (.nm (H.length + 1) ver 0 (edI n pre).length) ∧ H' = H ++ [⟨0, tyGr, 1, [nilS, nilS]⟩, ⟨ver, tyE, 2, flatE (edI n pre)⟩]) xss.length ⟨[], xss, 0, rfl, rfl, rfl, rfl⟩ ?_
  rintro q E' H' ⟨pre, post, ver, hpp, rfl, rfl, rfl⟩
  have hpl : pre.length ≤ 128 := by rw [hpp] at hl; simp at hl; omega
  have hel := edI_len (n := n) (xss := pre) (fun x h => hx32 x (by rw [hpp]; simp [h]))
  have hsn := fun x => edI_snoc n pre x
  generalize hL : edI n pre = L at *
  simp (config := { maxSteps := 1000000 }) (disch := (first | omega | (simp only [go_sem]; try omega))) only [go_sem, Nat.reduceAdd, Nat.reduceEqDiff, Nat.reduceLeDiff, Nat.reduceMul, Nat.reduceLT, reduceIte, Int.reduceToNat, w64_id, cast_succ]
  repeat (first | (with_reducible first | refine SW.seq ?_ | refine SW.block ?_ | refine SW.rowC ?_ | refine SW.skip ?_ | refine SW.exit ?_ | intro _ | refine And.intro (by omega) ?_) | simp (config := { maxSteps := 1000000 }) (disch := (first | omega | (simp only [go_sem]; try omega))) only [go_sem, Nat.reduceAdd, Nat.reduceEqDiff, Nat.reduceLeDiff, Nat.reduceMul, Nat.reduceLT, reduceIte, Int.reduceToNat, w64_id, cast_succ])
  (first | refine SW.condD rfl (fun h => ?_) (fun h => ?_) | refine SW.condN rfl (fun h => ?_) (fun h => ?_) | refine SW.condNB rfl (fun h => ?_) (fun h => ?_) | refine SW.condB rfl (fun h => ?_) (fun h => ?_))
  · obtain ⟨x, post, rfl, hg, -⟩ := consOf (d := []) hpp (by omega)
    have hxl := hx32 x (by rw [hpp]; simp)
    have hxm := asc_mem (hx x (by rw [hpp]; simp))
    repeat (first | (with_reducible first | refine SW.seq ?_ | refine SW.block ?_ | refine SW.rowC ?_ | refine SW.skip ?_ | refine SW.exit ?_ | intro _ | refine And.intro (by omega) ?_) | simp (config := { maxSteps := 1000000 }) (disch := (first | omega | (simp only [go_sem]; try omega))) only [go_sem, Nat.reduceAdd, Nat.reduceEqDiff, Nat.reduceLeDiff, Nat.reduceMul, Nat.reduceLT, reduceIte, Int.reduceToNat, w64_id, cast_succ, hg])
    refine SW.loopE (fun E0 H0 q E' H' => ∃ (pr po : List Int) (ver : Nat), x = pr ++ po ∧ q = po.length ∧ E' = aput (aput E0 20 (I pr.length)) 6 (.nm (H.length + 1) ver 0 (L ++ pr.map fun y => (y, (n : Int) + (pre.length : Int))).length) ∧ H' = H ++ [⟨0, tyGr, 1, [nilS, nilS]⟩, ⟨ver, tyE, 2, flatE (L ++ pr.map fun y => (y, (n : Int) + (pre.length : Int)))⟩]) x.length ⟨[], x, ver, rfl, rfl, by simp [go_sem], by simp⟩ ?_
    rintro q E' H' ⟨pr, po, ver, hpx, rfl, rfl, rfl⟩
    have hprl : pr.length ≤ 32 := by rw [hpx] at hxl; simp at hxl; omega
    have hMl : (L ++ pr.map fun y => (y, (n : Int) + (pre.length : Int))).length = L.length + pr.length := by simp
    have hMs : ∀ y, L ++ (pr ++ [y]).map (fun y => (y, (n : Int) + (pre.length : Int))) = (L ++ pr.map fun y => (y, (n : Int) + (pre.length : Int))) ++ [(y, (n : Int) + (pre.length : Int))] := fun y => by simp
    generalize hM : (L ++ pr.map fun y => (y, (n : Int) + (pre.length : Int))) = M at *
    simp (config := { maxSteps := 1000000 }) (disch := (first | omega | (simp only [go_sem]; try omega))) only [go_sem, Nat.reduceAdd, Nat.reduceEqDiff, Nat.reduceLeDiff, Nat.reduceMul, Nat.reduceLT, reduceIte, Int.reduceToNat, w64_id, cast_succ]
    repeat (first | (with_reducible first | refine SW.seq ?_ | refine SW.block ?_ | refine SW.rowC ?_ | refine SW.skip ?_ | refine SW.exit ?_ | intro _ | refine And.intro (by omega) ?_) | simp (config := { maxSteps := 1000000 }) (disch := (first | omega | (simp only [go_sem]; try omega))) only [go_sem, Nat.reduceAdd, Nat.reduceEqDiff, Nat.reduceLeDiff, Nat.reduceMul, Nat.reduceLT, reduceIte, Int.reduceToNat, w64_id, cast_succ])
    (first | refine SW.condD rfl (fun h2 => ?_) (fun h2 => ?_) | refine SW.condN rfl (fun h2 => ?_) (fun h2 => ?_) | refine SW.condNB rfl (fun h2 => ?_) (fun h2 => ?_) | refine SW.condB rfl (fun h2 => ?_) (fun h2 => ?_))
    · obtain ⟨y, po, rfl, hgy, -⟩ := consOf (d := 0) hpx (by omega)
      have htl : (flatE M).take (M.length * 2) = flatE M := List.take_of_length_le (by rw [flatE_length]; omega)
      have hfl := flatE_length M
      have nm2 : ∀ (ty : Nat) (a b : AV), NmV 0 0 1 (some ⟨0, ty, 2, [a, b]⟩) = some (1, [a, b]) := fun ty a b => by simp [NmV]
      repeat (first | (with_reducible first | refine SW.seq ?_ | refine SW.block ?_ | refine SW.rowC ?_ | refine SW.skip ?_ | refine SW.exit ?_ | intro _ | refine And.intro (by omega) ?_) | simp (config := { maxSteps := 1000000 }) (disch := (first | omega | (simp only [go_sem]; try omega))) only [go_sem, Nat.reduceAdd, Nat.reduceEqDiff, Nat.reduceLeDiff, Nat.reduceMul, Nat.reduceLT, reduceIte, Int.reduceToNat, w64_id, cast_succ, hgy, htl, hfl, nm2])
      refine SLoop.nextT 2 po.length hB (by omega) (by simp) (by simp) ?_ ?_ ⟨pr ++ [y], po, ver + 1, by simp [hpx], rfl, ?_, ?_⟩
      · (simp only [go_sem, Nat.reduceAdd, Nat.reduceEqDiff, reduceIte, go_sem, and_self, and_true, true_and, implies_true, List.take_succ_cons, List.take_zero, and_true, true_and]; try omega)
      · have e9 := flatE_snoc M (y, (n : Int) + (pre.length : Int))
        simp only at e9
        rw [← e9]
        simp only [List.take_succ_cons, List.take_zero, BB_cons, BB_nil, and_true]
        refine ⟨fun c hc => ?_, fun c hc => ?_⟩
        · simp at hc; subst hc; exact .lit _
        · rw [flatE_lit] at hc
          obtain ⟨v, _, rfl⟩ := List.mem_map.1 hc
          exact .lit v
      · simp [go_sem, hMl]; omega
      · rw [hMs, flatE_snoc]; simp
    · obtain ⟨rfl, rfl⟩ := nilOf hpx (by omega)
      repeat (first | (with_reducible first | refine SW.seq ?_ | refine SW.block ?_ | refine SW.rowC ?_ | refine SW.skip ?_ | refine SW.exit ?_ | intro _ | refine And.intro (by omega) ?_) | simp (config := { maxSteps := 1000000 }) (disch := (first | omega | (simp only [go_sem]; try omega))) only [go_sem, Nat.reduceAdd, Nat.reduceEqDiff, Nat.reduceLeDiff, Nat.reduceMul, Nat.reduceLT, reduceIte, Int.reduceToNat, w64_id, cast_succ])
      refine SLoop.next post.length (by simp) ⟨pre ++ [pr], post, ver, by simp [hpp], rfl, ?_, ?_⟩
      · rw [hsn, hM]; simp [go_sem]
      · rw [hsn, hM]
  · obtain ⟨rfl, rfl⟩ := nilOf hpp (by omega)
    repeat (first | (with_reducible first | refine SW.seq ?_ | refine SW.block ?_ | refine SW.rowC ?_ | refine SW.skip ?_ | refine SW.exit ?_ | refine PFn.use (sizeS_fn _) ?_ | refine PFn.useq (sizeS_fn _) ?_ | intro _ | refine And.intro (by omega) ?_) | simp (config := { maxSteps := 1000000 }) (disch := (first | omega | (simp only [go_sem]; try omega))) only [go_sem, Nat.reduceAdd, Nat.reduceEqDiff, Nat.reduceLeDiff, Nat.reduceMul, Nat.reduceLT, reduceIte, Int.reduceToNat, w64_id, cast_succ])
    refine (twoColors_new n pre.length (by omega) (by omega) _).mono ?_
    rintro r H1 ⟨rfl, rfl⟩
    have htc : (twoC n pre.length).length = n + pre.length := by simp [twoC, tab]
    have hrc : RdS (H ++ [(⟨0, tyGr, 1, [nilS, nilS]⟩ : Blk), ⟨ver, tyE, 2, flatE L⟩, ⟨0, 2, 1, (twoC n pre.length).map I⟩]) (.nm (H.length + 2) 0 0 (twoC n pre.length).length) (twoC n pre.length) := view_nm (ver := 0) (ty := 2) (by simp) (by simp)
    have hre : RdE (H ++ [(⟨0, tyGr, 1, [nilS, nilS]⟩ : Blk), ⟨ver, tyE, 2, flatE L⟩, ⟨0, 2, 1, (twoC n pre.length).map I⟩]) (.nm (H.length + 1) ver 0 L.length) L := rd_nmE (ver := ver) (ty := tyE) (by simp)
    have hnd : L.Nodup := by rw [← hL]; exact edI_nodup (fun x h => asc_nodupA (hx x h))
    have hle : ∀ e ∈ L, e.1 ≤ e.2 := fun e he => by
      rw [← hL] at he
      obtain ⟨k, x, hk, h1, h2⟩ := edI_mem.1 he
      have := asc_mem (hx x (List.mem_of_getElem? hk)) _ h1
      omega
    have hV : grV n pre = if n + pre.length > 64 ∨ L.length > 512 then (([], []), 5) else ((twoC n pre.length, sortU cmpE L), 0) := by unfold grV; rw [hL]
    rw [hV]
    by_cases hbad : n + pre.length > 64 ∨ L.length > 512
    · rw [if_pos hbad]
      have hgb := graphOf_bad _ _ _ _ _ hrc hre (by rw [htc]; exact hbad) (by omega) (by omega)
      repeat (first | (with_reducible first | refine SW.seq ?_ | refine SW.block ?_ | refine SW.rowC ?_ | refine SW.skip ?_ | refine SW.exit ?_ | intro _ | refine And.intro (by omega) ?_) | simp (config := { maxSteps := 1000000 }) (disch := (first | omega | (simp only [go_sem]; try omega))) only [go_sem, Nat.reduceAdd, Nat.reduceEqDiff, Nat.reduceLeDiff, Nat.reduceMul, Nat.reduceLT, reduceIte, Int.reduceToNat, w64_id, cast_succ])
      refine hgb.mono ?_
      rintro r H2 ⟨rfl, ext, rfl⟩
      repeat (first | (with_reducible first | refine SW.seq ?_ | refine SW.block ?_ | refine SW.rowC ?_ | refine SW.skip ?_ | refine SW.exit ?_ | intro _ | refine And.intro (by omega) ?_) | simp (config := { maxSteps := 1000000 }) (disch := (first | omega | (simp only [go_sem]; try omega))) only [go_sem, Nat.reduceAdd, Nat.reduceEqDiff, Nat.reduceLeDiff, Nat.reduceMul, Nat.reduceLT, reduceIte, Int.reduceToNat, w64_id, cast_succ])
      refine SW.ret ?_
      exact FunPost.cell_tmp (cs := [nilS, nilS]) (by simp (config := { maxSteps := 1000000 }) (disch := (first | omega | (simp only [go_sem]; try omega))) only [go_sem, Nat.reduceAdd, Nat.reduceEqDiff, Nat.reduceLeDiff, Nat.reduceMul, Nat.reduceLT, reduceIte, Int.reduceToNat, w64_id, cast_succ]) (GR.of nilGr)
    · rw [if_neg hbad]
      have hgo := graphOf_ok _ _ _ _ _ hrc hre ⟨rfl, rfl⟩ (by omega) (by omega) hle hnd
      repeat (first | (with_reducible first | refine SW.seq ?_ | refine SW.block ?_ | refine SW.rowC ?_ | refine SW.skip ?_ | refine SW.exit ?_ | intro _ | refine And.intro (by omega) ?_) | simp (config := { maxSteps := 1000000 }) (disch := (first | omega | (simp only [go_sem]; try omega))) only [go_sem, Nat.reduceAdd, Nat.reduceEqDiff, Nat.reduceLeDiff, Nat.reduceMul, Nat.reduceLT, reduceIte, Int.reduceToNat, w64_id, cast_succ])
      refine hgo.mono ?_
      rintro r H2 ⟨ext, v, rfl, rfl, ho⟩
      repeat (first | (with_reducible first | refine SW.seq ?_ | refine SW.block ?_ | refine SW.rowC ?_ | refine SW.skip ?_ | refine SW.exit ?_ | intro _ | refine And.intro (by omega) ?_) | simp (config := { maxSteps := 1000000 }) (disch := (first | omega | (simp only [go_sem]; try omega))) only [go_sem, Nat.reduceAdd, Nat.reduceEqDiff, Nat.reduceLeDiff, Nat.reduceMul, Nat.reduceLT, reduceIte, Int.reduceToNat, w64_id, cast_succ, ho.one.1, ho.one.2])
      refine SW.ret ?_
      refine FunPost.cell_tmp (cs := [.nm (H.length + 2) 0 0 (twoC n pre.length).length, v]) (by simp (config := { maxSteps := 1000000 }) (disch := (first | omega | (simp only [go_sem]; try omega))) only [go_sem, Nat.reduceAdd, Nat.reduceEqDiff, Nat.reduceLeDiff, Nat.reduceMul, Nat.reduceLT, reduceIte, Int.reduceToNat, w64_id, cast_succ]) (GR.of ⟨_, _, v, H.length + 3, rfl, rfl, by omega, by simp, .inl ⟨H.length + 2, 0, 2, rfl, ⟨by omega, by omega⟩, by simp, by simp⟩, ?_⟩)
      generalize hgb : (⟨0, tyGr, 1, [.nm (H.length + 2) 0 0 (twoC n pre.length).length, v]⟩ : Blk) = g1
      have e5 : ∀ b c : Blk, H ++ (g1 :: b :: c :: ext) = (H ++ [(⟨0, tyGr, 1, [nilS, nilS]⟩ : Blk), b, c] ++ ext).set H.length g1 := fun b c => by simp
      rw [e5]
      refine (ho.same (fun j b h1 h2 => ?_)).weak (fun r h1 h2 => ?_)
      · rw [List.getElem?_set_ne (by unfold Btw at h1; simp at h1; omega)]; exact h2
      · unfold Btw at h1 ⊢; simp at h1 h2 ⊢; omega

def dgV (n : Int) (xss : List (List Int)) : (List Int × List (Int × Int)) × Int := if designB n xss = true then grV n.toNat xss else (([], []), 1)
theorem designB_facts {n : Int} {xss : List (List Int)} (h : designB n xss = true) : ∃ k : Nat, n = k ∧ 1 ≤ k ∧ k ≤ 32 ∧ xss.length ≤ 128 ∧ ∀ xs ∈ xss, asc 0 ((k : Int) - 1) xs = true := by
  simp only [designB, Bool.and_eq_true, decide_eq_true_eq, List.all_eq_true] at h
  obtain ⟨⟨⟨⟨h1, h2⟩, h3⟩, h4⟩, -⟩ := h
  obtain ⟨k, rfl⟩ := Int.eq_ofNat_of_zero_le (show 0 ≤ n by omega)
  refine ⟨k, rfl, by omega, by omega, h4, fun xs hx => ?_⟩
  have := h3 xs hx
  simp only [blkB, Bool.and_eq_true] at this
  exact this.2
theorem implDesignGraph_ok (H : List Blk) (n : Int) (xss : List (List Int)) : ACalls Try.prog f_impl_DesignGraph [.agg [I n, ilSS xss]] H (GrR H (dgV n xss)) := by
  have hv := ValidDesign_fn n xss
  unfold dgV
  by_cases hd : designB n xss = true
  · rw [if_pos hd]
    rw [hd] at hv
    obtain ⟨k, rfl, h1, h2, h3, h4⟩ := designB_facts hd
    rw [show ((k : Int)).toNat = k from rfl]
    refine ACalls.introB s_impl_DesignGraph (by simp) ?_; intro hB hA; unfold c_impl_DesignGraph; simp (config := { maxSteps := 1000000 }) (disch := (first | omega | (simp only [go_sem]; try omega))) only [go_sem, Nat.reduceAdd, Nat.reduceEqDiff, Nat.reduceLeDiff, Nat.reduceMul, Nat.reduceLT, reduceIte, Int.reduceToNat, w64_id, cast_succ]
    repeat (first | (with_reducible first | refine SW.seq ?_ | refine SW.block ?_ | refine SW.rowC ?_ | refine SW.skip ?_ | refine SW.exit ?_ | refine PFn.use (hv) ?_ | refine PFn.useq (hv) ?_ | intro _ | refine And.intro (by omega) ?_) | simp (config := { maxSteps := 1000000 }) (disch := (first | omega | (simp only [go_sem]; try omega))) only [go_sem, Nat.reduceAdd, Nat.reduceEqDiff, Nat.reduceLeDiff, Nat.reduceMul, Nat.reduceLT, reduceIte, Int.reduceToNat, w64_id, cast_succ])
    refine SW.condF rfl ?_
    repeat (first | (with_reducible first | refine SW.seq ?_ | refine SW.block ?_ | refine SW.rowC ?_ | refine SW.skip ?_ | refine SW.exit ?_ | intro _ | refine And.intro (by omega) ?_) | simp (config := { maxSteps := 1000000 }) (disch := (first | omega | (simp only [go_sem]; try omega))) only [go_sem, Nat.reduceAdd, Nat.reduceEqDiff, Nat.reduceLeDiff, Nat.reduceMul, Nat.reduceLT, reduceIte, Int.reduceToNat, w64_id, cast_succ])
    refine (setGraph_ok _ k xss h1 h2 h3 h4).mono ?_
    generalize grV k xss = V
    obtain ⟨⟨cols, es⟩, code⟩ := V
    rintro r H1 ⟨ext, v, u, q, rfl, rfl, q1, q2, hc, he⟩
    replace hc : OwnS _ _ _ v cols := hc
    replace he : OwnE _ _ u es := he
    have c1 : v.cell1 = true ∧ partsOf v = [v] := by rcases hc with ⟨r, ver, ty, rfl, _⟩ | ⟨_, rfl | rfl⟩ <;> exact ⟨rfl, rfl⟩
    repeat (first | (with_reducible first | refine SW.seq ?_ | refine SW.block ?_ | refine SW.rowC ?_ | refine SW.skip ?_ | refine SW.exit ?_ | intro _ | refine And.intro (by omega) ?_) | simp (config := { maxSteps := 1000000 }) (disch := (first | omega | (simp only [go_sem]; try omega))) only [go_sem, Nat.reduceAdd, Nat.reduceEqDiff, Nat.reduceLeDiff, Nat.reduceMul, Nat.reduceLT, reduceIte, Int.reduceToNat, w64_id, cast_succ, c1.1, c1.2, he.one.1, he.one.2])
    refine SW.ret ?_
    have q1' : H.length + 2 ≤ q := by simpa using q1
    have e5 : ∀ D : Blk, H ++ (D :: (⟨0, tyGr, 1, [v, u]⟩ : Blk) :: ext) = (H ++ [D, (⟨0, tyGr, 1, [nilS, nilS]⟩ : Blk)] ++ ext).set (H.length + 1) ⟨0, tyGr, 1, [v, u]⟩ := fun D => by simp
    refine FunPost.cell_tmp (cs := [v, u]) (by simp (config := { maxSteps := 1000000 }) (disch := (first | omega | (simp only [go_sem]; try omega))) only [go_sem, Nat.reduceAdd, Nat.reduceEqDiff, Nat.reduceLeDiff, Nat.reduceMul, Nat.reduceLT, reduceIte, Int.reduceToNat, w64_id, cast_succ]) (GR.of ⟨_, v, u, q, rfl, rfl, by omega, by simp at q2 ⊢; omega, ?_, ?_⟩)
    · rw [e5]
      refine OwnS.weak (N := Btw (H ++ [(⟨0, 41, 1, [I k, ilSS xss]⟩ : Blk), ⟨0, tyGr, 1, [nilS, nilS]⟩]).length q) ?_ (fun r h1 h2 => ?_)
      · have := hc.same (H' := (H ++ [(⟨0, 41, 1, [I k, ilSS xss]⟩ : Blk), (⟨0, tyGr, 1, [nilS, nilS]⟩ : Blk)] ++ ext).set (H.length + 1) ⟨0, tyGr, 1, [v, u]⟩) (fun j b h1 _ h2 => by rw [List.getElem?_set_ne (by unfold Btw at h1; simp at h1; omega)]; exact h2)
        simpa using this
      · unfold Btw at h1 ⊢; simp at h1 ⊢; omega
    · rw [e5]
      refine (he.same (fun j b h1 h2 => ?_)).weak (fun r h1 h2 => ?_)
      · rw [List.getElem?_set_ne (by unfold Btw at h1; omega)]; exact h2
      · unfold Btw at h1 ⊢; simp at h1 h2 ⊢; omega
  · rw [if_neg hd]
    rw [Bool.not_eq_true] at hd
    rw [hd] at hv
    refine ACalls.introB s_impl_DesignGraph (by simp) ?_; intro hB hA; unfold c_impl_DesignGraph; simp (config := { maxSteps := 1000000 }) (disch := (first | omega | (simp only [go_sem]; try omega))) only [go_sem, Nat.reduceAdd, Nat.reduceEqDiff, Nat.reduceLeDiff, Nat.reduceMul, Nat.reduceLT, reduceIte, Int.reduceToNat, w64_id, cast_succ]
    repeat (first | (with_reducible first | refine SW.seq ?_ | refine SW.block ?_ | refine SW.rowC ?_ | refine SW.skip ?_ | refine SW.exit ?_ | refine PFn.use (hv) ?_ | refine PFn.useq (hv) ?_ | intro _ | refine And.intro (by omega) ?_) | simp (config := { maxSteps := 1000000 }) (disch := (first | omega | (simp only [go_sem]; try omega))) only [go_sem, Nat.reduceAdd, Nat.reduceEqDiff, Nat.reduceLeDiff, Nat.reduceMul, Nat.reduceLT, reduceIte, Int.reduceToNat, w64_id, cast_succ])
    refine SW.condT rfl ?_
    repeat (first | (with_reducible first | refine SW.seq ?_ | refine SW.block ?_ | refine SW.rowC ?_ | refine SW.skip ?_ | refine SW.exit ?_ | intro _ | refine And.intro (by omega) ?_) | simp (config := { maxSteps := 1000000 }) (disch := (first | omega | (simp only [go_sem]; try omega))) only [go_sem, Nat.reduceAdd, Nat.reduceEqDiff, Nat.reduceLeDiff, Nat.reduceMul, Nat.reduceLT, reduceIte, Int.reduceToNat, w64_id, cast_succ])
    refine SW.ret ?_
    exact FunPost.cell_tmp (cs := [nilS, nilS]) (by simp (config := { maxSteps := 1000000 }) (disch := (first | omega | (simp only [go_sem]; try omega))) only [go_sem, Nat.reduceAdd, Nat.reduceEqDiff, Nat.reduceLeDiff, Nat.reduceMul, Nat.reduceLT, reduceIte, Int.reduceToNat, w64_id, cast_succ]) (GR.of nilGr)
end Go.Proofs.Ytonfknfphdeenaa
