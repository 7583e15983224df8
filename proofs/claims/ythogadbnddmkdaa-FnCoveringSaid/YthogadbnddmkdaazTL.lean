/- Rows that cover pairs: the program's next row. -/
import Derived.Test.YthogadbnddmkdaaProg
import Derived.KernelRfl
import Derived.Test.YthogadbnddmkdaazTK
set_option linter.unusedSimpArgs false
set_option linter.unusedVariables false
set_option maxHeartbeats 4000000
set_option maxRecDepth 100000
namespace Go.Proofs.Ythogadbnddmkdaa
open Go.Av
abbrev f_impl_cover_next : Nat := 48
def c_impl_cover_next : SC :=
 .seq (.reg [
     ⟨(some 3), .box 80 (.tmp 1), none⟩,
     ⟨(some 4), .mv (.const (.slice none 0 0)), none⟩] [0, 3])
 (.seq (.reg [
     ⟨(some 12), .mv (.tmp 0), none⟩,
     ⟨(some 13), .nilc (.tmp 12), none⟩,
     ⟨(some 14), .faddr 1 (.tmp 13), none⟩,
     ⟨(some 15), .load 1 false (.tmp 14), none⟩,
     ⟨(some 16), .mslice 2 8 (.int .i64 0) (.tmp 15) (.tmp 15), none⟩,
     ⟨(some 5), .mv (.tmp 16), none⟩] [0, 3, 5])
 (.seq (.seq (.reg [
     ⟨(some 17), .mv (.tmp 5), none⟩,
     ⟨(some 18), .len (.tmp 17), none⟩,
     ⟨(some 19), .mv (.const (.int .i64 0)), none⟩] [0, 3, 5, 18, 19])
 (.block 0 (.loop [0, 3, 5, 18, 19]
   (.seq (.reg [
       ⟨(some 20), .bin .lss (.tmp 19) (.tmp 18), none⟩] [0, 3, 5, 18, 19, 20])
   (.seq (.cond (.tmp 20)
    (.skip)
    (.exit 0))
   (.seq (.block 1 (.seq (.reg [
        ⟨(some 21), .mv (.tmp 19), none⟩,
        ⟨(some 6), .mv (.tmp 21), none⟩] [0, 3, 5, 6, 18, 19])
    (.reg [
        ⟨(some 22), .mv (.tmp 5), none⟩,
        ⟨(some 23), .mv (.tmp 6), none⟩,
        ⟨(some 24), .iaddr 1 (.tmp 22) (.tmp 23), none⟩,
        ⟨none, .store 1 (.tmp 24) (.const (.int .i64 (-1))), none⟩] [0, 3, 5, 18, 19])))
   (.reg [
       ⟨(some 25), .bin .add (.tmp 19) (.const (.int .i64 1)), none⟩,
       ⟨(some 19), .mv (.tmp 25), none⟩] [0, 3, 5, 18, 19])))))))
 (.seq (.mix (.one ⟨(some 26), .mv (.tmp 5), none⟩
  (.one ⟨(some 27), .faddr 0 (.tmp 3), none⟩
  (.one ⟨(some 28), .load 1 false (.tmp 27), none⟩
  (.one ⟨(some 29), .mv (.tmp 5), none⟩
  (.one ⟨(some 32), .faddr 2 (.tmp 3), none⟩
  (.one ⟨(some 33), .load 1 false (.tmp 32), none⟩
  (.one ⟨(some 36), .iaddr 1 (.tmp 26) (.tmp 28), none⟩
  (.both (.both (.one ⟨(some 30), .faddr 1 (.tmp 3), none⟩
    (.both (.both (.one ⟨(some 31), .load 1 false (.tmp 30), none⟩
      (.both (.one ⟨(some 34), .faddr 3 (.tmp 3), none⟩
       (.both (.one ⟨(some 35), .load 1 false (.tmp 34), none⟩
        (.one ⟨none, .store 1 (.tmp 36) (.tmp 33), none⟩
        (.one ⟨(some 37), .iaddr 1 (.tmp 29) (.tmp 31), none⟩
        (.one ⟨none, .store 1 (.tmp 37) (.tmp 35), none⟩
        (.done)))))
       (.one ⟨none, .store 1 (.tmp 36) (.tmp 33), none⟩
        (.one ⟨(some 35), .load 1 false (.tmp 34), none⟩
        (.one ⟨(some 37), .iaddr 1 (.tmp 29) (.tmp 31), none⟩
        (.one ⟨none, .store 1 (.tmp 37) (.tmp 35), none⟩
        (.done)))))))
      (.one ⟨none, .store 1 (.tmp 36) (.tmp 33), none⟩
       (.one ⟨(some 34), .faddr 3 (.tmp 3), none⟩
       (.one ⟨(some 35), .load 1 false (.tmp 34), none⟩
       (.one ⟨(some 37), .iaddr 1 (.tmp 29) (.tmp 31), none⟩
       (.one ⟨none, .store 1 (.tmp 37) (.tmp 35), none⟩
       (.done))))))))
     (.one ⟨(some 34), .faddr 3 (.tmp 3), none⟩
      (.both (.both (.one ⟨(some 31), .load 1 false (.tmp 30), none⟩
        (.both (.one ⟨(some 35), .load 1 false (.tmp 34), none⟩
         (.one ⟨none, .store 1 (.tmp 36) (.tmp 33), none⟩
         (.one ⟨(some 37), .iaddr 1 (.tmp 29) (.tmp 31), none⟩
         (.one ⟨none, .store 1 (.tmp 37) (.tmp 35), none⟩
         (.done)))))
        (.one ⟨none, .store 1 (.tmp 36) (.tmp 33), none⟩
         (.one ⟨(some 35), .load 1 false (.tmp 34), none⟩
         (.one ⟨(some 37), .iaddr 1 (.tmp 29) (.tmp 31), none⟩
         (.one ⟨none, .store 1 (.tmp 37) (.tmp 35), none⟩
         (.done)))))))
       (.one ⟨(some 35), .load 1 false (.tmp 34), none⟩
        (.both (.one ⟨(some 31), .load 1 false (.tmp 30), none⟩
         (.one ⟨none, .store 1 (.tmp 36) (.tmp 33), none⟩
         (.one ⟨(some 37), .iaddr 1 (.tmp 29) (.tmp 31), none⟩
         (.one ⟨none, .store 1 (.tmp 37) (.tmp 35), none⟩
         (.done)))))
        (.one ⟨none, .store 1 (.tmp 36) (.tmp 33), none⟩
         (.one ⟨(some 31), .load 1 false (.tmp 30), none⟩
         (.one ⟨(some 37), .iaddr 1 (.tmp 29) (.tmp 31), none⟩
         (.one ⟨none, .store 1 (.tmp 37) (.tmp 35), none⟩
         (.done))))))))
      (.one ⟨none, .store 1 (.tmp 36) (.tmp 33), none⟩
       (.one ⟨(some 31), .load 1 false (.tmp 30), none⟩
       (.one ⟨(some 35), .load 1 false (.tmp 34), none⟩
       (.one ⟨(some 37), .iaddr 1 (.tmp 29) (.tmp 31), none⟩
       (.one ⟨none, .store 1 (.tmp 37) (.tmp 35), none⟩
       (.done)))))))))
    (.one ⟨none, .store 1 (.tmp 36) (.tmp 33), none⟩
     (.one ⟨(some 31), .load 1 false (.tmp 30), none⟩
     (.one ⟨(some 34), .faddr 3 (.tmp 3), none⟩
     (.one ⟨(some 35), .load 1 false (.tmp 34), none⟩
     (.one ⟨(some 37), .iaddr 1 (.tmp 29) (.tmp 31), none⟩
     (.one ⟨none, .store 1 (.tmp 37) (.tmp 35), none⟩
     (.done)))))))))
   (.one ⟨(some 34), .faddr 3 (.tmp 3), none⟩
    (.both (.both (.one ⟨(some 30), .faddr 1 (.tmp 3), none⟩
      (.both (.both (.one ⟨(some 31), .load 1 false (.tmp 30), none⟩
        (.both (.one ⟨(some 35), .load 1 false (.tmp 34), none⟩
         (.one ⟨none, .store 1 (.tmp 36) (.tmp 33), none⟩
         (.one ⟨(some 37), .iaddr 1 (.tmp 29) (.tmp 31), none⟩
         (.one ⟨none, .store 1 (.tmp 37) (.tmp 35), none⟩
         (.done)))))
        (.one ⟨none, .store 1 (.tmp 36) (.tmp 33), none⟩
         (.one ⟨(some 35), .load 1 false (.tmp 34), none⟩
         (.one ⟨(some 37), .iaddr 1 (.tmp 29) (.tmp 31), none⟩
         (.one ⟨none, .store 1 (.tmp 37) (.tmp 35), none⟩
         (.done)))))))
       (.one ⟨(some 35), .load 1 false (.tmp 34), none⟩
        (.both (.one ⟨(some 31), .load 1 false (.tmp 30), none⟩
         (.one ⟨none, .store 1 (.tmp 36) (.tmp 33), none⟩
         (.one ⟨(some 37), .iaddr 1 (.tmp 29) (.tmp 31), none⟩
         (.one ⟨none, .store 1 (.tmp 37) (.tmp 35), none⟩
         (.done)))))
        (.one ⟨none, .store 1 (.tmp 36) (.tmp 33), none⟩
         (.one ⟨(some 31), .load 1 false (.tmp 30), none⟩
         (.one ⟨(some 37), .iaddr 1 (.tmp 29) (.tmp 31), none⟩
         (.one ⟨none, .store 1 (.tmp 37) (.tmp 35), none⟩
         (.done))))))))
      (.one ⟨none, .store 1 (.tmp 36) (.tmp 33), none⟩
       (.one ⟨(some 31), .load 1 false (.tmp 30), none⟩
       (.one ⟨(some 35), .load 1 false (.tmp 34), none⟩
       (.one ⟨(some 37), .iaddr 1 (.tmp 29) (.tmp 31), none⟩
       (.one ⟨none, .store 1 (.tmp 37) (.tmp 35), none⟩
       (.done))))))))
     (.one ⟨(some 35), .load 1 false (.tmp 34), none⟩
      (.both (.one ⟨(some 30), .faddr 1 (.tmp 3), none⟩
       (.both (.one ⟨(some 31), .load 1 false (.tmp 30), none⟩
        (.one ⟨none, .store 1 (.tmp 36) (.tmp 33), none⟩
        (.one ⟨(some 37), .iaddr 1 (.tmp 29) (.tmp 31), none⟩
        (.one ⟨none, .store 1 (.tmp 37) (.tmp 35), none⟩
        (.done)))))
       (.one ⟨none, .store 1 (.tmp 36) (.tmp 33), none⟩
        (.one ⟨(some 31), .load 1 false (.tmp 30), none⟩
        (.one ⟨(some 37), .iaddr 1 (.tmp 29) (.tmp 31), none⟩
        (.one ⟨none, .store 1 (.tmp 37) (.tmp 35), none⟩
        (.done)))))))
      (.one ⟨none, .store 1 (.tmp 36) (.tmp 33), none⟩
       (.one ⟨(some 30), .faddr 1 (.tmp 3), none⟩
       (.one ⟨(some 31), .load 1 false (.tmp 30), none⟩
       (.one ⟨(some 37), .iaddr 1 (.tmp 29) (.tmp 31), none⟩
       (.one ⟨none, .store 1 (.tmp 37) (.tmp 35), none⟩
       (.done)))))))))
    (.one ⟨none, .store 1 (.tmp 36) (.tmp 33), none⟩
     (.one ⟨(some 30), .faddr 1 (.tmp 3), none⟩
     (.one ⟨(some 31), .load 1 false (.tmp 30), none⟩
     (.one ⟨(some 35), .load 1 false (.tmp 34), none⟩
     (.one ⟨(some 37), .iaddr 1 (.tmp 29) (.tmp 31), none⟩
     (.one ⟨none, .store 1 (.tmp 37) (.tmp 35), none⟩
     (.done))))))))))
  (.one ⟨none, .store 1 (.tmp 36) (.tmp 33), none⟩
   (.one ⟨(some 30), .faddr 1 (.tmp 3), none⟩
   (.one ⟨(some 31), .load 1 false (.tmp 30), none⟩
   (.one ⟨(some 34), .faddr 3 (.tmp 3), none⟩
   (.one ⟨(some 35), .load 1 false (.tmp 34), none⟩
   (.one ⟨(some 37), .iaddr 1 (.tmp 29) (.tmp 31), none⟩
   (.one ⟨none, .store 1 (.tmp 37) (.tmp 35), none⟩
   (.done)))))))))))))))) [0, 5])
 (.seq (.seq (.reg [
     ⟨(some 38), .mv (.tmp 0), none⟩,
     ⟨(some 39), .nilc (.tmp 38), none⟩,
     ⟨(some 40), .faddr 1 (.tmp 39), none⟩,
     ⟨(some 41), .load 1 false (.tmp 40), none⟩,
     ⟨(some 42), .mv (.const (.int .i64 0)), none⟩] [0, 5, 41, 42])
 (.block 2 (.loop [0, 5, 41, 42]
   (.seq (.reg [
       ⟨(some 43), .bin .lss (.tmp 42) (.tmp 41), none⟩] [0, 5, 41, 42, 43])
   (.seq (.cond (.tmp 43)
    (.skip)
    (.exit 2))
   (.seq (.block 3 (.seq (.reg [
        ⟨(some 44), .mv (.tmp 42), none⟩,
        ⟨(some 7), .mv (.tmp 44), none⟩] [0, 5, 7, 41, 42])
    (.seq (.seq (.reg [
        ⟨(some 45), .mv (.tmp 5), none⟩,
        ⟨(some 46), .mv (.tmp 7), none⟩,
        ⟨(some 47), .iaddr 1 (.tmp 45) (.tmp 46), none⟩,
        ⟨(some 48), .load 1 false (.tmp 47), none⟩,
        ⟨(some 49), .bin .geq (.tmp 48) (.const (.int .i64 0)), none⟩] [0, 5, 7, 41, 42, 49])
    (.cond (.tmp 49)
     (.exit 3)
     (.skip)))
    (.seq (.reg [
        ⟨(some 8), .mv (.const (.int .i64 0)), none⟩,
        ⟨(some 9), .mv (.const (.int .i64 (-1))), none⟩] [0, 5, 7, 8, 9, 41, 42])
    (.seq (.seq (.reg [
        ⟨(some 50), .mv (.tmp 0), none⟩,
        ⟨(some 51), .nilc (.tmp 50), none⟩,
        ⟨(some 52), .faddr 0 (.tmp 51), none⟩,
        ⟨(some 53), .load 1 false (.tmp 52), none⟩,
        ⟨(some 54), .mv (.const (.int .i64 0)), none⟩] [0, 5, 7, 8, 9, 41, 42, 53, 54])
    (.block 4 (.loop [0, 5, 7, 8, 9, 41, 42, 53, 54]
      (.seq (.reg [
          ⟨(some 55), .bin .lss (.tmp 54) (.tmp 53), none⟩] [0, 5, 7, 8, 9, 41, 42, 53, 54, 55])
      (.seq (.cond (.tmp 55)
       (.skip)
       (.exit 4))
      (.seq (.block 5 (.seq (.reg [
           ⟨(some 56), .mv (.tmp 54), none⟩,
           ⟨(some 10), .mv (.tmp 56), none⟩] [0, 5, 7, 8, 9, 10, 41, 42, 53, 54])
       (.seq (.reg [
           ⟨(some 57), .mv (.tmp 0), none⟩,
           ⟨(some 58), .mv (.tmp 5), none⟩,
           ⟨(some 59), .mv (.tmp 7), none⟩,
           ⟨(some 60), .mv (.tmp 10), none⟩,
           ⟨(some 61), .call 95 [(.tmp 57), (.tmp 58), (.tmp 59), (.tmp 60)], none⟩,
           ⟨(some 11), .mv (.tmp 61), none⟩] [0, 5, 7, 8, 9, 10, 11, 41, 42, 53, 54])
       (.seq (.reg [
           ⟨(some 62), .mv (.tmp 11), none⟩,
           ⟨(some 63), .mv (.tmp 9), none⟩,
           ⟨(some 64), .bin .gtr (.tmp 62) (.tmp 63), none⟩] [0, 5, 7, 8, 9, 10, 11, 41, 42, 53, 54, 64])
       (.cond (.tmp 64)
        (.reg [
            ⟨(some 65), .mv (.tmp 10), none⟩,
            ⟨(some 66), .mv (.tmp 11), none⟩,
            ⟨(some 8), .mv (.tmp 65), none⟩,
            ⟨(some 9), .mv (.tmp 66), none⟩] [0, 5, 7, 8, 9, 41, 42, 53, 54])
        (.skip))))))
      (.reg [
          ⟨(some 67), .bin .add (.tmp 54) (.const (.int .i64 1)), none⟩,
          ⟨(some 54), .mv (.tmp 67), none⟩] [0, 5, 7, 8, 9, 41, 42, 53, 54])))))))
    (.reg [
        ⟨(some 68), .mv (.tmp 5), none⟩,
        ⟨(some 69), .mv (.tmp 7), none⟩,
        ⟨(some 70), .mv (.tmp 8), none⟩,
        ⟨(some 71), .iaddr 1 (.tmp 68) (.tmp 69), none⟩,
        ⟨none, .store 1 (.tmp 71) (.tmp 70), none⟩] [0, 5, 41, 42]))))))
   (.reg [
       ⟨(some 72), .bin .add (.tmp 42) (.const (.int .i64 1)), none⟩,
       ⟨(some 42), .mv (.tmp 72), none⟩] [0, 5, 41, 42])))))))
 (.seq (.reg [
     ⟨(some 73), .mv (.tmp 5), none⟩,
     ⟨(some 4), .mv (.tmp 73), none⟩] [4])
 (.ret))))))
theorem s_impl_cover_next : stripF Try.prog 48 [[0, 3], [0, 3, 5], [0, 3, 5, 18, 19], [0, 3, 5, 18, 19], [0, 3, 5, 18, 19, 20], [0, 3, 5, 6, 18, 19], [0, 3, 5, 18, 19], [0, 3, 5, 18, 19], [0, 5], [0, 5, 41, 42], [0, 5, 41, 42], [0, 5, 41, 42, 43], [0, 5, 7, 41, 42], [0, 5, 7, 41, 42, 49], [0, 5, 7, 8, 9, 41, 42], [0, 5, 7, 8, 9, 41, 42, 53, 54], [0, 5, 7, 8, 9, 41, 42, 53, 54], [0, 5, 7, 8, 9, 41, 42, 53, 54, 55], [0, 5, 7, 8, 9, 10, 41, 42, 53, 54], [0, 5, 7, 8, 9, 10, 11, 41, 42, 53, 54], [0, 5, 7, 8, 9, 10, 11, 41, 42, 53, 54, 64], [0, 5, 7, 8, 9, 41, 42, 53, 54], [0, 5, 7, 8, 9, 41, 42, 53, 54], [0, 5, 41, 42], [0, 5, 41, 42], [4]] = some (c_impl_cover_next, [.tmp 4], 74) := by kernel_rfl
theorem nextR_ok (H : List Blk) (p r : Nat) (l c : Nat) (m : List Int) (x y : Nat) (v w : Int) (hl1 : 1 ≤ l) (hl : l ≤ 16) (hc : c ≤ 8) (hxy : x < y) (hy : y < c) (hv : 0 ≤ v ∧ v < l) (hw : 0 ≤ w ∧ w < l) (hp : H[p]? = some ⟨0, tyK, 1, [I l, I c, .nm r 0 0 (c * c * l * l)]⟩) (hr : H[r]? = some (bB (c * c * l * l) m 0)) :
    ACalls Try.prog f_impl_cover_next [.pc p 0 0, .agg [I x, I y, I v, I w]] H (fun r' H' => ∃ ver k ext, r' = .nm k ver 0 c ∧ H' = H ++ ext ∧ H.length ≤ k ∧ H'[k]? = some ⟨ver, 2, 1, (nextRow l c m x y v w).map I⟩) := by
  refine ACalls.introB s_impl_cover_next (by simp) ?_; intro hB hA; unfold c_impl_cover_next; simp (config := { maxSteps := 1000000 }) (disch := (first | omega | (simp only [go_sem]; try omega))) only [go_sem, Nat.reduceAdd, Nat.reduceEqDiff, Nat.reduceLeDiff, Nat.reduceMul, Nat.reduceLT, reduceIte, Int.reduceToNat, w64_id, cast_succ]
  have hpa := fun ext o => pc_alive (off := o) (get_appF hp ext)
  have hpl := fun ext o => pc_ld (off := o) (get_appF hp ext)
  have hcc : c * 8 ≤ 64 := by omega
  repeat (first | (with_reducible first | refine SW.seq ?_ | refine SW.block ?_ | refine SW.rowC ?_ | refine SW.skip ?_ | refine SW.exit ?_ | intro _ | refine And.intro (by omega) ?_) | simp (config := { maxSteps := 1000000 }) (disch := (first | omega | (simp only [go_sem]; try omega))) only [go_sem, Nat.reduceAdd, Nat.reduceEqDiff, Nat.reduceLeDiff, Nat.reduceMul, Nat.reduceLT, reduceIte, Int.reduceToNat, w64_id, cast_succ, hpa, hpl])
  refine SW.loopE (fun E0 H0 q E' H' => ∃ i : Nat, i ≤ c ∧ q = c - i ∧ E' = aput E0 19 (I i) ∧ H' = H ++ [⟨0, 80, 1, [I x, I y, I v, I w]⟩, ⟨0, 2, 1, (tab c fun j => if j < i then -1 else 0).map I⟩]) c ⟨0, by omega, by omega, rfl, by rw [tab_rep]; simp⟩ ?_
  rintro q E' H' ⟨i, hi, rfl, rfl, rfl⟩
  have htl : (tab c fun j => if j < i then (-1 : Int) else 0).length = c := tab_length _ _
  have htk : ((tab c fun j => if j < i then (-1 : Int) else 0).map I).take c = (tab c fun j => if j < i then (-1 : Int) else 0).map I := List.take_of_length_le (by rw [List.length_map, htl]; exact Nat.le_refl _)
  simp (config := { maxSteps := 1000000 }) (disch := (first | omega | (simp only [go_sem]; try omega))) only [go_sem, Nat.reduceAdd, Nat.reduceEqDiff, Nat.reduceLeDiff, Nat.reduceMul, Nat.reduceLT, reduceIte, Int.reduceToNat, w64_id, cast_succ]
  repeat (first | (with_reducible first | refine SW.seq ?_ | refine SW.block ?_ | refine SW.rowC ?_ | refine SW.skip ?_ | refine SW.exit ?_ | intro _ | refine And.intro (by omega) ?_) | simp (config := { maxSteps := 1000000 }) (disch := (first | omega | (simp only [go_sem]; try omega))) only [go_sem, Nat.reduceAdd, Nat.reduceEqDiff, Nat.reduceLeDiff, Nat.reduceMul, Nat.reduceLT, reduceIte, Int.reduceToNat, w64_id, cast_succ])
  (first | refine SW.condD rfl (fun h => ?_) (fun h => ?_) | refine SW.condN rfl (fun h => ?_) (fun h => ?_) | refine SW.condNB rfl (fun h => ?_) (fun h => ?_) | refine SW.condB rfl (fun h => ?_) (fun h => ?_))
  · repeat (first | (with_reducible first | refine SW.seq ?_ | refine SW.block ?_ | refine SW.rowC ?_ | refine SW.skip ?_ | refine SW.exit ?_ | intro _ | refine And.intro (by omega) ?_) | simp (config := { maxSteps := 1000000 }) (disch := (first | omega | (simp only [go_sem]; try omega))) only [go_sem, Nat.reduceAdd, Nat.reduceEqDiff, Nat.reduceLeDiff, Nat.reduceMul, Nat.reduceLT, reduceIte, Int.reduceToNat, w64_id, cast_succ, htk])
    refine SLoop.next (c - (i + 1)) (by omega) ⟨i + 1, by omega, rfl, rfl, ?_⟩
    rw [tab_set]
    rw [show (tab c fun j => if j = i then (-1 : Int) else if j < i then -1 else 0) = tab c fun j => if j < i + 1 then (-1 : Int) else 0 from tab_congr fun j _ => by
      by_cases h1 : j = i
      · rw [if_pos h1, if_pos (by omega)]
      · rw [if_neg h1]
        by_cases h2 : j < i
        · rw [if_pos h2, if_pos (by omega)]
        · rw [if_neg h2, if_neg (by omega)]]
  · have hic : c = i := by omega
    subst hic
    have hneg : (tab c fun j => if j < c then (-1 : Int) else 0) = List.replicate c (-1) := by
      rw [tab_rep]; exact tab_congr fun j hj => if_pos hj
    rw [hneg]
    repeat (first | (with_reducible first | refine SW.seq ?_ | refine SW.block ?_ | refine SW.rowC ?_ | refine SW.skip ?_ | refine SW.exit ?_ | intro _ | refine And.intro (by omega) ?_) | simp (config := { maxSteps := 1000000 }) (disch := (first | omega | (simp only [go_sem]; try omega))) only [go_sem, Nat.reduceAdd, Nat.reduceEqDiff, Nat.reduceLeDiff, Nat.reduceMul, Nat.reduceLT, reduceIte, Int.reduceToNat, w64_id, cast_succ])
    have hlr : (List.replicate c (-1 : Int)).length = c := by simp
    have hls : ∀ a (b : Int), ((List.replicate c (-1 : Int)).set a b).length = c := fun a b => by simp
    have ht0 : ((List.replicate c (-1 : Int)).map I).take c = (List.replicate c (-1 : Int)).map I := List.take_of_length_le (by simp)
    have ht1 : ∀ a (b : Int), (((List.replicate c (-1 : Int)).set a b).map I).take c = ((List.replicate c (-1 : Int)).set a b).map I := fun a b => List.take_of_length_le (by simp)
    refine SW.mixR (fun E' H' => aget E' 0 = .pc p 0 0 ∧ aget E' 5 = .nm (H.length + 1) 0 0 c ∧ H' = H ++ [⟨0, 80, 1, [I x, I y, I v, I w]⟩, ⟨0, 2, 1, (row0 c x y v w).map I⟩]) ?_ ?_
    · simp (config := { maxSteps := 1000000 }) (disch := (first | omega | (simp only [go_sem]; try omega))) only [go_sem, Nat.reduceAdd, Nat.reduceEqDiff, Nat.reduceLeDiff, Nat.reduceMul, Nat.reduceLT, reduceIte, Int.reduceToNat, w64_id, cast_succ, hlr, hls, ht0, ht1]
      rfl
    rintro E2 H2 ⟨e0, e5, rfl⟩
    repeat (first | (with_reducible first | refine SW.seq ?_ | refine SW.block ?_ | refine SW.rowC ?_ | refine SW.skip ?_ | refine SW.exit ?_ | intro _ | refine And.intro (by omega) ?_) | simp (config := { maxSteps := 1000000 }) (disch := (first | omega | (simp only [go_sem]; try omega))) only [go_sem, Nat.reduceAdd, Nat.reduceEqDiff, Nat.reduceLeDiff, Nat.reduceMul, Nat.reduceLT, reduceIte, Int.reduceToNat, w64_id, cast_succ, e0, e5, hpa, hpl])
    have hin := fun k hk => nextTo_in (m := m) hl1 (row0_len c x y v w) (fun i hi => row0_in hv hw i hi) k hk
    have hnl := fun k => (nextTo_len l c m (row0 c x y v w) k).trans (row0_len c x y v w)
    refine SW.loopE (fun E0 H0 q E' H' => ∃ k : Nat, k ≤ c ∧ q = c - k ∧ E' = aput E0 42 (I k) ∧ H' = H ++ [⟨0, 80, 1, [I x, I y, I v, I w]⟩, ⟨0, 2, 1, (nextTo l c m (row0 c x y v w) k).map I⟩]) c ⟨0, by omega, by omega, rfl, rfl⟩ ?_
    rintro q E' H' ⟨k, hk, rfl, rfl, rfl⟩
    obtain ⟨n1, n2, n3⟩ := hin k hk
    have hRl := hnl k
    have hns : nextTo l c m (row0 c x y v w) (k + 1) = stepR l c m (nextTo l c m (row0 c x y v w) k) k := rfl
    generalize hR : nextTo l c m (row0 c x y v w) k = R at *
    have htR : (R.map I).take c = R.map I := List.take_of_length_le (by rw [List.length_map, hRl]; exact Nat.le_refl _)
    simp (config := { maxSteps := 1000000 }) (disch := (first | omega | (simp only [go_sem]; try omega))) only [go_sem, Nat.reduceAdd, Nat.reduceEqDiff, Nat.reduceLeDiff, Nat.reduceMul, Nat.reduceLT, reduceIte, Int.reduceToNat, w64_id, cast_succ]
    repeat (first | (with_reducible first | refine SW.seq ?_ | refine SW.block ?_ | refine SW.rowC ?_ | refine SW.skip ?_ | refine SW.exit ?_ | intro _ | refine And.intro (by omega) ?_) | simp (config := { maxSteps := 1000000 }) (disch := (first | omega | (simp only [go_sem]; try omega))) only [go_sem, Nat.reduceAdd, Nat.reduceEqDiff, Nat.reduceLeDiff, Nat.reduceMul, Nat.reduceLT, reduceIte, Int.reduceToNat, w64_id, cast_succ])
    (first | refine SW.condD rfl (fun h => ?_) (fun h => ?_) | refine SW.condN rfl (fun h => ?_) (fun h => ?_) | refine SW.condNB rfl (fun h => ?_) (fun h => ?_) | refine SW.condB rfl (fun h => ?_) (fun h => ?_))
    · have hkc : k < c := by omega
      by_cases h0 : 0 ≤ R.getD k 0
      · have d0 : decide (0 ≤ R.getD k 0) = true := decide_eq_true h0
        have hst : stepR l c m R k = R := if_pos h0
        repeat (first | (with_reducible first | refine SW.seq ?_ | refine SW.block ?_ | refine SW.rowC ?_ | refine SW.skip ?_ | refine SW.exit ?_ | intro _ | refine And.intro (by omega) ?_) | simp (config := { maxSteps := 1000000 }) (disch := (first | omega | (simp only [go_sem]; try omega))) only [go_sem, Nat.reduceAdd, Nat.reduceEqDiff, Nat.reduceLeDiff, Nat.reduceMul, Nat.reduceLT, reduceIte, Int.reduceToNat, w64_id, cast_succ, htR, d0])
        refine SW.condT rfl ?_
        repeat (first | (with_reducible first | refine SW.seq ?_ | refine SW.block ?_ | refine SW.rowC ?_ | refine SW.skip ?_ | refine SW.exit ?_ | intro _ | refine And.intro (by omega) ?_) | simp (config := { maxSteps := 1000000 }) (disch := (first | omega | (simp only [go_sem]; try omega))) only [go_sem, Nat.reduceAdd, Nat.reduceEqDiff, Nat.reduceLeDiff, Nat.reduceMul, Nat.reduceLT, reduceIte, Int.reduceToNat, w64_id, cast_succ])
        refine SLoop.next (c - (k + 1)) (by omega) ⟨k + 1, by omega, rfl, rfl, by rw [hns, hst]⟩
      · have d0 : decide (0 ≤ R.getD k 0) = false := decide_eq_false h0
        have hst : stepR l c m R k = R.set k (bestTo l c m R k l).1 := if_neg h0
        repeat (first | (with_reducible first | refine SW.seq ?_ | refine SW.block ?_ | refine SW.rowC ?_ | refine SW.skip ?_ | refine SW.exit ?_ | intro _ | refine And.intro (by omega) ?_) | simp (config := { maxSteps := 1000000 }) (disch := (first | omega | (simp only [go_sem]; try omega))) only [go_sem, Nat.reduceAdd, Nat.reduceEqDiff, Nat.reduceLeDiff, Nat.reduceMul, Nat.reduceLT, reduceIte, Int.reduceToNat, w64_id, cast_succ, htR, d0])
        refine SW.condF rfl ?_
        repeat (first | (with_reducible first | refine SW.seq ?_ | refine SW.block ?_ | refine SW.rowC ?_ | refine SW.skip ?_ | refine SW.exit ?_ | intro _ | refine And.intro (by omega) ?_) | simp (config := { maxSteps := 1000000 }) (disch := (first | omega | (simp only [go_sem]; try omega))) only [go_sem, Nat.reduceAdd, Nat.reduceEqDiff, Nat.reduceLeDiff, Nat.reduceMul, Nat.reduceLT, reduceIte, Int.reduceToNat, w64_id, cast_succ, hpa, hpl])
        have hvR : aview (H ++ [(⟨0, 80, 1, [I x, I y, I v, I w]⟩ : Blk), ⟨0, 2, 1, R.map I⟩]) (.nm (H.length + 1) 0 0 c) = some (R.length, R.map I) := by
          rw [hRl]
          refine view_nm (ty := 2) ?_ (by simp [hRl])
          rw [List.getElem?_append_right (by omega), Nat.add_sub_cancel_left]; rfl
        have hgn := fun u (hu : u < l) => gain_ok (H ++ [(⟨0, 80, 1, [I x, I y, I v, I w]⟩ : Blk), ⟨0, 2, 1, R.map I⟩]) p r (.nm (H.length + 1) 0 0 c) l c m R k (u : Nat) hl hc hRl ⟨by omega, by omega⟩ hkc n1 (get_appF hp _) (get_appF hr _) hvR
        refine SW.loopE (fun E0 H0 q E' H' => ∃ u : Nat, u ≤ l ∧ q = l - u ∧ E' = aput (aput (aput E0 8 (I (bestTo l c m R k u).1)) 9 (I (bestTo l c m R k u).2)) 54 (I u) ∧ H' = H0) l ⟨0, by omega, by omega, rfl, rfl⟩ ?_
        rintro q E' H' ⟨u, hu, rfl, rfl, rfl⟩
        have hbs : bestTo l c m R k (u + 1) = if (bestTo l c m R k u).2 < (gainTo l c m R k u c : Int) then ((u : Int), (gainTo l c m R k u c : Int)) else bestTo l c m R k u := rfl
        simp (config := { maxSteps := 1000000 }) (disch := (first | omega | (simp only [go_sem]; try omega))) only [go_sem, Nat.reduceAdd, Nat.reduceEqDiff, Nat.reduceLeDiff, Nat.reduceMul, Nat.reduceLT, reduceIte, Int.reduceToNat, w64_id, cast_succ]
        repeat (first | (with_reducible first | refine SW.seq ?_ | refine SW.block ?_ | refine SW.rowC ?_ | refine SW.skip ?_ | refine SW.exit ?_ | intro _ | refine And.intro (by omega) ?_) | simp (config := { maxSteps := 1000000 }) (disch := (first | omega | (simp only [go_sem]; try omega))) only [go_sem, Nat.reduceAdd, Nat.reduceEqDiff, Nat.reduceLeDiff, Nat.reduceMul, Nat.reduceLT, reduceIte, Int.reduceToNat, w64_id, cast_succ])
        (first | refine SW.condD rfl (fun h => ?_) (fun h => ?_) | refine SW.condN rfl (fun h => ?_) (fun h => ?_) | refine SW.condNB rfl (fun h => ?_) (fun h => ?_) | refine SW.condB rfl (fun h => ?_) (fun h => ?_))
        · have hul : u < l := by omega
          repeat (first | (with_reducible first | refine SW.seq ?_ | refine SW.block ?_ | refine SW.rowC ?_ | refine SW.skip ?_ | refine SW.exit ?_ | intro _ | refine And.intro (by omega) ?_) | simp (config := { maxSteps := 1000000 }) (disch := (first | omega | (simp only [go_sem]; try omega))) only [go_sem, Nat.reduceAdd, Nat.reduceEqDiff, Nat.reduceLeDiff, Nat.reduceMul, Nat.reduceLT, reduceIte, Int.reduceToNat, w64_id, cast_succ])
          refine (hgn u hul).mono ?_
          rintro r1 H1 ⟨rfl, rfl⟩
          by_cases hgt : (bestTo l c m R k u).2 < (gainTo l c m R k u c : Int)
          · have d7 : decide ((bestTo l c m R k u).2 < (gainTo l c m R k u c : Int)) = true := decide_eq_true hgt
            rw [if_pos hgt] at hbs
            repeat (first | (with_reducible first | refine SW.seq ?_ | refine SW.block ?_ | refine SW.rowC ?_ | refine SW.skip ?_ | refine SW.exit ?_ | intro _ | refine And.intro (by omega) ?_) | simp (config := { maxSteps := 1000000 }) (disch := (first | omega | (simp only [go_sem]; try omega))) only [go_sem, Nat.reduceAdd, Nat.reduceEqDiff, Nat.reduceLeDiff, Nat.reduceMul, Nat.reduceLT, reduceIte, Int.reduceToNat, w64_id, cast_succ, d7])
            refine SW.condT rfl ?_
            repeat (first | (with_reducible first | refine SW.seq ?_ | refine SW.block ?_ | refine SW.rowC ?_ | refine SW.skip ?_ | refine SW.exit ?_ | intro _ | refine And.intro (by omega) ?_) | simp (config := { maxSteps := 1000000 }) (disch := (first | omega | (simp only [go_sem]; try omega))) only [go_sem, Nat.reduceAdd, Nat.reduceEqDiff, Nat.reduceLeDiff, Nat.reduceMul, Nat.reduceLT, reduceIte, Int.reduceToNat, w64_id, cast_succ])
            refine SLoop.next (l - (u + 1)) (by omega) ⟨u + 1, by omega, rfl, ?_, rfl⟩
            rw [hbs]; simp [go_sem]
          · have d7 : decide ((bestTo l c m R k u).2 < (gainTo l c m R k u c : Int)) = false := decide_eq_false hgt
            rw [if_neg hgt] at hbs
            repeat (first | (with_reducible first | refine SW.seq ?_ | refine SW.block ?_ | refine SW.rowC ?_ | refine SW.skip ?_ | refine SW.exit ?_ | intro _ | refine And.intro (by omega) ?_) | simp (config := { maxSteps := 1000000 }) (disch := (first | omega | (simp only [go_sem]; try omega))) only [go_sem, Nat.reduceAdd, Nat.reduceEqDiff, Nat.reduceLeDiff, Nat.reduceMul, Nat.reduceLT, reduceIte, Int.reduceToNat, w64_id, cast_succ, d7])
            refine SW.condF rfl ?_
            repeat (first | (with_reducible first | refine SW.seq ?_ | refine SW.block ?_ | refine SW.rowC ?_ | refine SW.skip ?_ | refine SW.exit ?_ | intro _ | refine And.intro (by omega) ?_) | simp (config := { maxSteps := 1000000 }) (disch := (first | omega | (simp only [go_sem]; try omega))) only [go_sem, Nat.reduceAdd, Nat.reduceEqDiff, Nat.reduceLeDiff, Nat.reduceMul, Nat.reduceLT, reduceIte, Int.reduceToNat, w64_id, cast_succ])
            refine SLoop.next (l - (u + 1)) (by omega) ⟨u + 1, by omega, rfl, ?_, rfl⟩
            rw [hbs]; simp [go_sem]
        · have hul : l = u := by omega
          subst hul
          repeat (first | (with_reducible first | refine SW.seq ?_ | refine SW.block ?_ | refine SW.rowC ?_ | refine SW.skip ?_ | refine SW.exit ?_ | intro _ | refine And.intro (by omega) ?_) | simp (config := { maxSteps := 1000000 }) (disch := (first | omega | (simp only [go_sem]; try omega))) only [go_sem, Nat.reduceAdd, Nat.reduceEqDiff, Nat.reduceLeDiff, Nat.reduceMul, Nat.reduceLT, reduceIte, Int.reduceToNat, w64_id, cast_succ])
          refine SLoop.next (c - (k + 1)) (by omega) ⟨k + 1, by omega, rfl, rfl, by rw [hns, hst]⟩
    · have hkc : c = k := by omega
      subst hkc
      repeat (first | (with_reducible first | refine SW.seq ?_ | refine SW.block ?_ | refine SW.rowC ?_ | refine SW.skip ?_ | refine SW.exit ?_ | intro _ | refine And.intro (by omega) ?_) | simp (config := { maxSteps := 1000000 }) (disch := (first | omega | (simp only [go_sem]; try omega))) only [go_sem, Nat.reduceAdd, Nat.reduceEqDiff, Nat.reduceLeDiff, Nat.reduceMul, Nat.reduceLT, reduceIte, Int.reduceToNat, w64_id, cast_succ])
      refine SW.ret ?_; (try simp only [go_sem]); (first | refine FunPost.one ?_ | refine FunPost.two ?_ | refine FunPost.three ?_); (try simp (config := { maxSteps := 1000000 }) (disch := (first | omega | (simp only [go_sem]; try omega))) only [go_sem, Nat.reduceAdd, Nat.reduceEqDiff, Nat.reduceLeDiff, Nat.reduceMul, Nat.reduceLT, reduceIte, Int.reduceToNat, w64_id, cast_succ])
      refine GR.of ⟨0, H.length + 1, _, rfl, rfl, by omega, ?_⟩
      rw [List.getElem?_append_right (by omega), Nat.add_sub_cancel_left]
      unfold nextRow
      rw [hR]; rfl
end Go.Proofs.Ythogadbnddmkdaa
