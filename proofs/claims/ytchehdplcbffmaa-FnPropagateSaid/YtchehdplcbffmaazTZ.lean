/- Drawn squares: a square of an order. -/
import Derived.Test.YtchehdplcbffmaaProg
import Derived.KernelRfl
import Derived.Test.YtchehdplcbffmaazTY
import Derived.Test.YtchehdplcbffmaazDP
set_option linter.unusedSimpArgs false
set_option linter.unusedVariables false
set_option maxHeartbeats 4000000
set_option maxRecDepth 100000
namespace Go.Proofs.Ytchehdplcbffmaa
open Go.Av
abbrev f_spec_l06DrawSquare : Nat := 38
def c_spec_l06DrawSquare : SC :=
 .seq (.reg [
     ⟨(some 4), .mv (.const (.slice none 0 0)), none⟩] [0, 1])
 (.seq (.reg [
     ⟨(some 10), .mv (.tmp 1), none⟩,
     ⟨(some 11), .call 81 [(.tmp 10)], none⟩,
     ⟨(some 5), .mv (.tmp 11), none⟩] [0, 1, 5])
 (.seq (.seq (.reg [
     ⟨(some 12), .mv (.tmp 1), none⟩] [0, 1, 5, 12])
 (.block 0 (.seq (.reg [
      ⟨(some 14), .bin .eql (.tmp 12) (.const (.int .i64 4)), none⟩,
      ⟨(some 13), .mv (.tmp 14), none⟩] [0, 1, 5, 12, 13])
  (.cond (.tmp 13)
   (.seq (.reg [
       ⟨(some 15), .mv (.tmp 0), none⟩,
       ⟨(some 16), .call 36 [(.tmp 15), (.const (.int .i64 2))], none⟩] [0, 1, 5, 16])
   (.cond (.tmp 16)
    (.reg [
        ⟨(some 17), .call 81 [(.const (.int .i64 2))], none⟩,
        ⟨(some 18), .call 81 [(.const (.int .i64 2))], none⟩,
        ⟨(some 19), .call 82 [(.tmp 17), (.tmp 18)], none⟩,
        ⟨(some 5), .mv (.tmp 19), none⟩] [0, 1, 5])
    (.skip)))
   (.seq (.reg [
       ⟨(some 21), .bin .eql (.tmp 12) (.const (.int .i64 6)), none⟩,
       ⟨(some 20), .mv (.tmp 21), none⟩] [0, 1, 5, 12, 20])
   (.cond (.tmp 20)
    (.seq (.reg [
        ⟨(some 22), .mv (.tmp 0), none⟩,
        ⟨(some 23), .call 36 [(.tmp 22), (.const (.int .i64 2))], none⟩] [0, 1, 5, 23])
    (.cond (.tmp 23)
     (.reg [
         ⟨(some 24), .call 81 [(.const (.int .i64 3))], none⟩,
         ⟨(some 25), .call 81 [(.const (.int .i64 2))], none⟩,
         ⟨(some 26), .call 82 [(.tmp 24), (.tmp 25)], none⟩,
         ⟨(some 5), .mv (.tmp 26), none⟩] [0, 1, 5])
     (.skip)))
    (.seq (.reg [
        ⟨(some 28), .bin .eql (.tmp 12) (.const (.int .i64 8)), none⟩,
        ⟨(some 27), .mv (.tmp 28), none⟩] [0, 1, 5, 12, 27])
    (.cond (.tmp 27)
     (.seq (.reg [
         ⟨(some 29), .mv (.tmp 0), none⟩,
         ⟨(some 30), .call 36 [(.tmp 29), (.const (.int .i64 2))], none⟩] [0, 1, 5, 30])
     (.cond (.tmp 30)
      (.reg [
          ⟨(some 31), .call 81 [(.const (.int .i64 2))], none⟩,
          ⟨(some 32), .call 81 [(.const (.int .i64 2))], none⟩,
          ⟨(some 33), .call 82 [(.tmp 31), (.tmp 32)], none⟩,
          ⟨(some 34), .call 81 [(.const (.int .i64 2))], none⟩,
          ⟨(some 35), .call 82 [(.tmp 33), (.tmp 34)], none⟩,
          ⟨(some 5), .mv (.tmp 35), none⟩] [0, 1, 5])
      (.skip)))
     (.seq (.reg [
         ⟨(some 37), .bin .eql (.tmp 12) (.const (.int .i64 9)), none⟩,
         ⟨(some 36), .mv (.tmp 37), none⟩] [0, 1, 5, 36])
     (.cond (.tmp 36)
      (.seq (.reg [
          ⟨(some 38), .mv (.tmp 0), none⟩,
          ⟨(some 39), .call 36 [(.tmp 38), (.const (.int .i64 2))], none⟩] [0, 1, 5, 39])
      (.cond (.tmp 39)
       (.reg [
           ⟨(some 40), .call 81 [(.const (.int .i64 3))], none⟩,
           ⟨(some 41), .call 81 [(.const (.int .i64 3))], none⟩,
           ⟨(some 42), .call 82 [(.tmp 40), (.tmp 41)], none⟩,
           ⟨(some 5), .mv (.tmp 42), none⟩] [0, 1, 5])
       (.skip)))
      (.skip)))))))))))
 (.seq (.seq (.reg [
     ⟨(some 43), .mv (.tmp 0), none⟩,
     ⟨(some 44), .call 34 [(.tmp 43), (.const (.int .i64 4))], none⟩,
     ⟨(some 6), .mv (.tmp 44), none⟩] [0, 1, 5, 6])
 (.block 1 (.loop [0, 1, 5, 6]
   (.seq (.seq (.reg [
       ⟨(some 45), .mv (.tmp 6), none⟩,
       ⟨(some 46), .bin .gtr (.tmp 45) (.const (.int .i64 0)), none⟩] [0, 1, 5, 6, 46])
   (.cond (.tmp 46)
    (.skip)
    (.exit 1)))
   (.seq (.block 2 (.reg [
        ⟨(some 49), .mv (.tmp 0), none⟩,
        ⟨(some 50), .mv (.tmp 5), none⟩,
        ⟨(some 51), .call 83 [(.tmp 49), (.tmp 50)], none⟩,
        ⟨(some 5), .mv (.tmp 51), none⟩] [0, 1, 5, 6]))
   (.reg [
       ⟨(some 47), .mv (.tmp 6), none⟩,
       ⟨(some 48), .bin .sub (.tmp 47) (.const (.int .i64 1)), none⟩,
       ⟨(some 6), .mv (.tmp 48), none⟩] [0, 1, 5, 6]))))))
 (.seq (.reg [
     ⟨(some 52), .mv (.tmp 0), none⟩,
     ⟨(some 53), .mv (.tmp 1), none⟩,
     ⟨(some 54), .call 84 [(.tmp 52), (.tmp 53)], none⟩,
     ⟨(some 7), .mv (.tmp 54), none⟩] [0, 1, 5, 7])
 (.seq (.reg [
     ⟨(some 55), .mv (.tmp 0), none⟩,
     ⟨(some 56), .mv (.tmp 1), none⟩,
     ⟨(some 57), .call 84 [(.tmp 55), (.tmp 56)], none⟩,
     ⟨(some 8), .mv (.tmp 57), none⟩] [0, 1, 5, 7, 8])
 (.seq (.reg [
     ⟨(some 58), .mv (.tmp 0), none⟩,
     ⟨(some 59), .mv (.tmp 1), none⟩,
     ⟨(some 60), .call 84 [(.tmp 58), (.tmp 59)], none⟩,
     ⟨(some 9), .mv (.tmp 60), none⟩] [0, 5, 7, 8, 9])
 (.seq (.seq (.reg [
     ⟨(some 61), .mv (.tmp 0), none⟩,
     ⟨(some 62), .call 36 [(.tmp 61), (.const (.int .i64 5))], none⟩] [5, 7, 8, 9, 62])
 (.cond (.tmp 62)
  (.seq (.reg [
      ⟨(some 63), .mv (.tmp 5), none⟩,
      ⟨(some 4), .mv (.tmp 63), none⟩] [4])
  (.ret))
  (.skip)))
 (.seq (.reg [
     ⟨(some 64), .mv (.tmp 5), none⟩,
     ⟨(some 65), .mv (.tmp 7), none⟩,
     ⟨(some 66), .mv (.tmp 8), none⟩,
     ⟨(some 67), .mv (.tmp 9), none⟩,
     ⟨(some 68), .call 85 [(.tmp 64), (.tmp 65), (.tmp 66), (.tmp 67)], none⟩,
     ⟨(some 4), .mv (.tmp 68), none⟩] [4])
 (.ret)))))))))
theorem s_spec_l06DrawSquare : stripF Try.prog 38 [[0, 1], [0, 1, 5], [0, 1, 5, 12], [0, 1, 5, 12, 13], [0, 1, 5, 16], [0, 1, 5], [0, 1, 5, 12, 20], [0, 1, 5, 23], [0, 1, 5], [0, 1, 5, 12, 27], [0, 1, 5, 30], [0, 1, 5], [0, 1, 5, 36], [0, 1, 5, 39], [0, 1, 5], [0, 1, 5, 6], [0, 1, 5, 6], [0, 1, 5, 6, 46], [0, 1, 5, 6], [0, 1, 5, 6], [0, 1, 5, 7], [0, 1, 5, 7, 8], [0, 5, 7, 8, 9], [5, 7, 8, 9, 62], [4], [4]] = some (c_spec_l06DrawSquare, [.tmp 4], 69) := by kernel_rfl
theorem lisIn_perm {n : Nat} {P : List Int} (h : permOk n P) : lisIn n P := ⟨h.1, h.2.2⟩
theorem l06DrawSquare_ok (H : List Blk) (p : Nat) (code : AV) (ns : List Int) (t : Nat) (u : Int) (n : Nat) (hp : H[p]? = some (srcB code t u)) (hc : CodeOk code ns) (hcb : ∀ k, Bel k code) (ht : t ≤ 500000000) (n1 : 1 ≤ n) (hn : n ≤ 32) :
    ACalls Try.prog f_spec_l06DrawSquare [.pc p 0 0, I n] H (fun r H' => ∃ (sq : List (List Int)) (u' : Int) (t' : Nat), sqIn n sq ∧ r = ilSS sq ∧ t' ≤ t + 400 ∧ H' = H.set p (srcB code t' u')) := by
  have hlt := (List.getElem?_eq_some_iff.1 hp).1
  have hgp : ∀ t u, (H.set p (srcB code t u))[p]? = some (srcB code t u) := fun t u => List.getElem?_set_self hlt
  have hself : H.set p (srcB code t u) = H := by
    obtain ⟨g1, g2⟩ := List.getElem?_eq_some_iff.1 hp
    rw [← g2]; exact List.set_getElem_self g1
  have hcy := fun H k h1 h2 => l06Cyclic_ok H k h1 h2
  refine ACalls.introB s_spec_l06DrawSquare (by simp) ?_; intro hB hA; unfold c_spec_l06DrawSquare; simp (config := { maxSteps := 1000000 }) (disch := (first | omega | (simp only [go_sem]; try omega))) only [go_sem, Nat.reduceAdd, Nat.reduceEqDiff, Nat.reduceLeDiff, Nat.reduceMul, Nat.reduceLT, reduceIte, Int.reduceToNat, w64_id, cast_succ]
  repeat (first | (with_reducible first | refine SW.seq ?_ | refine SW.block ?_ | refine SW.rowC ?_ | refine SW.skip ?_ | refine SW.exit ?_ | intro _ | refine And.intro (by omega) ?_) | simp (config := { maxSteps := 1000000 }) (disch := (first | omega | (simp only [go_sem]; try omega))) only [go_sem, Nat.reduceAdd, Nat.reduceEqDiff, Nat.reduceLeDiff, Nat.reduceMul, Nat.reduceLT, reduceIte, Int.reduceToNat, w64_id, cast_succ])
  refine (hcy H n n1 (by omega)).mono ?_
  rintro r H1 ⟨rfl, a, ha, rfl⟩
  have hBG := fun t u => HB_set hB (p := p) hcb t u
  simp (config := { maxSteps := 1000000 }) (disch := (first | omega | (simp only [go_sem]; try omega))) only [go_sem, Nat.reduceAdd, Nat.reduceEqDiff, Nat.reduceLeDiff, Nat.reduceMul, Nat.reduceLT, reduceIte, Int.reduceToNat, w64_id, cast_succ]
  refine SW.seqM (fun E' H' => ∃ (sq : List (List Int)) (u' : Int) (t' : Nat), sqIn n sq ∧ t' ≤ t + 10 ∧ aget E' 0 = .pc p 0 0 ∧ aget E' 1 = I n ∧ aget E' 5 = ilSS sq ∧ H' = H1.set p (srcB code t' u')) ?_ ?_
  · repeat (first | (with_reducible first | refine SW.seq ?_ | refine SW.block ?_ | refine SW.rowC ?_ | refine SW.skip ?_ | refine SW.exit ?_ | intro _ | refine And.intro (by omega) ?_) | simp (config := { maxSteps := 1000000 }) (disch := (first | omega | (simp only [go_sem]; try omega))) only [go_sem, Nat.reduceAdd, Nat.reduceEqDiff, Nat.reduceLeDiff, Nat.reduceMul, Nat.reduceLT, reduceIte, Int.reduceToNat, w64_id, cast_succ])
    by_cases h4 : n = 4
    · have d4 : decide ((n : Int) = 4) = true := decide_eq_true (by omega)
      rw [d4]
      refine SW.condT rfl ?_
      repeat (first | (with_reducible first | refine SW.seq ?_ | refine SW.block ?_ | refine SW.rowC ?_ | refine SW.skip ?_ | refine SW.exit ?_ | intro _ | refine And.intro (by omega) ?_) | simp (config := { maxSteps := 1000000 }) (disch := (first | omega | (simp only [go_sem]; try omega))) only [go_sem, Nat.reduceAdd, Nat.reduceEqDiff, Nat.reduceLeDiff, Nat.reduceMul, Nat.reduceLT, reduceIte, Int.reduceToNat, w64_id, cast_succ])
      refine (one_ok _ p code ns t u 2 hp hc (by omega)).mono ?_
      rintro r H2 ⟨b, u2, t2, rfl, ht2, rfl⟩
      repeat (first | (with_reducible first | refine SW.seq ?_ | refine SW.block ?_ | refine SW.rowC ?_ | refine SW.skip ?_ | refine SW.exit ?_ | intro _ | refine And.intro (by omega) ?_) | simp (config := { maxSteps := 1000000 }) (disch := (first | omega | (simp only [go_sem]; try omega))) only [go_sem, Nat.reduceAdd, Nat.reduceEqDiff, Nat.reduceLeDiff, Nat.reduceMul, Nat.reduceLT, reduceIte, Int.reduceToNat, w64_id, cast_succ])
      cases b
      · refine SW.condF rfl ?_
        repeat (first | (with_reducible first | refine SW.seq ?_ | refine SW.block ?_ | refine SW.rowC ?_ | refine SW.skip ?_ | refine SW.exit ?_ | intro _ | refine And.intro (by omega) ?_) | simp (config := { maxSteps := 1000000 }) (disch := (first | omega | (simp only [go_sem]; try omega))) only [go_sem, Nat.reduceAdd, Nat.reduceEqDiff, Nat.reduceLeDiff, Nat.reduceMul, Nat.reduceLT, reduceIte, Int.reduceToNat, w64_id, cast_succ])
        exact ⟨a, u2, t2, ha, by omega, rfl, rfl⟩
      · refine SW.condT rfl ?_
        repeat (first | (with_reducible first | refine SW.seq ?_ | refine SW.block ?_ | refine SW.rowC ?_ | refine SW.skip ?_ | refine SW.exit ?_ | intro _ | refine And.intro (by omega) ?_) | simp (config := { maxSteps := 1000000 }) (disch := (first | omega | (simp only [go_sem]; try omega))) only [go_sem, Nat.reduceAdd, Nat.reduceEqDiff, Nat.reduceLeDiff, Nat.reduceMul, Nat.reduceLT, reduceIte, Int.reduceToNat, w64_id, cast_succ])
        refine (hcy _ 2 (by omega) (by omega)).mono ?_
        rintro r H2 ⟨rfl, c1, q1, rfl⟩
        repeat (first | (with_reducible first | refine SW.seq ?_ | refine SW.block ?_ | refine SW.rowC ?_ | refine SW.skip ?_ | refine SW.exit ?_ | intro _ | refine And.intro (by omega) ?_) | simp (config := { maxSteps := 1000000 }) (disch := (first | omega | (simp only [go_sem]; try omega))) only [go_sem, Nat.reduceAdd, Nat.reduceEqDiff, Nat.reduceLeDiff, Nat.reduceMul, Nat.reduceLT, reduceIte, Int.reduceToNat, w64_id, cast_succ])
        refine (hcy _ 2 (by omega) (by omega)).mono ?_
        rintro r H2 ⟨rfl, c2, q2, rfl⟩
        repeat (first | (with_reducible first | refine SW.seq ?_ | refine SW.block ?_ | refine SW.rowC ?_ | refine SW.skip ?_ | refine SW.exit ?_ | intro _ | refine And.intro (by omega) ?_) | simp (config := { maxSteps := 1000000 }) (disch := (first | omega | (simp only [go_sem]; try omega))) only [go_sem, Nat.reduceAdd, Nat.reduceEqDiff, Nat.reduceLeDiff, Nat.reduceMul, Nat.reduceLT, reduceIte, Int.reduceToNat, w64_id, cast_succ])
        refine (l06Product_ok _ 2 2 c1 c2 q1 q2 (by omega) (by omega) (by omega)).mono ?_
        rintro r H2 ⟨rfl, c3, q3, rfl⟩
        repeat (first | (with_reducible first | refine SW.seq ?_ | refine SW.block ?_ | refine SW.rowC ?_ | refine SW.skip ?_ | refine SW.exit ?_ | intro _ | refine And.intro (by omega) ?_) | simp (config := { maxSteps := 1000000 }) (disch := (first | omega | (simp only [go_sem]; try omega))) only [go_sem, Nat.reduceAdd, Nat.reduceEqDiff, Nat.reduceLeDiff, Nat.reduceMul, Nat.reduceLT, reduceIte, Int.reduceToNat, w64_id, cast_succ])
        exact ⟨c3, u2, t2, by subst h4; exact q3, by omega, rfl, rfl⟩
    have d4 : decide ((n : Int) = 4) = false := decide_eq_false (by omega)
    rw [d4]
    refine SW.condF rfl ?_
    repeat (first | (with_reducible first | refine SW.seq ?_ | refine SW.block ?_ | refine SW.rowC ?_ | refine SW.skip ?_ | refine SW.exit ?_ | intro _ | refine And.intro (by omega) ?_) | simp (config := { maxSteps := 1000000 }) (disch := (first | omega | (simp only [go_sem]; try omega))) only [go_sem, Nat.reduceAdd, Nat.reduceEqDiff, Nat.reduceLeDiff, Nat.reduceMul, Nat.reduceLT, reduceIte, Int.reduceToNat, w64_id, cast_succ])
    by_cases h6 : n = 6
    · have d6 : decide ((n : Int) = 6) = true := decide_eq_true (by omega)
      rw [d6]
      refine SW.condT rfl ?_
      repeat (first | (with_reducible first | refine SW.seq ?_ | refine SW.block ?_ | refine SW.rowC ?_ | refine SW.skip ?_ | refine SW.exit ?_ | intro _ | refine And.intro (by omega) ?_) | simp (config := { maxSteps := 1000000 }) (disch := (first | omega | (simp only [go_sem]; try omega))) only [go_sem, Nat.reduceAdd, Nat.reduceEqDiff, Nat.reduceLeDiff, Nat.reduceMul, Nat.reduceLT, reduceIte, Int.reduceToNat, w64_id, cast_succ])
      refine (one_ok _ p code ns t u 2 hp hc (by omega)).mono ?_
      rintro r H2 ⟨b, u2, t2, rfl, ht2, rfl⟩
      repeat (first | (with_reducible first | refine SW.seq ?_ | refine SW.block ?_ | refine SW.rowC ?_ | refine SW.skip ?_ | refine SW.exit ?_ | intro _ | refine And.intro (by omega) ?_) | simp (config := { maxSteps := 1000000 }) (disch := (first | omega | (simp only [go_sem]; try omega))) only [go_sem, Nat.reduceAdd, Nat.reduceEqDiff, Nat.reduceLeDiff, Nat.reduceMul, Nat.reduceLT, reduceIte, Int.reduceToNat, w64_id, cast_succ])
      cases b
      · refine SW.condF rfl ?_
        repeat (first | (with_reducible first | refine SW.seq ?_ | refine SW.block ?_ | refine SW.rowC ?_ | refine SW.skip ?_ | refine SW.exit ?_ | intro _ | refine And.intro (by omega) ?_) | simp (config := { maxSteps := 1000000 }) (disch := (first | omega | (simp only [go_sem]; try omega))) only [go_sem, Nat.reduceAdd, Nat.reduceEqDiff, Nat.reduceLeDiff, Nat.reduceMul, Nat.reduceLT, reduceIte, Int.reduceToNat, w64_id, cast_succ])
        exact ⟨a, u2, t2, ha, by omega, rfl, rfl⟩
      · refine SW.condT rfl ?_
        repeat (first | (with_reducible first | refine SW.seq ?_ | refine SW.block ?_ | refine SW.rowC ?_ | refine SW.skip ?_ | refine SW.exit ?_ | intro _ | refine And.intro (by omega) ?_) | simp (config := { maxSteps := 1000000 }) (disch := (first | omega | (simp only [go_sem]; try omega))) only [go_sem, Nat.reduceAdd, Nat.reduceEqDiff, Nat.reduceLeDiff, Nat.reduceMul, Nat.reduceLT, reduceIte, Int.reduceToNat, w64_id, cast_succ])
        refine (hcy _ 3 (by omega) (by omega)).mono ?_
        rintro r H2 ⟨rfl, c1, q1, rfl⟩
        repeat (first | (with_reducible first | refine SW.seq ?_ | refine SW.block ?_ | refine SW.rowC ?_ | refine SW.skip ?_ | refine SW.exit ?_ | intro _ | refine And.intro (by omega) ?_) | simp (config := { maxSteps := 1000000 }) (disch := (first | omega | (simp only [go_sem]; try omega))) only [go_sem, Nat.reduceAdd, Nat.reduceEqDiff, Nat.reduceLeDiff, Nat.reduceMul, Nat.reduceLT, reduceIte, Int.reduceToNat, w64_id, cast_succ])
        refine (hcy _ 2 (by omega) (by omega)).mono ?_
        rintro r H2 ⟨rfl, c2, q2, rfl⟩
        repeat (first | (with_reducible first | refine SW.seq ?_ | refine SW.block ?_ | refine SW.rowC ?_ | refine SW.skip ?_ | refine SW.exit ?_ | intro _ | refine And.intro (by omega) ?_) | simp (config := { maxSteps := 1000000 }) (disch := (first | omega | (simp only [go_sem]; try omega))) only [go_sem, Nat.reduceAdd, Nat.reduceEqDiff, Nat.reduceLeDiff, Nat.reduceMul, Nat.reduceLT, reduceIte, Int.reduceToNat, w64_id, cast_succ])
        refine (l06Product_ok _ 3 2 c1 c2 q1 q2 (by omega) (by omega) (by omega)).mono ?_
        rintro r H2 ⟨rfl, c3, q3, rfl⟩
        repeat (first | (with_reducible first | refine SW.seq ?_ | refine SW.block ?_ | refine SW.rowC ?_ | refine SW.skip ?_ | refine SW.exit ?_ | intro _ | refine And.intro (by omega) ?_) | simp (config := { maxSteps := 1000000 }) (disch := (first | omega | (simp only [go_sem]; try omega))) only [go_sem, Nat.reduceAdd, Nat.reduceEqDiff, Nat.reduceLeDiff, Nat.reduceMul, Nat.reduceLT, reduceIte, Int.reduceToNat, w64_id, cast_succ])
        exact ⟨c3, u2, t2, by subst h6; exact q3, by omega, rfl, rfl⟩
    have d6 : decide ((n : Int) = 6) = false := decide_eq_false (by omega)
    rw [d6]
    refine SW.condF rfl ?_
    repeat (first | (with_reducible first | refine SW.seq ?_ | refine SW.block ?_ | refine SW.rowC ?_ | refine SW.skip ?_ | refine SW.exit ?_ | intro _ | refine And.intro (by omega) ?_) | simp (config := { maxSteps := 1000000 }) (disch := (first | omega | (simp only [go_sem]; try omega))) only [go_sem, Nat.reduceAdd, Nat.reduceEqDiff, Nat.reduceLeDiff, Nat.reduceMul, Nat.reduceLT, reduceIte, Int.reduceToNat, w64_id, cast_succ])
    by_cases h8 : n = 8
    · have d8 : decide ((n : Int) = 8) = true := decide_eq_true (by omega)
      rw [d8]
      refine SW.condT rfl ?_
      repeat (first | (with_reducible first | refine SW.seq ?_ | refine SW.block ?_ | refine SW.rowC ?_ | refine SW.skip ?_ | refine SW.exit ?_ | intro _ | refine And.intro (by omega) ?_) | simp (config := { maxSteps := 1000000 }) (disch := (first | omega | (simp only [go_sem]; try omega))) only [go_sem, Nat.reduceAdd, Nat.reduceEqDiff, Nat.reduceLeDiff, Nat.reduceMul, Nat.reduceLT, reduceIte, Int.reduceToNat, w64_id, cast_succ])
      refine (one_ok _ p code ns t u 2 hp hc (by omega)).mono ?_
      rintro r H2 ⟨b, u2, t2, rfl, ht2, rfl⟩
      repeat (first | (with_reducible first | refine SW.seq ?_ | refine SW.block ?_ | refine SW.rowC ?_ | refine SW.skip ?_ | refine SW.exit ?_ | intro _ | refine And.intro (by omega) ?_) | simp (config := { maxSteps := 1000000 }) (disch := (first | omega | (simp only [go_sem]; try omega))) only [go_sem, Nat.reduceAdd, Nat.reduceEqDiff, Nat.reduceLeDiff, Nat.reduceMul, Nat.reduceLT, reduceIte, Int.reduceToNat, w64_id, cast_succ])
      cases b
      · refine SW.condF rfl ?_
        repeat (first | (with_reducible first | refine SW.seq ?_ | refine SW.block ?_ | refine SW.rowC ?_ | refine SW.skip ?_ | refine SW.exit ?_ | intro _ | refine And.intro (by omega) ?_) | simp (config := { maxSteps := 1000000 }) (disch := (first | omega | (simp only [go_sem]; try omega))) only [go_sem, Nat.reduceAdd, Nat.reduceEqDiff, Nat.reduceLeDiff, Nat.reduceMul, Nat.reduceLT, reduceIte, Int.reduceToNat, w64_id, cast_succ])
        exact ⟨a, u2, t2, ha, by omega, rfl, rfl⟩
      · refine SW.condT rfl ?_
        repeat (first | (with_reducible first | refine SW.seq ?_ | refine SW.block ?_ | refine SW.rowC ?_ | refine SW.skip ?_ | refine SW.exit ?_ | intro _ | refine And.intro (by omega) ?_) | simp (config := { maxSteps := 1000000 }) (disch := (first | omega | (simp only [go_sem]; try omega))) only [go_sem, Nat.reduceAdd, Nat.reduceEqDiff, Nat.reduceLeDiff, Nat.reduceMul, Nat.reduceLT, reduceIte, Int.reduceToNat, w64_id, cast_succ])
        refine (hcy _ 2 (by omega) (by omega)).mono ?_
        rintro r H2 ⟨rfl, c1, q1, rfl⟩
        repeat (first | (with_reducible first | refine SW.seq ?_ | refine SW.block ?_ | refine SW.rowC ?_ | refine SW.skip ?_ | refine SW.exit ?_ | intro _ | refine And.intro (by omega) ?_) | simp (config := { maxSteps := 1000000 }) (disch := (first | omega | (simp only [go_sem]; try omega))) only [go_sem, Nat.reduceAdd, Nat.reduceEqDiff, Nat.reduceLeDiff, Nat.reduceMul, Nat.reduceLT, reduceIte, Int.reduceToNat, w64_id, cast_succ])
        refine (hcy _ 2 (by omega) (by omega)).mono ?_
        rintro r H2 ⟨rfl, c2, q2, rfl⟩
        repeat (first | (with_reducible first | refine SW.seq ?_ | refine SW.block ?_ | refine SW.rowC ?_ | refine SW.skip ?_ | refine SW.exit ?_ | intro _ | refine And.intro (by omega) ?_) | simp (config := { maxSteps := 1000000 }) (disch := (first | omega | (simp only [go_sem]; try omega))) only [go_sem, Nat.reduceAdd, Nat.reduceEqDiff, Nat.reduceLeDiff, Nat.reduceMul, Nat.reduceLT, reduceIte, Int.reduceToNat, w64_id, cast_succ])
        refine (l06Product_ok _ 2 2 c1 c2 q1 q2 (by omega) (by omega) (by omega)).mono ?_
        rintro r H2 ⟨rfl, c3, q3, rfl⟩
        repeat (first | (with_reducible first | refine SW.seq ?_ | refine SW.block ?_ | refine SW.rowC ?_ | refine SW.skip ?_ | refine SW.exit ?_ | intro _ | refine And.intro (by omega) ?_) | simp (config := { maxSteps := 1000000 }) (disch := (first | omega | (simp only [go_sem]; try omega))) only [go_sem, Nat.reduceAdd, Nat.reduceEqDiff, Nat.reduceLeDiff, Nat.reduceMul, Nat.reduceLT, reduceIte, Int.reduceToNat, w64_id, cast_succ])
        refine (hcy _ 2 (by omega) (by omega)).mono ?_
        rintro r H2 ⟨rfl, c4, q4, rfl⟩
        repeat (first | (with_reducible first | refine SW.seq ?_ | refine SW.block ?_ | refine SW.rowC ?_ | refine SW.skip ?_ | refine SW.exit ?_ | intro _ | refine And.intro (by omega) ?_) | simp (config := { maxSteps := 1000000 }) (disch := (first | omega | (simp only [go_sem]; try omega))) only [go_sem, Nat.reduceAdd, Nat.reduceEqDiff, Nat.reduceLeDiff, Nat.reduceMul, Nat.reduceLT, reduceIte, Int.reduceToNat, w64_id, cast_succ])
        refine (l06Product_ok _ 4 2 c3 c4 q3 q4 (by omega) (by omega) (by omega)).mono ?_
        rintro r H2 ⟨rfl, c5, q5, rfl⟩
        repeat (first | (with_reducible first | refine SW.seq ?_ | refine SW.block ?_ | refine SW.rowC ?_ | refine SW.skip ?_ | refine SW.exit ?_ | intro _ | refine And.intro (by omega) ?_) | simp (config := { maxSteps := 1000000 }) (disch := (first | omega | (simp only [go_sem]; try omega))) only [go_sem, Nat.reduceAdd, Nat.reduceEqDiff, Nat.reduceLeDiff, Nat.reduceMul, Nat.reduceLT, reduceIte, Int.reduceToNat, w64_id, cast_succ])
        exact ⟨c5, u2, t2, by subst h8; exact q5, by omega, rfl, rfl⟩
    have d8 : decide ((n : Int) = 8) = false := decide_eq_false (by omega)
    rw [d8]
    refine SW.condF rfl ?_
    repeat (first | (with_reducible first | refine SW.seq ?_ | refine SW.block ?_ | refine SW.rowC ?_ | refine SW.skip ?_ | refine SW.exit ?_ | intro _ | refine And.intro (by omega) ?_) | simp (config := { maxSteps := 1000000 }) (disch := (first | omega | (simp only [go_sem]; try omega))) only [go_sem, Nat.reduceAdd, Nat.reduceEqDiff, Nat.reduceLeDiff, Nat.reduceMul, Nat.reduceLT, reduceIte, Int.reduceToNat, w64_id, cast_succ])
    by_cases h9 : n = 9
    · have d9 : decide ((n : Int) = 9) = true := decide_eq_true (by omega)
      rw [d9]
      refine SW.condT rfl ?_
      repeat (first | (with_reducible first | refine SW.seq ?_ | refine SW.block ?_ | refine SW.rowC ?_ | refine SW.skip ?_ | refine SW.exit ?_ | intro _ | refine And.intro (by omega) ?_) | simp (config := { maxSteps := 1000000 }) (disch := (first | omega | (simp only [go_sem]; try omega))) only [go_sem, Nat.reduceAdd, Nat.reduceEqDiff, Nat.reduceLeDiff, Nat.reduceMul, Nat.reduceLT, reduceIte, Int.reduceToNat, w64_id, cast_succ])
      refine (one_ok _ p code ns t u 2 hp hc (by omega)).mono ?_
      rintro r H2 ⟨b, u2, t2, rfl, ht2, rfl⟩
      repeat (first | (with_reducible first | refine SW.seq ?_ | refine SW.block ?_ | refine SW.rowC ?_ | refine SW.skip ?_ | refine SW.exit ?_ | intro _ | refine And.intro (by omega) ?_) | simp (config := { maxSteps := 1000000 }) (disch := (first | omega | (simp only [go_sem]; try omega))) only [go_sem, Nat.reduceAdd, Nat.reduceEqDiff, Nat.reduceLeDiff, Nat.reduceMul, Nat.reduceLT, reduceIte, Int.reduceToNat, w64_id, cast_succ])
      cases b
      · refine SW.condF rfl ?_
        repeat (first | (with_reducible first | refine SW.seq ?_ | refine SW.block ?_ | refine SW.rowC ?_ | refine SW.skip ?_ | refine SW.exit ?_ | intro _ | refine And.intro (by omega) ?_) | simp (config := { maxSteps := 1000000 }) (disch := (first | omega | (simp only [go_sem]; try omega))) only [go_sem, Nat.reduceAdd, Nat.reduceEqDiff, Nat.reduceLeDiff, Nat.reduceMul, Nat.reduceLT, reduceIte, Int.reduceToNat, w64_id, cast_succ])
        exact ⟨a, u2, t2, ha, by omega, rfl, rfl⟩
      · refine SW.condT rfl ?_
        repeat (first | (with_reducible first | refine SW.seq ?_ | refine SW.block ?_ | refine SW.rowC ?_ | refine SW.skip ?_ | refine SW.exit ?_ | intro _ | refine And.intro (by omega) ?_) | simp (config := { maxSteps := 1000000 }) (disch := (first | omega | (simp only [go_sem]; try omega))) only [go_sem, Nat.reduceAdd, Nat.reduceEqDiff, Nat.reduceLeDiff, Nat.reduceMul, Nat.reduceLT, reduceIte, Int.reduceToNat, w64_id, cast_succ])
        refine (hcy _ 3 (by omega) (by omega)).mono ?_
        rintro r H2 ⟨rfl, c1, q1, rfl⟩
        repeat (first | (with_reducible first | refine SW.seq ?_ | refine SW.block ?_ | refine SW.rowC ?_ | refine SW.skip ?_ | refine SW.exit ?_ | intro _ | refine And.intro (by omega) ?_) | simp (config := { maxSteps := 1000000 }) (disch := (first | omega | (simp only [go_sem]; try omega))) only [go_sem, Nat.reduceAdd, Nat.reduceEqDiff, Nat.reduceLeDiff, Nat.reduceMul, Nat.reduceLT, reduceIte, Int.reduceToNat, w64_id, cast_succ])
        refine (hcy _ 3 (by omega) (by omega)).mono ?_
        rintro r H2 ⟨rfl, c2, q2, rfl⟩
        repeat (first | (with_reducible first | refine SW.seq ?_ | refine SW.block ?_ | refine SW.rowC ?_ | refine SW.skip ?_ | refine SW.exit ?_ | intro _ | refine And.intro (by omega) ?_) | simp (config := { maxSteps := 1000000 }) (disch := (first | omega | (simp only [go_sem]; try omega))) only [go_sem, Nat.reduceAdd, Nat.reduceEqDiff, Nat.reduceLeDiff, Nat.reduceMul, Nat.reduceLT, reduceIte, Int.reduceToNat, w64_id, cast_succ])
        refine (l06Product_ok _ 3 3 c1 c2 q1 q2 (by omega) (by omega) (by omega)).mono ?_
        rintro r H2 ⟨rfl, c3, q3, rfl⟩
        repeat (first | (with_reducible first | refine SW.seq ?_ | refine SW.block ?_ | refine SW.rowC ?_ | refine SW.skip ?_ | refine SW.exit ?_ | intro _ | refine And.intro (by omega) ?_) | simp (config := { maxSteps := 1000000 }) (disch := (first | omega | (simp only [go_sem]; try omega))) only [go_sem, Nat.reduceAdd, Nat.reduceEqDiff, Nat.reduceLeDiff, Nat.reduceMul, Nat.reduceLT, reduceIte, Int.reduceToNat, w64_id, cast_succ])
        exact ⟨c3, u2, t2, by subst h9; exact q3, by omega, rfl, rfl⟩
    have d9 : decide ((n : Int) = 9) = false := decide_eq_false (by omega)
    rw [d9]
    refine SW.condF rfl ?_
    repeat (first | (with_reducible first | refine SW.seq ?_ | refine SW.block ?_ | refine SW.rowC ?_ | refine SW.skip ?_ | refine SW.exit ?_ | intro _ | refine And.intro (by omega) ?_) | simp (config := { maxSteps := 1000000 }) (disch := (first | omega | (simp only [go_sem]; try omega))) only [go_sem, Nat.reduceAdd, Nat.reduceEqDiff, Nat.reduceLeDiff, Nat.reduceMul, Nat.reduceLT, reduceIte, Int.reduceToNat, w64_id, cast_succ])
    exact ⟨a, u, t, ha, by omega, rfl, hself.symm⟩
  rintro E2 H2 ⟨sq, u1, t1, hs, ht1, e0, e1, e5, rfl⟩
  repeat (first | (with_reducible first | refine SW.seq ?_ | refine SW.block ?_ | refine SW.rowC ?_ | refine SW.skip ?_ | refine SW.exit ?_ | intro _ | refine And.intro (by omega) ?_) | simp (config := { maxSteps := 1000000 }) (disch := (first | omega | (simp only [go_sem]; try omega))) only [go_sem, Nat.reduceAdd, Nat.reduceEqDiff, Nat.reduceLeDiff, Nat.reduceMul, Nat.reduceLT, reduceIte, Int.reduceToNat, w64_id, cast_succ, e0, e1, e5])
  refine (pick_ok _ p code ns t1 u1 4 (hgp _ _) hc (by omega)).mono ?_
  rintro r H2 ⟨x2, u2, t2, rfl, a2, b2, ht2, rfl⟩
  rw [List.set_set]
  obtain ⟨x2, rfl⟩ := Int.eq_ofNat_of_zero_le a2
  have hx2 : x2 ≤ 3 := by omega
  repeat (first | (with_reducible first | refine SW.seq ?_ | refine SW.block ?_ | refine SW.rowC ?_ | refine SW.skip ?_ | refine SW.exit ?_ | intro _ | refine And.intro (by omega) ?_) | simp (config := { maxSteps := 1000000 }) (disch := (first | omega | (simp only [go_sem]; try omega))) only [go_sem, Nat.reduceAdd, Nat.reduceEqDiff, Nat.reduceLeDiff, Nat.reduceMul, Nat.reduceLT, reduceIte, Int.reduceToNat, w64_id, cast_succ, e0, e1, e5])
  refine SW.loopE (fun E0 H0 q E' H' => ∃ (k t' : Nat) (u' : Int) (sq : List (List Int)), k ≤ 3 ∧ q = k ∧ sqIn n sq ∧ t' + 20 * k ≤ t + 100 ∧ E' = aput (aput E0 6 (I k)) 5 (ilSS sq) ∧ H' = H1.set p (srcB code t' u')) x2 ⟨x2, t2, u2, sq, hx2, rfl, hs, by omega, rfl, rfl⟩ ?_
  clear hs
  rintro q E' H' ⟨k, t3, u3, sq, hk3, rfl, hs, ht3, rfl, rfl⟩
  simp (config := { maxSteps := 1000000 }) (disch := (first | omega | (simp only [go_sem]; try omega))) only [go_sem, Nat.reduceAdd, Nat.reduceEqDiff, Nat.reduceLeDiff, Nat.reduceMul, Nat.reduceLT, reduceIte, Int.reduceToNat, w64_id, cast_succ]
  repeat (first | (with_reducible first | refine SW.seq ?_ | refine SW.block ?_ | refine SW.rowC ?_ | refine SW.skip ?_ | refine SW.exit ?_ | intro _ | refine And.intro (by omega) ?_) | simp (config := { maxSteps := 1000000 }) (disch := (first | omega | (simp only [go_sem]; try omega))) only [go_sem, Nat.reduceAdd, Nat.reduceEqDiff, Nat.reduceLeDiff, Nat.reduceMul, Nat.reduceLT, reduceIte, Int.reduceToNat, w64_id, cast_succ])
  (first | refine SW.condD rfl (fun h => ?_) (fun h => ?_) | refine SW.condN rfl (fun h => ?_) (fun h => ?_) | refine SW.condNB rfl (fun h => ?_) (fun h => ?_) | refine SW.condB rfl (fun h => ?_) (fun h => ?_))
  · repeat (first | (with_reducible first | refine SW.seq ?_ | refine SW.block ?_ | refine SW.rowC ?_ | refine SW.skip ?_ | refine SW.exit ?_ | intro _ | refine And.intro (by omega) ?_) | simp (config := { maxSteps := 1000000 }) (disch := (first | omega | (simp only [go_sem]; try omega))) only [go_sem, Nat.reduceAdd, Nat.reduceEqDiff, Nat.reduceLeDiff, Nat.reduceMul, Nat.reduceLT, reduceIte, Int.reduceToNat, w64_id, cast_succ])
    refine (l06Switch_ok _ p code ns t3 u3 n sq hs (hgp _ _) hc hcb (by omega) n1 hn).mono ?_
    rintro r H2 ⟨sq2, u4, t4, hs2, rfl, ht4, rfl⟩
    rw [List.set_set]
    repeat (first | (with_reducible first | refine SW.seq ?_ | refine SW.block ?_ | refine SW.rowC ?_ | refine SW.skip ?_ | refine SW.exit ?_ | intro _ | refine And.intro (by omega) ?_) | simp (config := { maxSteps := 1000000 }) (disch := (first | omega | (simp only [go_sem]; try omega))) only [go_sem, Nat.reduceAdd, Nat.reduceEqDiff, Nat.reduceLeDiff, Nat.reduceMul, Nat.reduceLT, reduceIte, Int.reduceToNat, w64_id, cast_succ])
    refine SLoop.next (q - 1) (by omega) ⟨q - 1, t4, u4, sq2, by omega, rfl, hs2, by omega, ?_, rfl⟩
    rw [show ((q - 1 : Nat) : Int) = (q : Int) - 1 by omega]; rfl
  · repeat (first | (with_reducible first | refine SW.seq ?_ | refine SW.block ?_ | refine SW.rowC ?_ | refine SW.skip ?_ | refine SW.exit ?_ | intro _ | refine And.intro (by omega) ?_) | simp (config := { maxSteps := 1000000 }) (disch := (first | omega | (simp only [go_sem]; try omega))) only [go_sem, Nat.reduceAdd, Nat.reduceEqDiff, Nat.reduceLeDiff, Nat.reduceMul, Nat.reduceLT, reduceIte, Int.reduceToNat, w64_id, cast_succ])
    refine (l04DrawPerm_ok _ p code ns t3 u3 n (hgp _ _) hc hcb (by omega) n1 hn).mono ?_
    rintro r H2 ⟨P1, u4, t4, rfl, hP1, ht4, rfl⟩
    rw [List.set_set]
    repeat (first | (with_reducible first | refine SW.seq ?_ | refine SW.block ?_ | refine SW.rowC ?_ | refine SW.skip ?_ | refine SW.exit ?_ | intro _ | refine And.intro (by omega) ?_) | simp (config := { maxSteps := 1000000 }) (disch := (first | omega | (simp only [go_sem]; try omega))) only [go_sem, Nat.reduceAdd, Nat.reduceEqDiff, Nat.reduceLeDiff, Nat.reduceMul, Nat.reduceLT, reduceIte, Int.reduceToNat, w64_id, cast_succ])
    refine (l04DrawPerm_ok _ p code ns t4 u4 n (hgp _ _) hc hcb (by omega) n1 hn).mono ?_
    rintro r H2 ⟨P2, u5, t5, rfl, hP2, ht5, rfl⟩
    rw [List.set_set]
    repeat (first | (with_reducible first | refine SW.seq ?_ | refine SW.block ?_ | refine SW.rowC ?_ | refine SW.skip ?_ | refine SW.exit ?_ | intro _ | refine And.intro (by omega) ?_) | simp (config := { maxSteps := 1000000 }) (disch := (first | omega | (simp only [go_sem]; try omega))) only [go_sem, Nat.reduceAdd, Nat.reduceEqDiff, Nat.reduceLeDiff, Nat.reduceMul, Nat.reduceLT, reduceIte, Int.reduceToNat, w64_id, cast_succ])
    refine (l04DrawPerm_ok _ p code ns t5 u5 n (hgp _ _) hc hcb (by omega) n1 hn).mono ?_
    rintro r H2 ⟨P3, u6, t6, rfl, hP3, ht6, rfl⟩
    rw [List.set_set]
    repeat (first | (with_reducible first | refine SW.seq ?_ | refine SW.block ?_ | refine SW.rowC ?_ | refine SW.skip ?_ | refine SW.exit ?_ | intro _ | refine And.intro (by omega) ?_) | simp (config := { maxSteps := 1000000 }) (disch := (first | omega | (simp only [go_sem]; try omega))) only [go_sem, Nat.reduceAdd, Nat.reduceEqDiff, Nat.reduceLeDiff, Nat.reduceMul, Nat.reduceLT, reduceIte, Int.reduceToNat, w64_id, cast_succ])
    refine (one_ok _ p code ns t6 u6 5 (hgp _ _) hc (by omega)).mono ?_
    rintro r H2 ⟨b, u7, t7, rfl, ht7, rfl⟩
    rw [List.set_set]
    repeat (first | (with_reducible first | refine SW.seq ?_ | refine SW.block ?_ | refine SW.rowC ?_ | refine SW.skip ?_ | refine SW.exit ?_ | intro _ | refine And.intro (by omega) ?_) | simp (config := { maxSteps := 1000000 }) (disch := (first | omega | (simp only [go_sem]; try omega))) only [go_sem, Nat.reduceAdd, Nat.reduceEqDiff, Nat.reduceLeDiff, Nat.reduceMul, Nat.reduceLT, reduceIte, Int.reduceToNat, w64_id, cast_succ])
    cases b
    · refine SW.condF rfl ?_
      repeat (first | (with_reducible first | refine SW.seq ?_ | refine SW.block ?_ | refine SW.rowC ?_ | refine SW.skip ?_ | refine SW.exit ?_ | intro _ | refine And.intro (by omega) ?_) | simp (config := { maxSteps := 1000000 }) (disch := (first | omega | (simp only [go_sem]; try omega))) only [go_sem, Nat.reduceAdd, Nat.reduceEqDiff, Nat.reduceLeDiff, Nat.reduceMul, Nat.reduceLT, reduceIte, Int.reduceToNat, w64_id, cast_succ])
      refine (l06Isotope_ok _ n sq P1 P2 P3 hs (lisIn_perm hP1) (lisIn_perm hP2) (lisIn_perm hP3) n1 hn).mono ?_
      rintro r H2 ⟨rfl, sq3, hs3, rfl⟩
      repeat (first | (with_reducible first | refine SW.seq ?_ | refine SW.block ?_ | refine SW.rowC ?_ | refine SW.skip ?_ | refine SW.exit ?_ | intro _ | refine And.intro (by omega) ?_) | simp (config := { maxSteps := 1000000 }) (disch := (first | omega | (simp only [go_sem]; try omega))) only [go_sem, Nat.reduceAdd, Nat.reduceEqDiff, Nat.reduceLeDiff, Nat.reduceMul, Nat.reduceLT, reduceIte, Int.reduceToNat, w64_id, cast_succ])
      refine SW.ret ?_; (try simp only [go_sem]); (first | refine FunPost.one ?_ | refine FunPost.two ?_ | refine FunPost.three ?_); (try simp (config := { maxSteps := 1000000 }) (disch := (first | omega | (simp only [go_sem]; try omega))) only [go_sem, Nat.reduceAdd, Nat.reduceEqDiff, Nat.reduceLeDiff, Nat.reduceMul, Nat.reduceLT, reduceIte, Int.reduceToNat, w64_id, cast_succ])
      exact GR.of ⟨sq3, u7, t7, hs3, rfl, by omega, rfl⟩
    · refine SW.condT rfl ?_
      repeat (first | (with_reducible first | refine SW.seq ?_ | refine SW.block ?_ | refine SW.rowC ?_ | refine SW.skip ?_ | refine SW.exit ?_ | intro _ | refine And.intro (by omega) ?_) | simp (config := { maxSteps := 1000000 }) (disch := (first | omega | (simp only [go_sem]; try omega))) only [go_sem, Nat.reduceAdd, Nat.reduceEqDiff, Nat.reduceLeDiff, Nat.reduceMul, Nat.reduceLT, reduceIte, Int.reduceToNat, w64_id, cast_succ])
      refine SW.ret ?_; (try simp only [go_sem]); (first | refine FunPost.one ?_ | refine FunPost.two ?_ | refine FunPost.three ?_); (try simp (config := { maxSteps := 1000000 }) (disch := (first | omega | (simp only [go_sem]; try omega))) only [go_sem, Nat.reduceAdd, Nat.reduceEqDiff, Nat.reduceLeDiff, Nat.reduceMul, Nat.reduceLT, reduceIte, Int.reduceToNat, w64_id, cast_succ])
      exact GR.of ⟨sq, u7, t7, hs, rfl, by omega, rfl⟩
end Go.Proofs.Ytchehdplcbffmaa
