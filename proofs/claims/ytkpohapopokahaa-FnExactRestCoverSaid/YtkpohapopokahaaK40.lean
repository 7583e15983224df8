/- What is left of a cover: the reference. -/
import Derived.Test.YtkpohapopokahaaProg
import Derived.KernelRfl
import Derived.Test.YtkpohapopokahaaK39
set_option linter.unusedSimpArgs false
set_option linter.unusedVariables false
set_option maxHeartbeats 4000000
set_option maxRecDepth 100000
namespace Go.Proofs.Ytkpohapopokahaa
open Go.Av

/-! The abstract code of functions, printed by program and tied to the program by the kernel. -/
/-- loop.example/g00920/spec.RestCover -/
abbrev f_spec_RestCover : Nat := 36
def c_spec_RestCover : SC :=
 .seq (.reg [
     ⟨(some 2), .box 29 (.tmp 0), none⟩,
     ⟨(some 4), .alloc 29 [(.int .i64 0), (.slice none 0 0)], none⟩,
     ⟨(some 5), .mv (.const (.slice none 0 0)), none⟩,
     ⟨(some 6), .mv (.const (.int .i64 0)), none⟩] [1, 2, 4])
 (.seq (.seq (.reg [
     ⟨(some 14), .call 57 [(.tmp 2)], none⟩,
     ⟨(some 15), .un .not (.tmp 14), none⟩] [1, 2, 4, 15])
 (.cond (.tmp 15)
  (.seq (.reg [
      ⟨(some 16), .build [(.int .i64 0), (.slice none 0 0)] [], none⟩,
      ⟨none, .store 2 (.tmp 4) (.tmp 16), none⟩,
      ⟨(some 5), .mv (.const (.slice none 0 0)), none⟩,
      ⟨(some 6), .mv (.const (.int .i64 1)), none⟩] [4, 5, 6])
  (.ret))
  (.skip)))
 (.seq (.seq (.reg [
     ⟨(some 17), .mv (.tmp 1), none⟩,
     ⟨(some 18), .faddr 1 (.tmp 2), none⟩,
     ⟨(some 19), .load 1 false (.tmp 18), none⟩,
     ⟨(some 20), .len (.tmp 19), none⟩,
     ⟨(some 21), .bin .sub (.tmp 20) (.const (.int .i64 1)), none⟩,
     ⟨(some 22), .call 78 [(.tmp 17), (.const (.int .i64 0)), (.tmp 21)], none⟩,
     ⟨(some 23), .un .not (.tmp 22), none⟩] [1, 2, 4, 23])
 (.cond (.tmp 23)
  (.seq (.reg [
      ⟨(some 24), .build [(.int .i64 0), (.slice none 0 0)] [], none⟩,
      ⟨none, .store 2 (.tmp 4) (.tmp 24), none⟩,
      ⟨(some 5), .mv (.const (.slice none 0 0)), none⟩,
      ⟨(some 6), .mv (.const (.int .i64 2)), none⟩] [4, 5, 6])
  (.ret))
  (.skip)))
 (.seq (.reg [
     ⟨(some 25), .bslice 2 1 0 [] [], none⟩,
     ⟨(some 7), .mv (.tmp 25), none⟩] [1, 2, 4, 7])
 (.seq (.seq (.reg [
     ⟨(some 8), .mv (.const (.int .i64 0)), none⟩] [1, 2, 4, 7, 8])
 (.block 0 (.loop [1, 2, 4, 7, 8]
   (.seq (.seq (.reg [
       ⟨(some 26), .mv (.tmp 8), none⟩,
       ⟨(some 27), .mv (.tmp 1), none⟩,
       ⟨(some 28), .len (.tmp 27), none⟩,
       ⟨(some 29), .bin .lss (.tmp 26) (.tmp 28), none⟩] [1, 2, 4, 7, 8, 29])
   (.cond (.tmp 29)
    (.skip)
    (.exit 0)))
   (.seq (.block 1 (.seq (.seq (.reg [
        ⟨(some 32), .faddr 1 (.tmp 2), none⟩,
        ⟨(some 33), .load 1 false (.tmp 32), none⟩,
        ⟨(some 34), .mv (.tmp 1), none⟩,
        ⟨(some 35), .mv (.tmp 8), none⟩,
        ⟨(some 36), .iaddr 1 (.tmp 34) (.tmp 35), none⟩,
        ⟨(some 37), .load 1 false (.tmp 36), none⟩,
        ⟨(some 38), .iaddr 1 (.tmp 33) (.tmp 37), none⟩,
        ⟨(some 39), .load 1 false (.tmp 38), none⟩,
        ⟨(some 40), .mv (.tmp 7), none⟩,
        ⟨(some 41), .qcall 79 [(.tmp 39), (.tmp 40)], none⟩] [1, 2, 4, 7, 8, 41])
    (.cond (.tmp 41)
     (.seq (.reg [
         ⟨(some 42), .build [(.int .i64 0), (.slice none 0 0)] [], none⟩,
         ⟨none, .store 2 (.tmp 4) (.tmp 42), none⟩,
         ⟨(some 5), .mv (.const (.slice none 0 0)), none⟩,
         ⟨(some 6), .mv (.const (.int .i64 6)), none⟩] [4, 5, 6])
     (.ret))
     (.skip)))
    (.reg [
        ⟨(some 43), .mv (.tmp 7), none⟩,
        ⟨(some 44), .faddr 1 (.tmp 2), none⟩,
        ⟨(some 45), .load 1 false (.tmp 44), none⟩,
        ⟨(some 46), .mv (.tmp 1), none⟩,
        ⟨(some 47), .mv (.tmp 8), none⟩,
        ⟨(some 48), .iaddr 1 (.tmp 46) (.tmp 47), none⟩,
        ⟨(some 49), .load 1 false (.tmp 48), none⟩,
        ⟨(some 50), .iaddr 1 (.tmp 45) (.tmp 49), none⟩,
        ⟨(some 51), .load 1 false (.tmp 50), none⟩,
        ⟨(some 52), .app 2 1 8 (.tmp 43) (.tmp 51), none⟩,
        ⟨(some 53), .call 80 [(.tmp 52)], none⟩,
        ⟨(some 7), .mv (.tmp 53), none⟩] [1, 2, 4, 7, 8])))
   (.reg [
       ⟨(some 30), .mv (.tmp 8), none⟩,
       ⟨(some 31), .bin .add (.tmp 30) (.const (.int .i64 1)), none⟩,
       ⟨(some 8), .mv (.tmp 31), none⟩] [1, 2, 4, 7, 8]))))))
 (.seq (.reg [
     ⟨(some 54), .bslice 2 1 0 [] [], none⟩,
     ⟨(some 9), .mv (.tmp 54), none⟩] [2, 4, 7, 9])
 (.seq (.seq (.reg [
     ⟨(some 10), .mv (.const (.int .i64 0)), none⟩] [2, 4, 7, 9, 10])
 (.block 2 (.loop [2, 4, 7, 9, 10]
   (.seq (.seq (.reg [
       ⟨(some 55), .mv (.tmp 10), none⟩,
       ⟨(some 56), .faddr 0 (.tmp 2), none⟩,
       ⟨(some 57), .load 1 false (.tmp 56), none⟩,
       ⟨(some 58), .bin .lss (.tmp 55) (.tmp 57), none⟩] [2, 4, 7, 9, 10, 58])
   (.cond (.tmp 58)
    (.skip)
    (.exit 2)))
   (.seq (.block 3 (.seq (.reg [
        ⟨(some 61), .mv (.tmp 7), none⟩,
        ⟨(some 62), .mv (.tmp 10), none⟩,
        ⟨(some 63), .call 59 [(.tmp 61), (.tmp 62)], none⟩,
        ⟨(some 64), .un .not (.tmp 63), none⟩] [2, 4, 7, 9, 10, 64])
    (.cond (.tmp 64)
     (.reg [
         ⟨(some 65), .mv (.tmp 9), none⟩,
         ⟨(some 66), .mv (.tmp 10), none⟩,
         ⟨(some 67), .bslice 2 1 1 [(.int .i64 0)] [(0, (.tmp 66))], none⟩,
         ⟨(some 68), .app 2 1 8 (.tmp 65) (.tmp 67), none⟩,
         ⟨(some 9), .mv (.tmp 68), none⟩] [2, 4, 7, 9, 10])
     (.skip))))
   (.reg [
       ⟨(some 59), .mv (.tmp 10), none⟩,
       ⟨(some 60), .bin .add (.tmp 59) (.const (.int .i64 1)), none⟩,
       ⟨(some 10), .mv (.tmp 60), none⟩] [2, 4, 7, 9, 10]))))))
 (.seq (.seq (.reg [
     ⟨(some 69), .mv (.tmp 9), none⟩,
     ⟨(some 70), .len (.tmp 69), none⟩,
     ⟨(some 71), .bin .eql (.tmp 70) (.const (.int .i64 0)), none⟩] [2, 4, 7, 9, 71])
 (.cond (.tmp 71)
  (.seq (.reg [
      ⟨(some 72), .build [(.int .i64 0), (.slice none 0 0)] [], none⟩,
      ⟨none, .store 2 (.tmp 4) (.tmp 72), none⟩,
      ⟨(some 5), .mv (.const (.slice none 0 0)), none⟩,
      ⟨(some 6), .mv (.const (.int .i64 6)), none⟩] [4, 5, 6])
  (.ret))
  (.skip)))
 (.seq (.reg [
     ⟨(some 73), .mv (.tmp 9), none⟩,
     ⟨(some 74), .len (.tmp 73), none⟩,
     ⟨(some 75), .build [(.int .i64 0), (.slice none 0 0)] [(0, 1, (.tmp 74))], none⟩,
     ⟨(some 11), .alloc 29 [(.int .i64 0), (.slice none 0 0)], none⟩,
     ⟨none, .store 2 (.tmp 11) (.tmp 75), none⟩] [2, 4, 7, 9, 11])
 (.seq (.reg [
     ⟨(some 76), .bslice 2 1 0 [] [], none⟩,
     ⟨(some 12), .mv (.tmp 76), none⟩] [2, 4, 7, 9, 11, 12])
 (.seq (.seq (.reg [
     ⟨(some 13), .mv (.const (.int .i64 0)), none⟩] [2, 4, 7, 9, 11, 12, 13])
 (.block 4 (.loop [2, 4, 7, 9, 11, 12, 13]
   (.seq (.seq (.reg [
       ⟨(some 77), .mv (.tmp 13), none⟩,
       ⟨(some 78), .faddr 1 (.tmp 2), none⟩,
       ⟨(some 79), .load 1 false (.tmp 78), none⟩,
       ⟨(some 80), .len (.tmp 79), none⟩,
       ⟨(some 81), .bin .lss (.tmp 77) (.tmp 80), none⟩] [2, 4, 7, 9, 11, 12, 13, 81])
   (.cond (.tmp 81)
    (.skip)
    (.exit 4)))
   (.seq (.block 5 (.seq (.reg [
        ⟨(some 84), .faddr 1 (.tmp 2), none⟩,
        ⟨(some 85), .load 1 false (.tmp 84), none⟩,
        ⟨(some 86), .mv (.tmp 13), none⟩,
        ⟨(some 87), .iaddr 1 (.tmp 85) (.tmp 86), none⟩,
        ⟨(some 88), .load 1 false (.tmp 87), none⟩,
        ⟨(some 89), .mv (.tmp 7), none⟩,
        ⟨(some 90), .call 79 [(.tmp 88), (.tmp 89)], none⟩,
        ⟨(some 91), .un .not (.tmp 90), none⟩] [2, 4, 7, 9, 11, 12, 13, 91])
    (.cond (.tmp 91)
     (.seq (.reg [
         ⟨(some 92), .faddr 1 (.tmp 11), none⟩,
         ⟨(some 93), .load 1 false (.tmp 92), none⟩,
         ⟨(some 94), .faddr 1 (.tmp 2), none⟩,
         ⟨(some 95), .load 1 false (.tmp 94), none⟩,
         ⟨(some 96), .mv (.tmp 13), none⟩,
         ⟨(some 97), .iaddr 1 (.tmp 95) (.tmp 96), none⟩,
         ⟨(some 98), .load 1 false (.tmp 97), none⟩,
         ⟨(some 99), .mv (.tmp 9), none⟩,
         ⟨(some 100), .qcall 81 [(.tmp 98), (.tmp 99)], none⟩,
         ⟨(some 101), .bslice 26 1 1 [(.slice none 0 0)] [(0, (.tmp 100))], none⟩,
         ⟨(some 102), .app 26 1 24 (.tmp 93) (.tmp 101), none⟩,
         ⟨(some 103), .faddr 1 (.tmp 11), none⟩,
         ⟨none, .store 1 (.tmp 103) (.tmp 102), none⟩] [2, 4, 7, 9, 11, 12, 13])
     (.reg [
         ⟨(some 104), .mv (.tmp 12), none⟩,
         ⟨(some 105), .mv (.tmp 13), none⟩,
         ⟨(some 106), .bslice 2 1 1 [(.int .i64 0)] [(0, (.tmp 105))], none⟩,
         ⟨(some 107), .app 2 1 8 (.tmp 104) (.tmp 106), none⟩,
         ⟨(some 12), .mv (.tmp 107), none⟩] [2, 4, 7, 9, 11, 12, 13]))
     (.skip))))
   (.reg [
       ⟨(some 82), .mv (.tmp 13), none⟩,
       ⟨(some 83), .bin .add (.tmp 82) (.const (.int .i64 1)), none⟩,
       ⟨(some 13), .mv (.tmp 83), none⟩] [2, 4, 7, 9, 11, 12, 13]))))))
 (.seq (.reg [
     ⟨(some 108), .load 2 true (.tmp 11), none⟩,
     ⟨(some 109), .mv (.tmp 12), none⟩,
     ⟨none, .store 2 (.tmp 4) (.tmp 108), none⟩,
     ⟨(some 5), .mv (.tmp 109), none⟩,
     ⟨(some 6), .mv (.const (.int .i64 0)), none⟩] [4, 5, 6])
 (.ret))))))))))))
theorem s_spec_RestCover : stripF Try.prog 36 [[1, 2, 4], [1, 2, 4, 15], [4, 5, 6], [1, 2, 4, 23], [4, 5, 6], [1, 2, 4, 7], [1, 2, 4, 7, 8], [1, 2, 4, 7, 8], [1, 2, 4, 7, 8, 29], [1, 2, 4, 7, 8, 41], [4, 5, 6], [1, 2, 4, 7, 8, 1000010], [1, 2, 4, 7, 8], [2, 4, 7, 9], [2, 4, 7, 9, 10], [2, 4, 7, 9, 10], [2, 4, 7, 9, 10, 58], [2, 4, 7, 9, 10, 64], [2, 4, 7, 9, 10], [2, 4, 7, 9, 10], [2, 4, 7, 9, 71], [4, 5, 6], [2, 4, 7, 9, 11], [2, 4, 7, 9, 11, 12], [2, 4, 7, 9, 11, 12, 13], [2, 4, 7, 9, 11, 12, 13], [2, 4, 7, 9, 11, 12, 13, 81], [2, 4, 7, 9, 11, 12, 13, 91], [2, 4, 7, 9, 11, 12, 13], [2, 4, 7, 9, 11, 12, 13], [2, 4, 7, 9, 11, 12, 13], [4, 5, 6]] = some (c_spec_RestCover, [.cell 4 2, .tmp 5, .tmp 6], 110) := by kernel_rfl


abbrev tyCov : Nat := 29
theorem FunPost.cell3 {H0 : List Blk} {R : AV → List Blk → Prop} {E : Env} {H : List Blk} {t c u s : Nat} {cs : List AV} (hc : acells H c (aget E t) = some cs) (h : GR H0 R (.tup [.agg cs, aget E u, aget E s]) H) : FunPost [.cell t c, .tmp u, .tmp s] H0 R .ret E H := ⟨_, by simp [rvsAV, rvAV, hc], h⟩

theorem specRest_fn (n : Int) (xss : List (List Int)) (cols : List Int) (hx : ∀ xs ∈ xss, ∀ x ∈ xs, (Lit.int .i64 x).wf = true) (hc : ∀ x ∈ cols, (Lit.int .i64 x).wf = true) :
    PFn Try.prog f_spec_RestCover [.agg [I n, ilSS xss], ilS cols] (.tup [.agg [I (rcV n xss cols).1.1, ilSS (rcV n xss cols).1.2], ilS (rcV n xss cols).2.1, I (rcV n xss cols).2.2]) := by
  intro H
  have hv := fun (p : Nat) H h => l24Ok_ok H p 0 n xss hx h
  have hr := fun (k : Int) => l00Rises_fn cols 0 k hc
  by_cases hcv : coverOk n xss = true
  · have hc2 := hcv
    simp only [coverOk, Bool.and_eq_true, decide_eq_true_eq] at hc2
    rw [hcv] at hv
    have hn1 := hc2.1.1
    have hxl := hc2.1.2
    unfold rcV
    rw [hcv]
    cases hcl : asc 0 ((xss.length : Int) - 1) cols
    · refine ACalls.introB s_spec_RestCover (by simp) ?_; intro hB hA; unfold c_spec_RestCover; simp (config := { maxSteps := 1000000 }) (disch := (first | omega | (simp only [go_sem]; try omega))) only [go_sem, Nat.reduceAdd, Nat.reduceEqDiff, Nat.reduceLeDiff, Nat.reduceMul, Nat.reduceLT, reduceIte, Int.reduceToNat, w64_id, cast_succ]
      repeat (first | (with_reducible first | refine SW.seq ?_ | refine SW.block ?_ | refine SW.rowC ?_ | refine SW.skip ?_ | refine SW.exit ?_ | intro _ | refine And.intro (by omega) ?_) | simp (config := { maxSteps := 1000000 }) (disch := (first | omega | (simp only [go_sem]; try omega))) only [go_sem, Nat.reduceAdd, Nat.reduceEqDiff, Nat.reduceLeDiff, Nat.reduceMul, Nat.reduceLT, reduceIte, Int.reduceToNat, w64_id, cast_succ])
      refine ACalls.fn (hv _ _ (by simp)) ?_
      repeat (first | (with_reducible first | refine SW.seq ?_ | refine SW.block ?_ | refine SW.rowC ?_ | refine SW.skip ?_ | refine SW.exit ?_ | intro _ | refine And.intro (by omega) ?_) | simp (config := { maxSteps := 1000000 }) (disch := (first | omega | (simp only [go_sem]; try omega))) only [go_sem, Nat.reduceAdd, Nat.reduceEqDiff, Nat.reduceLeDiff, Nat.reduceMul, Nat.reduceLT, reduceIte, Int.reduceToNat, w64_id, cast_succ])
      refine SW.condF rfl ?_
      repeat (first | (with_reducible first | refine SW.seq ?_ | refine SW.block ?_ | refine SW.rowC ?_ | refine SW.skip ?_ | refine SW.exit ?_ | refine PFn.use (hr _) ?_ | refine PFn.useq (hr _) ?_ | intro _ | refine And.intro (by omega) ?_) | simp (config := { maxSteps := 1000000 }) (disch := (first | omega | (simp only [go_sem]; try omega))) only [go_sem, Nat.reduceAdd, Nat.reduceEqDiff, Nat.reduceLeDiff, Nat.reduceMul, Nat.reduceLT, reduceIte, Int.reduceToNat, w64_id, cast_succ, hcl])
      refine SW.condT rfl ?_
      repeat (first | (with_reducible first | refine SW.seq ?_ | refine SW.block ?_ | refine SW.rowC ?_ | refine SW.skip ?_ | refine SW.exit ?_ | intro _ | refine And.intro (by omega) ?_) | simp (config := { maxSteps := 1000000 }) (disch := (first | omega | (simp only [go_sem]; try omega))) only [go_sem, Nat.reduceAdd, Nat.reduceEqDiff, Nat.reduceLeDiff, Nat.reduceMul, Nat.reduceLT, reduceIte, Int.reduceToNat, w64_id, cast_succ])
      refine SW.ret ?_
      refine FunPost.cell3 (cs := [I 0, nilS]) (by simp (config := { maxSteps := 1000000 }) (disch := (first | omega | (simp only [go_sem]; try omega))) only [go_sem, Nat.reduceAdd, Nat.reduceEqDiff, Nat.reduceLeDiff, Nat.reduceMul, Nat.reduceLT, reduceIte, Int.reduceToNat, w64_id, cast_succ]) ?_
      refine GR.froz (froz_tup3 (froz_agg2 (froz_I' _) .nil) .nil (froz_I' _)) ⟨rfl, rfl⟩
    · have hcm := asc_gtA hcl
      have hxa := hc2.2
      rw [List.all_eq_true] at hxa
      have hrow : ∀ xs ∈ xss, asc 0 (n - 1) xs = true := fun xs h => by have := hxa xs h; simp only [Bool.and_eq_true] at this; exact this.2
      obtain ⟨n, rfl⟩ := Int.eq_ofNat_of_zero_le (show 0 ≤ n by omega)
      rw [show ((n : Int)).toNat = n from rfl]
      simp only [Bool.not_true, Bool.false_eq_true, if_false]
      generalize hW : (if ¬(itemsOf xss cols).Nodup ∨ leftL n (itemsOf xss cols) = [] then (((0 : Int), ([] : List (List Int))), ([] : List Int), (6 : Int)) else (((↑(leftL n (itemsOf xss cols)).length : Int), optsI xss (itemsOf xss cols)), keptI xss (itemsOf xss cols), 0)) = W
      refine ACalls.introB s_spec_RestCover (by simp) ?_; intro hB hA; unfold c_spec_RestCover; simp (config := { maxSteps := 1000000 }) (disch := (first | omega | (simp only [go_sem]; try omega))) only [go_sem, Nat.reduceAdd, Nat.reduceEqDiff, Nat.reduceLeDiff, Nat.reduceMul, Nat.reduceLT, reduceIte, Int.reduceToNat, w64_id, cast_succ]
      repeat (first | (with_reducible first | refine SW.seq ?_ | refine SW.block ?_ | refine SW.rowC ?_ | refine SW.skip ?_ | refine SW.exit ?_ | intro _ | refine And.intro (by omega) ?_) | simp (config := { maxSteps := 1000000 }) (disch := (first | omega | (simp only [go_sem]; try omega))) only [go_sem, Nat.reduceAdd, Nat.reduceEqDiff, Nat.reduceLeDiff, Nat.reduceMul, Nat.reduceLT, reduceIte, Int.reduceToNat, w64_id, cast_succ])
      refine ACalls.fn (hv _ _ (by simp)) ?_
      repeat (first | (with_reducible first | refine SW.seq ?_ | refine SW.block ?_ | refine SW.rowC ?_ | refine SW.skip ?_ | refine SW.exit ?_ | intro _ | refine And.intro (by omega) ?_) | simp (config := { maxSteps := 1000000 }) (disch := (first | omega | (simp only [go_sem]; try omega))) only [go_sem, Nat.reduceAdd, Nat.reduceEqDiff, Nat.reduceLeDiff, Nat.reduceMul, Nat.reduceLT, reduceIte, Int.reduceToNat, w64_id, cast_succ])
      refine SW.condF rfl ?_
      repeat (first | (with_reducible first | refine SW.seq ?_ | refine SW.block ?_ | refine SW.rowC ?_ | refine SW.skip ?_ | refine SW.exit ?_ | refine PFn.use (hr _) ?_ | refine PFn.useq (hr _) ?_ | intro _ | refine And.intro (by omega) ?_) | simp (config := { maxSteps := 1000000 }) (disch := (first | omega | (simp only [go_sem]; try omega))) only [go_sem, Nat.reduceAdd, Nat.reduceEqDiff, Nat.reduceLeDiff, Nat.reduceMul, Nat.reduceLT, reduceIte, Int.reduceToNat, w64_id, cast_succ, hcl])
      refine SW.condF rfl ?_
      repeat (first | (with_reducible first | refine SW.seq ?_ | refine SW.block ?_ | refine SW.rowC ?_ | refine SW.skip ?_ | refine SW.exit ?_ | intro _ | refine And.intro (by omega) ?_) | simp (config := { maxSteps := 1000000 }) (disch := (first | omega | (simp only [go_sem]; try omega))) only [go_sem, Nat.reduceAdd, Nat.reduceEqDiff, Nat.reduceLeDiff, Nat.reduceMul, Nat.reduceLT, reduceIte, Int.reduceToNat, w64_id, cast_succ])
      refine SW.loopE (fun E0 H0 q E' H' => ∃ (pre post D : List Int), cols = pre ++ post ∧ q = post.length ∧ E' = aput (aput E0 8 (I pre.length)) 7 (.nm (H.length + 2) 0 0 D.length) ∧ H' = H ++ [⟨0, tyCov, 1, [I n, ilSS xss]⟩, ⟨0, tyCov, 1, [I 0, nilS]⟩, ⟨0, 2, 1, D.map I⟩] ∧ (∀ y, y ∈ D ↔ y ∈ itemsOf xss pre) ∧ (itemsOf xss pre).Nodup ∧ D.length ≤ 64 * pre.length) cols.length ⟨[], cols, [], rfl, rfl, rfl, rfl, by simp [itemsOf], by simp [itemsOf], by simp⟩ ?_
      rintro q E' H' ⟨pre, post, D, hp, rfl, rfl, rfl, hD, hnd, hDl⟩
      simp (config := { maxSteps := 1000000 }) (disch := (first | omega | (simp only [go_sem]; try omega))) only [go_sem, Nat.reduceAdd, Nat.reduceEqDiff, Nat.reduceLeDiff, Nat.reduceMul, Nat.reduceLT, reduceIte, Int.reduceToNat, w64_id, cast_succ]
      repeat (first | (with_reducible first | refine SW.seq ?_ | refine SW.block ?_ | refine SW.rowC ?_ | refine SW.skip ?_ | refine SW.exit ?_ | intro _ | refine And.intro (by omega) ?_) | simp (config := { maxSteps := 1000000 }) (disch := (first | omega | (simp only [go_sem]; try omega))) only [go_sem, Nat.reduceAdd, Nat.reduceEqDiff, Nat.reduceLeDiff, Nat.reduceMul, Nat.reduceLT, reduceIte, Int.reduceToNat, w64_id, cast_succ])
      (first | refine SW.condD rfl (fun h => ?_) (fun h => ?_) | refine SW.condN rfl (fun h => ?_) (fun h => ?_) | refine SW.condNB rfl (fun h => ?_) (fun h => ?_) | refine SW.condB rfl (fun h => ?_) (fun h => ?_))
      · obtain ⟨k, post, rfl, hg, -⟩ := consOf (d := 0) hp (by omega)
        have hk := hcm k (by rw [hp]; simp)
        have hki : k.toNat < xss.length := by omega
        generalize hset : xss.getD k.toNat [] = set at *
        have hsm : set ∈ xss := by rw [← hset, List.getD_eq_getElem?_getD, List.getElem?_eq_getElem hki]; exact List.getElem_mem _
        have hsa := hrow set hsm
        have hit : itemsOf xss (pre ++ [k]) = itemsOf xss pre ++ set := by rw [itemsOf_snoc, hset]
        have hcon := contains_congr hD
        repeat (first | (with_reducible first | refine SW.seq ?_ | refine SW.block ?_ | refine SW.rowC ?_ | refine SW.skip ?_ | refine SW.exit ?_ | intro _ | refine And.intro (by omega) ?_) | simp (config := { maxSteps := 1000000 }) (disch := (first | omega | (simp only [go_sem]; try omega))) only [go_sem, Nat.reduceAdd, Nat.reduceEqDiff, Nat.reduceLeDiff, Nat.reduceMul, Nat.reduceLT, reduceIte, Int.reduceToNat, w64_id, cast_succ, hg, hset])
        have hdf : ∀ a b : Blk, Froz (H ++ [a, b, ⟨0, 2, 1, D.map I⟩]) 0 (.nm (H.length + 2) 0 0 D.length) (ilS D) := fun a b => froz_rowI (r := H.length + 2) (ver := 0) (ty := 2) (Nat.zero_le _) (by simp)
        refine PFn.uselq (l24Meets_fn set D) (.cons (froz_ilS set) (.cons (hdf _ _) .nil)) ?_
        simp only [hcon]
        repeat (first | (with_reducible first | refine SW.seq ?_ | refine SW.block ?_ | refine SW.rowC ?_ | refine SW.skip ?_ | refine SW.exit ?_ | intro _ | refine And.intro (by omega) ?_) | simp (config := { maxSteps := 1000000 }) (disch := (first | omega | (simp only [go_sem]; try omega))) only [go_sem, Nat.reduceAdd, Nat.reduceEqDiff, Nat.reduceLeDiff, Nat.reduceMul, Nat.reduceLT, reduceIte, Int.reduceToNat, w64_id, cast_succ])
        (first | refine SW.condD rfl (fun h2 => ?_) (fun h2 => ?_) | refine SW.condN rfl (fun h2 => ?_) (fun h2 => ?_) | refine SW.condNB rfl (fun h2 => ?_) (fun h2 => ?_) | refine SW.condB rfl (fun h2 => ?_) (fun h2 => ?_))
        · repeat (first | (with_reducible first | refine SW.seq ?_ | refine SW.block ?_ | refine SW.rowC ?_ | refine SW.skip ?_ | refine SW.exit ?_ | intro _ | refine And.intro (by omega) ?_) | simp (config := { maxSteps := 1000000 }) (disch := (first | omega | (simp only [go_sem]; try omega))) only [go_sem, Nat.reduceAdd, Nat.reduceEqDiff, Nat.reduceLeDiff, Nat.reduceMul, Nat.reduceLT, reduceIte, Int.reduceToNat, w64_id, cast_succ])
          refine SW.ret ?_
          refine FunPost.cell3 (cs := [I 0, nilS]) (by simp (config := { maxSteps := 1000000 }) (disch := (first | omega | (simp only [go_sem]; try omega))) only [go_sem, Nat.reduceAdd, Nat.reduceEqDiff, Nat.reduceLeDiff, Nat.reduceMul, Nat.reduceLT, reduceIte, Int.reduceToNat, w64_id, cast_succ]) ?_
          have hnn : ¬ (itemsOf xss cols).Nodup := by
            rw [hp, itemsOf_mid, hset]
            intro h3
            have h4 := (List.nodup_append.1 h3).1
            rw [List.any_eq_true] at h2
            obtain ⟨x, hx1, hx2⟩ := h2
            exact (List.nodup_append.1 h4).2.2 x (by simpa using hx2) x hx1 rfl
          rw [if_pos (.inl hnn)] at hW
          subst hW
          refine GR.froz (froz_tup3 (froz_agg2 (froz_I' _) .nil) .nil (froz_I' _)) ⟨rfl, rfl⟩
        · have hpl : pre.length ≤ 256 := by
            have h5 := asc_len hcl
            have h6 : pre.length < cols.length := by rw [hp]; simp
            rcases h5 with h5 | h5
            · rw [h5] at h6; simp at h6
            · omega
          have hsl : set.length ≤ 64 := by
            rcases asc_len hsa with h5 | h5
            · rw [h5]; simp
            · omega
          repeat (first | (with_reducible first | refine SW.seq ?_ | refine SW.block ?_ | refine SW.rowC ?_ | refine SW.skip ?_ | refine SW.exit ?_ | intro _ | refine And.intro (by omega) ?_) | simp (config := { maxSteps := 1000000 }) (disch := (first | omega | (simp only [go_sem]; try omega))) only [go_sem, Nat.reduceAdd, Nat.reduceEqDiff, Nat.reduceLeDiff, Nat.reduceMul, Nat.reduceLT, reduceIte, Int.reduceToNat, w64_id, cast_succ, hg, hset])
          refine (l24Sorted_new _ _ (D ++ set) ?_ (by simp; omega)).mono ?_
          · rw [show D.length + set.length = (D ++ set).length by simp]
            exact view_nm (show (H ++ _)[H.length + 2]? = some ⟨1, 2, 1, (D ++ set).map I⟩ by simp) (by simp)
          rintro r H1 ⟨rfl, rfl⟩
          have hDs : ∀ y, y ∈ sortL (D ++ set) ↔ y ∈ itemsOf xss (pre ++ [k]) := by
            intro y
            rw [sortL_mem, hit, List.mem_append, List.mem_append, hD]
          have hnd2 : (itemsOf xss (pre ++ [k])).Nodup := by
            rw [hit, List.nodup_append]
            refine ⟨hnd, asc_nodupA hsa, ?_⟩
            rintro a ha b hb rfl
            rw [List.any_eq_false] at h2
            exact h2 a hb (by simpa using ha)
          have hl2 : (sortL (D ++ set)).length ≤ 64 * (pre ++ [k]).length := by
            have := sortL_len (D ++ set)
            simp at this ⊢; omega
          generalize sortL (D ++ set) = D2 at *
          repeat (first | (with_reducible first | refine SW.seq ?_ | refine SW.block ?_ | refine SW.rowC ?_ | refine SW.skip ?_ | refine SW.exit ?_ | intro _ | refine And.intro (by omega) ?_) | simp (config := { maxSteps := 1000000 }) (disch := (first | omega | (simp only [go_sem]; try omega))) only [go_sem, Nat.reduceAdd, Nat.reduceEqDiff, Nat.reduceLeDiff, Nat.reduceMul, Nat.reduceLT, reduceIte, Int.reduceToNat, w64_id, cast_succ])
          have hB2 : HB (H ++ [(⟨0, tyCov, 1, [I n, ilSS xss]⟩ : Blk), ⟨0, tyCov, 1, [I 0, nilS]⟩]) := hB.app (k := H.length) (by (simp only [go_sem, Nat.reduceAdd, Nat.reduceEqDiff, reduceIte, go_sem, and_self, and_true, true_and, implies_true, List.take_succ_cons, List.take_zero, and_true, true_and]; try omega)) (by simp)
          have e : ∀ a b : Blk, H ++ [(⟨0, tyCov, 1, [I n, ilSS xss]⟩ : Blk), ⟨0, tyCov, 1, [I 0, nilS]⟩, a, b] = (H ++ [(⟨0, tyCov, 1, [I n, ilSS xss]⟩ : Blk), ⟨0, tyCov, 1, [I 0, nilS]⟩]) ++ [a, b] := fun a b => by simp
          rw [e]
          refine SLoop.nextF (i := H.length + 3) (ver := 0) (xs := D2) post.length [(1, ilS cols), (2, .pc H.length 0 0), (4, .pc (H.length + 1) 0 0), (7, .nm (H.length + 2) 0 0 D2.length), (8, I ((pre.length : Int) + 1))] hB2 (by simp) (by simp) (by simp) (by simp) ?_ ⟨pre ++ [k], post, D2, by simp [hp], rfl, by simp [go_sem], by simp, hDs, hnd2, hl2⟩
          simp only [go_sem, Nat.reduceEqDiff, reduceIte]
          refine .cons _ (ren_ilS _) (.cons _ (.old _ ?_) (.cons _ (.old _ ?_) (.cons _ ?_ (.cons _ (ren_I _) .nil))))
          · simp [go_sem]
          · simp [go_sem]
          · have := Ren.nm (H := (H ++ [(⟨0, tyCov, 1, [I n, ilSS xss]⟩ : Blk), ⟨0, tyCov, 1, [I 0, nilS]⟩]) ++ [⟨1, 2, 1, D.map I ++ set.map I⟩, ⟨0, 2, 1, D2.map I⟩]) (k := (H ++ [(⟨0, tyCov, 1, [I n, ilSS xss]⟩ : Blk), ⟨0, tyCov, 1, [I 0, nilS]⟩]).length) (js := [some (H.length + 3)]) 0 (H.length + 3) 0 0 D2.length ⟨0, 2, 1, D2.map I⟩ rfl (by simp) rfl
            simpa using this
      · obtain ⟨rfl, rfl⟩ := nilOf hp (by omega)
        rw [← leftL_congr hD, ← keptI_congr hD, ← optsI_congr hD] at hW
        repeat (first | (with_reducible first | refine SW.seq ?_ | refine SW.block ?_ | refine SW.rowC ?_ | refine SW.skip ?_ | refine SW.exit ?_ | intro _ | refine And.intro (by omega) ?_) | simp (config := { maxSteps := 1000000 }) (disch := (first | omega | (simp only [go_sem]; try omega))) only [go_sem, Nat.reduceAdd, Nat.reduceEqDiff, Nat.reduceLeDiff, Nat.reduceMul, Nat.reduceLT, reduceIte, Int.reduceToNat, w64_id, cast_succ])
        refine SW.loopE (fun E0 H0 q E' H' => ∃ i ver : Nat, i ≤ n ∧ q = n - i ∧ E' = aput (aput E0 10 (I i)) 9 (.nm (H.length + 3) ver 0 (leftL i D).length) ∧ H' = H ++ [⟨0, tyCov, 1, [I n, ilSS xss]⟩, ⟨0, tyCov, 1, [I 0, nilS]⟩, ⟨0, 2, 1, D.map I⟩, ⟨ver, 2, 1, (leftL i D).map I⟩]) n ⟨0, 0, by omega, by omega, rfl, rfl⟩ ?_
        rintro q E' H' ⟨i, ver, hi, rfl, rfl, rfl⟩
        have hll := leftL_len i D
        have hls := leftL_succ i D
        generalize hL : leftL i D = L at *
        simp (config := { maxSteps := 1000000 }) (disch := (first | omega | (simp only [go_sem]; try omega))) only [go_sem, Nat.reduceAdd, Nat.reduceEqDiff, Nat.reduceLeDiff, Nat.reduceMul, Nat.reduceLT, reduceIte, Int.reduceToNat, w64_id, cast_succ]
        repeat (first | (with_reducible first | refine SW.seq ?_ | refine SW.block ?_ | refine SW.rowC ?_ | refine SW.skip ?_ | refine SW.exit ?_ | intro _ | refine And.intro (by omega) ?_) | simp (config := { maxSteps := 1000000 }) (disch := (first | omega | (simp only [go_sem]; try omega))) only [go_sem, Nat.reduceAdd, Nat.reduceEqDiff, Nat.reduceLeDiff, Nat.reduceMul, Nat.reduceLT, reduceIte, Int.reduceToNat, w64_id, cast_succ])
        (first | refine SW.condD rfl (fun h3 => ?_) (fun h3 => ?_) | refine SW.condN rfl (fun h3 => ?_) (fun h3 => ?_) | refine SW.condNB rfl (fun h3 => ?_) (fun h3 => ?_) | refine SW.condB rfl (fun h3 => ?_) (fun h3 => ?_))
        · repeat (first | (with_reducible first | refine SW.seq ?_ | refine SW.block ?_ | refine SW.rowC ?_ | refine SW.skip ?_ | refine SW.exit ?_ | intro _ | refine And.intro (by omega) ?_) | simp (config := { maxSteps := 1000000 }) (disch := (first | omega | (simp only [go_sem]; try omega))) only [go_sem, Nat.reduceAdd, Nat.reduceEqDiff, Nat.reduceLeDiff, Nat.reduceMul, Nat.reduceLT, reduceIte, Int.reduceToNat, w64_id, cast_succ])
          have hdf : ∀ a b c : Blk, Froz (H ++ [a, b, ⟨0, 2, 1, D.map I⟩, c]) 0 (.nm (H.length + 2) 0 0 D.length) (ilS D) := fun a b c => froz_rowI (r := H.length + 2) (ver := 0) (ty := 2) (Nat.zero_le _) (by simp)
          refine PFn.usel (l00Has_fn D i) (.cons (hdf _ _ _) (.cons (froz_I' _) .nil)) ?_
          repeat (first | (with_reducible first | refine SW.seq ?_ | refine SW.block ?_ | refine SW.rowC ?_ | refine SW.skip ?_ | refine SW.exit ?_ | intro _ | refine And.intro (by omega) ?_) | simp (config := { maxSteps := 1000000 }) (disch := (first | omega | (simp only [go_sem]; try omega))) only [go_sem, Nat.reduceAdd, Nat.reduceEqDiff, Nat.reduceLeDiff, Nat.reduceMul, Nat.reduceLT, reduceIte, Int.reduceToNat, w64_id, cast_succ])
          cases hc9 : D.contains (i : Int)
          · rw [hc9] at hls
            repeat (first | (with_reducible first | refine SW.seq ?_ | refine SW.block ?_ | refine SW.rowC ?_ | refine SW.skip ?_ | refine SW.exit ?_ | intro _ | refine And.intro (by omega) ?_) | simp (config := { maxSteps := 1000000 }) (disch := (first | omega | (simp only [go_sem]; try omega))) only [go_sem, Nat.reduceAdd, Nat.reduceEqDiff, Nat.reduceLeDiff, Nat.reduceMul, Nat.reduceLT, reduceIte, Int.reduceToNat, w64_id, cast_succ, hc9])
            refine SW.condT rfl ?_
            repeat (first | (with_reducible first | refine SW.seq ?_ | refine SW.block ?_ | refine SW.rowC ?_ | refine SW.skip ?_ | refine SW.exit ?_ | intro _ | refine And.intro (by omega) ?_) | simp (config := { maxSteps := 1000000 }) (disch := (first | omega | (simp only [go_sem]; try omega))) only [go_sem, Nat.reduceAdd, Nat.reduceEqDiff, Nat.reduceLeDiff, Nat.reduceMul, Nat.reduceLT, reduceIte, Int.reduceToNat, w64_id, cast_succ])
            refine SLoop.nextT 4 (n - (i + 1)) hB (by omega) (by omega) (by simp) ?_ ?_ ⟨i + 1, ver + 1, by omega, rfl, ?_, ?_⟩
            · (simp only [go_sem, Nat.reduceAdd, Nat.reduceEqDiff, reduceIte, go_sem, and_self, and_true, true_and, implies_true, List.take_succ_cons, List.take_zero, and_true, true_and]; try omega)
            · (simp only [go_sem, Nat.reduceAdd, Nat.reduceEqDiff, reduceIte, go_sem, and_self, and_true, true_and, implies_true, List.take_succ_cons, List.take_zero, and_true, true_and]; try omega)
            · rw [hls]; simp [go_sem]
            · rw [hls]; simp
          · rw [hc9] at hls
            repeat (first | (with_reducible first | refine SW.seq ?_ | refine SW.block ?_ | refine SW.rowC ?_ | refine SW.skip ?_ | refine SW.exit ?_ | intro _ | refine And.intro (by omega) ?_) | simp (config := { maxSteps := 1000000 }) (disch := (first | omega | (simp only [go_sem]; try omega))) only [go_sem, Nat.reduceAdd, Nat.reduceEqDiff, Nat.reduceLeDiff, Nat.reduceMul, Nat.reduceLT, reduceIte, Int.reduceToNat, w64_id, cast_succ, hc9])
            refine SW.condF rfl ?_
            repeat (first | (with_reducible first | refine SW.seq ?_ | refine SW.block ?_ | refine SW.rowC ?_ | refine SW.skip ?_ | refine SW.exit ?_ | intro _ | refine And.intro (by omega) ?_) | simp (config := { maxSteps := 1000000 }) (disch := (first | omega | (simp only [go_sem]; try omega))) only [go_sem, Nat.reduceAdd, Nat.reduceEqDiff, Nat.reduceLeDiff, Nat.reduceMul, Nat.reduceLT, reduceIte, Int.reduceToNat, w64_id, cast_succ])
            refine SLoop.next (n - (i + 1)) (by omega) ⟨i + 1, ver, by omega, rfl, ?_, ?_⟩
            · rw [hls]; simp [go_sem]
            · rw [hls]; simp
        · have : i = n := by omega
          subst this
          repeat (first | (with_reducible first | refine SW.seq ?_ | refine SW.block ?_ | refine SW.rowC ?_ | refine SW.skip ?_ | refine SW.exit ?_ | intro _ | refine And.intro (by omega) ?_) | simp (config := { maxSteps := 1000000 }) (disch := (first | omega | (simp only [go_sem]; try omega))) only [go_sem, Nat.reduceAdd, Nat.reduceEqDiff, Nat.reduceLeDiff, Nat.reduceMul, Nat.reduceLT, reduceIte, Int.reduceToNat, w64_id, cast_succ])
          have hnd0 : ¬ ¬ (itemsOf xss pre).Nodup := fun h => h hnd
          rw [hL] at hW
          (first | refine SW.condD rfl (fun h4 => ?_) (fun h4 => ?_) | refine SW.condN rfl (fun h4 => ?_) (fun h4 => ?_) | refine SW.condNB rfl (fun h4 => ?_) (fun h4 => ?_) | refine SW.condB rfl (fun h4 => ?_) (fun h4 => ?_))
          · have hL0 : L = [] := List.eq_nil_of_length_eq_zero (by omega)
            rw [if_pos (.inr hL0)] at hW
            subst hW
            repeat (first | (with_reducible first | refine SW.seq ?_ | refine SW.block ?_ | refine SW.rowC ?_ | refine SW.skip ?_ | refine SW.exit ?_ | intro _ | refine And.intro (by omega) ?_) | simp (config := { maxSteps := 1000000 }) (disch := (first | omega | (simp only [go_sem]; try omega))) only [go_sem, Nat.reduceAdd, Nat.reduceEqDiff, Nat.reduceLeDiff, Nat.reduceMul, Nat.reduceLT, reduceIte, Int.reduceToNat, w64_id, cast_succ])
            refine SW.ret ?_
            refine FunPost.cell3 (cs := [I 0, nilS]) (by simp (config := { maxSteps := 1000000 }) (disch := (first | omega | (simp only [go_sem]; try omega))) only [go_sem, Nat.reduceAdd, Nat.reduceEqDiff, Nat.reduceLeDiff, Nat.reduceMul, Nat.reduceLT, reduceIte, Int.reduceToNat, w64_id, cast_succ]) ?_
            refine GR.froz (froz_tup3 (froz_agg2 (froz_I' _) .nil) .nil (froz_I' _)) ⟨rfl, rfl⟩
          · have hL0 : ¬ L = [] := fun h => by rw [h] at h4; simp at h4
            rw [if_neg (by rintro (h | h); exact hnd0 h; exact hL0 h)] at hW
            subst hW
            repeat (first | (with_reducible first | refine SW.seq ?_ | refine SW.block ?_ | refine SW.rowC ?_ | refine SW.skip ?_ | refine SW.exit ?_ | intro _ | refine And.intro (by omega) ?_) | simp (config := { maxSteps := 1000000 }) (disch := (first | omega | (simp only [go_sem]; try omega))) only [go_sem, Nat.reduceAdd, Nat.reduceEqDiff, Nat.reduceLeDiff, Nat.reduceMul, Nat.reduceLT, reduceIte, Int.reduceToNat, w64_id, cast_succ])
            refine SW.loopE (fun E0 H0 q E' H' => ∃ (p1 p2 : List (List Int)) (kv : Nat) (v : AV) (ext : List Blk), xss = p1 ++ p2 ∧ q = p2.length ∧ E' = aput (aput E0 13 (I p1.length)) 12 (.nm (H.length + 5) kv 0 (keptI p1 D).length) ∧
              H' = H ++ (⟨0, tyCov, 1, [I i, ilSS xss]⟩ :: ⟨0, tyCov, 1, [I 0, nilS]⟩ :: ⟨0, 2, 1, D.map I⟩ :: ⟨ver, 2, 1, L.map I⟩ :: ⟨0, tyCov, 1, [I L.length, v]⟩ :: ⟨kv, 2, 1, (keptI p1 D).map I⟩ :: ext) ∧
              ((v = nilS ∧ optsI p1 D = []) ∨ ∃ t tv, v = .nm (H.length + (t + 6)) tv 0 (optsI p1 D).length ∧ ext[t]? = some ⟨tv, 26, 1, (optsI p1 D).map ilS⟩)) xss.length ⟨[], xss, 0, nilS, [], rfl, rfl, rfl, rfl, .inl ⟨rfl, rfl⟩⟩ ?_
            rintro q E' H' ⟨p1, p2, kv, v, ext, hp1, rfl, rfl, rfl, hv1⟩
            have hkl := keptI_len p1 D
            have hol := optsI_len p1 D
            have hks := fun x => keptI_snoc p1 x D
            have hos := fun x => optsI_snoc p1 x D
            have hpl1 : p1.length ≤ 256 := by rw [hp1] at hxl; simp at hxl; omega
            generalize hK : keptI p1 D = K at *
            generalize hO : optsI p1 D = O at *
            simp (config := { maxSteps := 1000000 }) (disch := (first | omega | (simp only [go_sem]; try omega))) only [go_sem, Nat.reduceAdd, Nat.reduceEqDiff, Nat.reduceLeDiff, Nat.reduceMul, Nat.reduceLT, reduceIte, Int.reduceToNat, w64_id, cast_succ]
            repeat (first | (with_reducible first | refine SW.seq ?_ | refine SW.block ?_ | refine SW.rowC ?_ | refine SW.skip ?_ | refine SW.exit ?_ | intro _ | refine And.intro (by omega) ?_) | simp (config := { maxSteps := 1000000 }) (disch := (first | omega | (simp only [go_sem]; try omega))) only [go_sem, Nat.reduceAdd, Nat.reduceEqDiff, Nat.reduceLeDiff, Nat.reduceMul, Nat.reduceLT, reduceIte, Int.reduceToNat, w64_id, cast_succ])
            (first | refine SW.condD rfl (fun h6 => ?_) (fun h6 => ?_) | refine SW.condN rfl (fun h6 => ?_) (fun h6 => ?_) | refine SW.condNB rfl (fun h6 => ?_) (fun h6 => ?_) | refine SW.condB rfl (fun h6 => ?_) (fun h6 => ?_))
            · obtain ⟨x, p2, rfl, hg, -⟩ := consOf (d := []) hp1 (by omega)
              have hxa := hrow x (by rw [hp1]; simp)
              repeat (first | (with_reducible first | refine SW.seq ?_ | refine SW.block ?_ | refine SW.rowC ?_ | refine SW.skip ?_ | refine SW.exit ?_ | intro _ | refine And.intro (by omega) ?_) | simp (config := { maxSteps := 1000000 }) (disch := (first | omega | (simp only [go_sem]; try omega))) only [go_sem, Nat.reduceAdd, Nat.reduceEqDiff, Nat.reduceLeDiff, Nat.reduceMul, Nat.reduceLT, reduceIte, Int.reduceToNat, w64_id, cast_succ, hg])
              have hdf : ∀ (a b : Blk) (r : List Blk), Froz (H ++ a :: b :: ⟨0, 2, 1, D.map I⟩ :: r) 0 (.nm (H.length + 2) 0 0 D.length) (ilS D) := fun a b r => froz_rowI (r := H.length + 2) (ver := 0) (ty := 2) (Nat.zero_le _) (by simp)
              refine PFn.usel (l24Meets_fn x D) (.cons (froz_ilS x) (.cons (hdf _ _ _) .nil)) ?_
              repeat (first | (with_reducible first | refine SW.seq ?_ | refine SW.block ?_ | refine SW.rowC ?_ | refine SW.skip ?_ | refine SW.exit ?_ | intro _ | refine And.intro (by omega) ?_) | simp (config := { maxSteps := 1000000 }) (disch := (first | omega | (simp only [go_sem]; try omega))) only [go_sem, Nat.reduceAdd, Nat.reduceEqDiff, Nat.reduceLeDiff, Nat.reduceMul, Nat.reduceLT, reduceIte, Int.reduceToNat, w64_id, cast_succ])
              cases hm : (x.any fun y => D.contains y)
              · have hk1 := hks x
                have ho1 := hos x
                rw [if_neg (fun h => by rw [hm] at h; cases h)] at hk1 ho1
                repeat (first | (with_reducible first | refine SW.seq ?_ | refine SW.block ?_ | refine SW.rowC ?_ | refine SW.skip ?_ | refine SW.exit ?_ | intro _ | refine And.intro (by omega) ?_) | simp (config := { maxSteps := 1000000 }) (disch := (first | omega | (simp only [go_sem]; try omega))) only [go_sem, Nat.reduceAdd, Nat.reduceEqDiff, Nat.reduceLeDiff, Nat.reduceMul, Nat.reduceLT, reduceIte, Int.reduceToNat, w64_id, cast_succ, hm])
                refine SW.condT rfl ?_
                repeat (first | (with_reducible first | refine SW.seq ?_ | refine SW.block ?_ | refine SW.rowC ?_ | refine SW.skip ?_ | refine SW.exit ?_ | intro _ | refine And.intro (by omega) ?_) | simp (config := { maxSteps := 1000000 }) (disch := (first | omega | (simp only [go_sem]; try omega))) only [go_sem, Nat.reduceAdd, Nat.reduceEqDiff, Nat.reduceLeDiff, Nat.reduceMul, Nat.reduceLT, reduceIte, Int.reduceToNat, w64_id, cast_succ, hg])
                have hrl : ∀ (a b c : Blk) (r : List Blk), RdS (H ++ a :: b :: c :: ⟨ver, 2, 1, L.map I⟩ :: r) (.nm (H.length + 3) ver 0 L.length) L := fun a b c r => view_nm (show (H ++ _)[H.length + 3]? = some ⟨ver, 2, 1, L.map I⟩ by simp) (by simp)
                refine QcallW.of (fun e2 => l10Places_q (_ ++ e2) _ x L ((hrl _ _ _ _).append e2) (by omega)) ?_
                have hpa : placesL x L = x.map fun y => (cntL D y.toNat : Int) := by rw [← hL]; exact places_all x D i hxa hm
                rw [hpa]
                rcases hv1 with ⟨rfl, rfl⟩ | ⟨t, tv, rfl, h8⟩
                · repeat (first | (with_reducible first | refine SW.seq ?_ | refine SW.block ?_ | refine SW.rowC ?_ | refine SW.skip ?_ | refine SW.exit ?_ | intro _ | refine And.intro (by omega) ?_) | simp (config := { maxSteps := 1000000 }) (disch := (first | omega | (simp only [go_sem]; try omega))) only [go_sem, Nat.reduceAdd, Nat.reduceEqDiff, Nat.reduceLeDiff, Nat.reduceMul, Nat.reduceLT, reduceIte, Int.reduceToNat, w64_id, cast_succ, hg])
                  refine SLoop.next p2.length (by simp) ⟨p1 ++ [x], p2, kv + 1, .nm (H.length + (ext.length + 7)) 1 0 1, _, by simp [hp1], rfl, by rw [hk1]; simp [go_sem], by rw [hk1], .inr ⟨ext.length + 1, 1, by rw [ho1]; rfl, by rw [ho1]; simp⟩⟩
                · have htl : t < ext.length := (List.getElem?_eq_some_iff.1 h8).1
                  have h9 : ∀ (a b c d e f z : Blk), (H ++ a :: b :: c :: d :: e :: f :: (ext ++ [z]))[H.length + (t + 6)]? = some ⟨tv, 26, 1, O.map ilS⟩ := fun a b c d e f z => by
                    rw [hget]
                    show (ext ++ [z])[t]? = _
                    rw [List.getElem?_append_left htl]; exact h8
                  have h10 : ∀ (a b c d e f z y : Blk), (H ++ a :: b :: c :: d :: e :: f :: (ext ++ [z])).set (H.length + (t + 6)) y = H ++ a :: b :: c :: d :: e :: f :: ((ext.set t y) ++ [z]) := fun a b c d e f z y => by
                    rw [List.set_append_right _ _ (by omega), Nat.add_sub_cancel_left]
                    show H ++ a :: b :: c :: d :: e :: f :: ((ext ++ [z]).set t y) = _
                    rw [List.set_append_left _ _ htl]
                  repeat (first | (with_reducible first | refine SW.seq ?_ | refine SW.block ?_ | refine SW.rowC ?_ | refine SW.skip ?_ | refine SW.exit ?_ | intro _ | refine And.intro (by omega) ?_) | simp (config := { maxSteps := 1000000 }) (disch := (first | omega | (simp only [go_sem]; try omega))) only [go_sem, Nat.reduceAdd, Nat.reduceEqDiff, Nat.reduceLeDiff, Nat.reduceMul, Nat.reduceLT, reduceIte, Int.reduceToNat, w64_id, cast_succ, hg, h8, h9, h10])
                  have h11 : ∀ (y z a : Blk), (ext.set t y ++ [z, a])[ext.length + 1]? = some a := fun y z a => by rw [List.getElem?_append_right (by simp), List.length_set]; simp
                  repeat (first | (with_reducible first | refine SW.seq ?_ | refine SW.block ?_ | refine SW.rowC ?_ | refine SW.skip ?_ | refine SW.exit ?_ | intro _ | refine And.intro (by omega) ?_) | simp (config := { maxSteps := 1000000 }) (disch := (first | omega | (simp only [go_sem]; try omega))) only [go_sem, Nat.reduceAdd, Nat.reduceEqDiff, Nat.reduceLeDiff, Nat.reduceMul, Nat.reduceLT, reduceIte, Int.reduceToNat, w64_id, cast_succ, hg, h11])
                  refine SLoop.next p2.length (by simp) ⟨p1 ++ [x], p2, kv + 1, .nm (H.length + (t + 6)) (tv + 1) 0 (O.length + 1), _, by simp [hp1], rfl, by rw [hk1]; simp [go_sem], by rw [hk1], .inr ⟨t, tv + 1, by rw [ho1]; simp, by rw [ho1, List.getElem?_append_left (by simp; exact htl)]; simp [htl]⟩⟩
              · have hk1 := hks x
                have ho1 := hos x
                rw [if_pos hm, List.append_nil] at hk1 ho1
                repeat (first | (with_reducible first | refine SW.seq ?_ | refine SW.block ?_ | refine SW.rowC ?_ | refine SW.skip ?_ | refine SW.exit ?_ | intro _ | refine And.intro (by omega) ?_) | simp (config := { maxSteps := 1000000 }) (disch := (first | omega | (simp only [go_sem]; try omega))) only [go_sem, Nat.reduceAdd, Nat.reduceEqDiff, Nat.reduceLeDiff, Nat.reduceMul, Nat.reduceLT, reduceIte, Int.reduceToNat, w64_id, cast_succ, hm])
                refine SW.condF rfl ?_
                repeat (first | (with_reducible first | refine SW.seq ?_ | refine SW.block ?_ | refine SW.rowC ?_ | refine SW.skip ?_ | refine SW.exit ?_ | intro _ | refine And.intro (by omega) ?_) | simp (config := { maxSteps := 1000000 }) (disch := (first | omega | (simp only [go_sem]; try omega))) only [go_sem, Nat.reduceAdd, Nat.reduceEqDiff, Nat.reduceLeDiff, Nat.reduceMul, Nat.reduceLT, reduceIte, Int.reduceToNat, w64_id, cast_succ])
                refine SLoop.next p2.length (by simp) ⟨p1 ++ [x], p2, kv, v, ext, by simp [hp1], rfl, ?_, by rw [hk1], by rw [ho1]; exact hv1⟩
                rw [hk1]; simp [go_sem]
            · obtain ⟨rfl, rfl⟩ := nilOf hp1 (by omega)
              have hvc : v.cell1 = true := by rcases hv1 with ⟨rfl, _⟩ | ⟨t, tv, rfl, _⟩ <;> rfl
              repeat (first | (with_reducible first | refine SW.seq ?_ | refine SW.block ?_ | refine SW.rowC ?_ | refine SW.skip ?_ | refine SW.exit ?_ | intro _ | refine And.intro (by omega) ?_) | simp (config := { maxSteps := 1000000 }) (disch := (first | omega | (simp only [go_sem]; try omega))) only [go_sem, Nat.reduceAdd, Nat.reduceEqDiff, Nat.reduceLeDiff, Nat.reduceMul, Nat.reduceLT, reduceIte, Int.reduceToNat, w64_id, cast_succ, hvc])
              refine SW.ret ?_
              refine FunPost.cell3 (cs := [I L.length, v]) (by simp (config := { maxSteps := 1000000 }) (disch := (first | omega | (simp only [go_sem]; try omega))) only [go_sem, Nat.reduceAdd, Nat.reduceEqDiff, Nat.reduceLeDiff, Nat.reduceMul, Nat.reduceLT, reduceIte, Int.reduceToNat, w64_id, cast_succ]) ?_
              rw [hK, hO]
              refine GR.froz (r' := .tup [.agg [I L.length, ilSS O], ilS K, I 0]) (froz_tup3 (froz_agg2 (froz_I' _) ?_) (froz_rowI (r := H.length + 5) (ver := kv) (ty := 2) (by omega) (by simp)) (froz_I' _)) ⟨rfl, rfl⟩
              rcases hv1 with ⟨rfl, rfl⟩ | ⟨t, tv, rfl, h8⟩
              · exact .nil
              · exact froz_rowS (r := H.length + (t + 6)) (ver := tv) (ty := 26) (by omega) (by rw [hget]; simpa using h8)
  · rw [Bool.not_eq_true] at hcv
    rw [hcv] at hv
    unfold rcV
    rw [hcv]
    refine ACalls.introB s_spec_RestCover (by simp) ?_; intro hB hA; unfold c_spec_RestCover; simp (config := { maxSteps := 1000000 }) (disch := (first | omega | (simp only [go_sem]; try omega))) only [go_sem, Nat.reduceAdd, Nat.reduceEqDiff, Nat.reduceLeDiff, Nat.reduceMul, Nat.reduceLT, reduceIte, Int.reduceToNat, w64_id, cast_succ]
    repeat (first | (with_reducible first | refine SW.seq ?_ | refine SW.block ?_ | refine SW.rowC ?_ | refine SW.skip ?_ | refine SW.exit ?_ | intro _ | refine And.intro (by omega) ?_) | simp (config := { maxSteps := 1000000 }) (disch := (first | omega | (simp only [go_sem]; try omega))) only [go_sem, Nat.reduceAdd, Nat.reduceEqDiff, Nat.reduceLeDiff, Nat.reduceMul, Nat.reduceLT, reduceIte, Int.reduceToNat, w64_id, cast_succ])
    refine ACalls.fn (hv _ _ (by simp)) ?_
    repeat (first | (with_reducible first | refine SW.seq ?_ | refine SW.block ?_ | refine SW.rowC ?_ | refine SW.skip ?_ | refine SW.exit ?_ | intro _ | refine And.intro (by omega) ?_) | simp (config := { maxSteps := 1000000 }) (disch := (first | omega | (simp only [go_sem]; try omega))) only [go_sem, Nat.reduceAdd, Nat.reduceEqDiff, Nat.reduceLeDiff, Nat.reduceMul, Nat.reduceLT, reduceIte, Int.reduceToNat, w64_id, cast_succ])
    refine SW.condT rfl ?_
    repeat (first | (with_reducible first | refine SW.seq ?_ | refine SW.block ?_ | refine SW.rowC ?_ | refine SW.skip ?_ | refine SW.exit ?_ | intro _ | refine And.intro (by omega) ?_) | simp (config := { maxSteps := 1000000 }) (disch := (first | omega | (simp only [go_sem]; try omega))) only [go_sem, Nat.reduceAdd, Nat.reduceEqDiff, Nat.reduceLeDiff, Nat.reduceMul, Nat.reduceLT, reduceIte, Int.reduceToNat, w64_id, cast_succ])
    refine SW.ret ?_
    refine FunPost.cell3 (cs := [I 0, nilS]) (by simp (config := { maxSteps := 1000000 }) (disch := (first | omega | (simp only [go_sem]; try omega))) only [go_sem, Nat.reduceAdd, Nat.reduceEqDiff, Nat.reduceLeDiff, Nat.reduceMul, Nat.reduceLT, reduceIte, Int.reduceToNat, w64_id, cast_succ]) ?_
    refine GR.froz (froz_tup3 (froz_agg2 (froz_I' _) .nil) .nil (froz_I' _)) ⟨rfl, rfl⟩
end Go.Proofs.Ytkpohapopokahaa
