/- Covering arrays: the law. -/
import Derived.Test.YthogadbnddmkdaaProg
import Derived.KernelRfl
import Derived.Test.YthogadbnddmkdaazTR
import Derived.Test.YthogadbnddmkdaazDR
import Derived.Test.YthogadbnddmkdaazSB
set_option linter.unusedSimpArgs false
set_option linter.unusedVariables false
set_option maxHeartbeats 4000000
set_option maxRecDepth 100000
namespace Go.Proofs.Ythogadbnddmkdaa
open Go.Av
abbrev f_laws_FnCovering : Nat := 5
def c_laws_FnCovering : SC :=
 .seq (.reg [
     ⟨(some 4), .mv (.const (.bool false)), none⟩] [0, 1])
 (.seq (.seq (.reg [
     ⟨(some 12), .mv (.tmp 0), none⟩,
     ⟨(some 13), .call 16 [(.tmp 12)], none⟩,
     ⟨(some 14), .mv (.tmp 13), none⟩,
     ⟨(some 15), .mv (.tmp 1), (some (14, false))⟩,
     ⟨(some 16), .call 16 [(.tmp 15)], (some (14, false))⟩,
     ⟨(some 17), .pick (.tmp 14) (.const (.bool true)) (.tmp 16), none⟩] [0, 1, 17])
 (.cond (.tmp 17)
  (.seq (.reg [
      ⟨(some 4), .mv (.const (.bool true)), none⟩] [4])
  (.ret))
  (.skip)))
 (.seq (.reg [
     ⟨(some 19), .mv (.tmp 0), none⟩,
     ⟨(some 20), .call 17 [(.tmp 19)], none⟩,
     ⟨(some 18), .mv (.tmp 20), none⟩,
     ⟨(some 21), .ext (.tmp 18) 0, none⟩,
     ⟨(some 22), .ext (.tmp 18) 1, none⟩,
     ⟨(some 5), .mv (.tmp 21), none⟩,
     ⟨(some 6), .mv (.tmp 22), none⟩] [1, 5, 6])
 (.seq (.reg [
     ⟨(some 24), .mv (.tmp 5), none⟩,
     ⟨(some 25), .mv (.tmp 6), none⟩,
     ⟨(some 26), .call 12 [(.tmp 24), (.tmp 25)], none⟩,
     ⟨(some 23), .mv (.tmp 26), none⟩,
     ⟨(some 27), .ext (.tmp 23) 0, none⟩,
     ⟨(some 28), .ext (.tmp 23) 1, none⟩,
     ⟨(some 7), .alloc 27 [(.int .i64 0), (.int .i64 0), (.slice none 0 0)], none⟩,
     ⟨none, .store 3 (.tmp 7) (.tmp 27), none⟩,
     ⟨(some 8), .mv (.tmp 28), none⟩] [1, 5, 6, 7, 8])
 (.seq (.seq (.reg [
     ⟨(some 29), .mv (.tmp 8), none⟩,
     ⟨(some 30), .bin .neq (.tmp 29) (.const (.int .i64 0)), none⟩] [1, 5, 6, 7, 8, 30])
 (.cond (.tmp 30)
  (.seq (.reg [
      ⟨(some 31), .mv (.tmp 8), none⟩,
      ⟨(some 32), .bin .eql (.tmp 31) (.const (.int .i64 5)), none⟩,
      ⟨(some 33), .mv (.tmp 32), none⟩,
      ⟨(some 34), .mv (.tmp 5), (some (33, false))⟩,
      ⟨(some 35), .bin .lss (.tmp 34) (.const (.int .i64 2)), (some (33, false))⟩,
      ⟨(some 36), .pick (.tmp 33) (.const (.bool true)) (.tmp 35), none⟩,
      ⟨(some 37), .mv (.tmp 36), none⟩,
      ⟨(some 38), .mv (.tmp 5), (some (37, false))⟩,
      ⟨(some 39), .bin .gtr (.tmp 38) (.const (.int .i64 16)), (some (37, false))⟩,
      ⟨(some 40), .pick (.tmp 37) (.const (.bool true)) (.tmp 39), none⟩,
      ⟨(some 41), .mv (.tmp 40), none⟩,
      ⟨(some 42), .mv (.tmp 6), (some (41, false))⟩,
      ⟨(some 43), .bin .lss (.tmp 42) (.const (.int .i64 2)), (some (41, false))⟩,
      ⟨(some 44), .pick (.tmp 41) (.const (.bool true)) (.tmp 43), none⟩,
      ⟨(some 45), .mv (.tmp 44), none⟩,
      ⟨(some 46), .mv (.tmp 6), (some (45, false))⟩,
      ⟨(some 47), .bin .gtr (.tmp 46) (.const (.int .i64 8)), (some (45, false))⟩,
      ⟨(some 48), .pick (.tmp 45) (.const (.bool true)) (.tmp 47), none⟩,
      ⟨(some 4), .mv (.tmp 48), none⟩] [4])
  (.ret))
  (.skip)))
 (.seq (.seq (.reg [
     ⟨(some 49), .load 3 true (.tmp 7), none⟩,
     ⟨(some 50), .call 18 [(.tmp 49)], none⟩,
     ⟨(some 51), .un .not (.tmp 50), none⟩,
     ⟨(some 52), .mv (.tmp 51), none⟩,
     ⟨(some 53), .faddr 0 (.tmp 7), (some (52, false))⟩,
     ⟨(some 54), .load 1 false (.tmp 53), (some (52, false))⟩,
     ⟨(some 55), .mv (.tmp 5), (some (52, false))⟩,
     ⟨(some 56), .bin .neq (.tmp 54) (.tmp 55), (some (52, false))⟩,
     ⟨(some 57), .pick (.tmp 52) (.const (.bool true)) (.tmp 56), none⟩,
     ⟨(some 58), .mv (.tmp 57), none⟩,
     ⟨(some 59), .faddr 1 (.tmp 7), (some (58, false))⟩,
     ⟨(some 60), .load 1 false (.tmp 59), (some (58, false))⟩,
     ⟨(some 61), .mv (.tmp 6), (some (58, false))⟩,
     ⟨(some 62), .bin .neq (.tmp 60) (.tmp 61), (some (58, false))⟩,
     ⟨(some 63), .pick (.tmp 58) (.const (.bool true)) (.tmp 62), none⟩,
     ⟨(some 64), .mv (.tmp 63), none⟩,
     ⟨(some 65), .load 3 true (.tmp 7), (some (64, false))⟩,
     ⟨(some 66), .call 19 [(.tmp 65)], (some (64, false))⟩,
     ⟨(some 67), .bin .neq (.tmp 66) (.const (.int .i64 0)), (some (64, false))⟩,
     ⟨(some 68), .pick (.tmp 64) (.const (.bool true)) (.tmp 67), none⟩,
     ⟨(some 69), .mv (.tmp 68), none⟩,
     ⟨(some 70), .faddr 2 (.tmp 7), (some (69, false))⟩,
     ⟨(some 71), .load 1 false (.tmp 70), (some (69, false))⟩,
     ⟨(some 72), .len (.tmp 71), (some (69, false))⟩,
     ⟨(some 73), .mv (.tmp 5), (some (69, false))⟩,
     ⟨(some 74), .mv (.tmp 5), (some (69, false))⟩,
     ⟨(some 75), .bin .mul (.tmp 73) (.tmp 74), (some (69, false))⟩,
     ⟨(some 76), .bin .lss (.tmp 72) (.tmp 75), (some (69, false))⟩,
     ⟨(some 77), .pick (.tmp 69) (.const (.bool true)) (.tmp 76), none⟩] [1, 5, 6, 7, 77])
 (.cond (.tmp 77)
  (.seq (.reg [
      ⟨(some 4), .mv (.const (.bool false)), none⟩] [4])
  (.ret))
  (.skip)))
 (.seq (.reg [
     ⟨(some 78), .mv (.tmp 1), none⟩,
     ⟨(some 79), .faddr 2 (.tmp 7), none⟩,
     ⟨(some 80), .load 1 false (.tmp 79), none⟩,
     ⟨(some 81), .len (.tmp 80), none⟩,
     ⟨(some 82), .call 20 [(.tmp 78), (.const (.int .i64 0)), (.tmp 81)], none⟩,
     ⟨(some 9), .mv (.tmp 82), none⟩] [5, 6, 7, 9])
 (.seq (.reg [
     ⟨(some 83), .mv (.tmp 5), none⟩,
     ⟨(some 84), .mv (.tmp 6), none⟩,
     ⟨(some 85), .build [(.int .i64 0), (.int .i64 0), (.slice none 0 0)] [(0, 1, (.tmp 83)), (1, 1, (.tmp 84))], none⟩,
     ⟨(some 10), .alloc 27 [(.int .i64 0), (.int .i64 0), (.slice none 0 0)], none⟩,
     ⟨none, .store 3 (.tmp 10) (.tmp 85), none⟩] [5, 6, 7, 9, 10])
 (.seq (.seq (.reg [
     ⟨(some 11), .mv (.const (.int .i64 0)), none⟩] [5, 6, 7, 9, 10, 11])
 (.block 0 (.loop [5, 6, 7, 9, 10, 11]
   (.seq (.seq (.reg [
       ⟨(some 86), .mv (.tmp 11), none⟩,
       ⟨(some 87), .faddr 2 (.tmp 7), none⟩,
       ⟨(some 88), .load 1 false (.tmp 87), none⟩,
       ⟨(some 89), .len (.tmp 88), none⟩,
       ⟨(some 90), .bin .lss (.tmp 86) (.tmp 89), none⟩] [5, 6, 7, 9, 10, 11, 90])
   (.cond (.tmp 90)
    (.skip)
    (.exit 0)))
   (.seq (.block 1 (.seq (.reg [
        ⟨(some 93), .mv (.tmp 11), none⟩,
        ⟨(some 94), .mv (.tmp 9), none⟩,
        ⟨(some 95), .bin .neq (.tmp 93) (.tmp 94), none⟩] [5, 6, 7, 9, 10, 11, 95])
    (.cond (.tmp 95)
     (.reg [
         ⟨(some 96), .faddr 2 (.tmp 10), none⟩,
         ⟨(some 97), .load 1 false (.tmp 96), none⟩,
         ⟨(some 98), .faddr 2 (.tmp 7), none⟩,
         ⟨(some 99), .load 1 false (.tmp 98), none⟩,
         ⟨(some 100), .mv (.tmp 11), none⟩,
         ⟨(some 101), .iaddr 1 (.tmp 99) (.tmp 100), none⟩,
         ⟨(some 102), .load 1 false (.tmp 101), none⟩,
         ⟨(some 103), .bslice 39 1 1 [(.slice none 0 0)] [(0, (.tmp 102))], none⟩,
         ⟨(some 104), .app 39 1 24 (.tmp 97) (.tmp 103), none⟩,
         ⟨(some 105), .faddr 2 (.tmp 10), none⟩,
         ⟨none, .store 1 (.tmp 105) (.tmp 104), none⟩] [5, 6, 7, 9, 10, 11])
     (.skip))))
   (.reg [
       ⟨(some 91), .mv (.tmp 11), none⟩,
       ⟨(some 92), .bin .add (.tmp 91) (.const (.int .i64 1)), none⟩,
       ⟨(some 11), .mv (.tmp 92), none⟩] [5, 6, 7, 9, 10, 11]))))))
 (.seq (.reg [
     ⟨(some 106), .load 3 true (.tmp 10), none⟩,
     ⟨(some 107), .call 19 [(.tmp 106)], none⟩,
     ⟨(some 108), .mv (.tmp 6), none⟩,
     ⟨(some 109), .mv (.tmp 6), none⟩,
     ⟨(some 110), .bin .sub (.tmp 109) (.const (.int .i64 1)), none⟩,
     ⟨(some 111), .bin .mul (.tmp 108) (.tmp 110), none⟩,
     ⟨(some 112), .bin .quo (.tmp 111) (.const (.int .i64 2)), none⟩,
     ⟨(some 113), .bin .leq (.tmp 107) (.tmp 112), none⟩,
     ⟨(some 114), .mv (.tmp 113), none⟩,
     ⟨(some 115), .faddr 2 (.tmp 7), (some (114, true))⟩,
     ⟨(some 116), .load 1 false (.tmp 115), (some (114, true))⟩,
     ⟨(some 117), .len (.tmp 116), (some (114, true))⟩,
     ⟨(some 118), .mv (.tmp 5), (some (114, true))⟩,
     ⟨(some 119), .mv (.tmp 5), (some (114, true))⟩,
     ⟨(some 120), .bin .mul (.tmp 118) (.tmp 119), (some (114, true))⟩,
     ⟨(some 121), .bin .gtr (.tmp 117) (.tmp 120), (some (114, true))⟩,
     ⟨(some 122), .mv (.tmp 121), (some (114, true))⟩,
     ⟨(some 123), .load 3 true (.tmp 10), (some (122, false))⟩,
     ⟨(some 124), .call 19 [(.tmp 123)], (some (122, false))⟩,
     ⟨(some 125), .bin .gtr (.tmp 124) (.const (.int .i64 0)), (some (122, false))⟩,
     ⟨(some 126), .pick (.tmp 122) (.const (.bool true)) (.tmp 125), (some (114, true))⟩,
     ⟨(some 127), .pick (.tmp 114) (.tmp 126) (.const (.bool false)), none⟩,
     ⟨(some 4), .mv (.tmp 127), none⟩] [4])
 (.ret))))))))))
theorem s_laws_FnCovering : stripF Try.prog 5 [[0, 1], [0, 1, 17], [4], [1, 5, 6], [1, 5, 6, 7, 8], [1, 5, 6, 7, 8, 30], [4], [1, 5, 6, 7, 77], [4], [5, 6, 7, 9], [5, 6, 7, 9, 10], [5, 6, 7, 9, 10, 11], [5, 6, 7, 9, 10, 11], [5, 6, 7, 9, 10, 11, 90], [5, 6, 7, 9, 10, 11, 95], [5, 6, 7, 9, 10, 11], [5, 6, 7, 9, 10, 11], [4]] = some (c_laws_FnCovering, [.tmp 4], 128) := by kernel_rfl
abbrev f_spec_DrawCoverPairs : Nat := 17
def c_spec_DrawCoverPairs : SC :=
 .seq (.reg [
     ⟨(some 2), .mv (.const (.int .i64 0)), none⟩,
     ⟨(some 3), .mv (.const (.int .i64 0)), none⟩] [0])
 (.seq (.reg [
     ⟨(some 6), .mv (.tmp 0), none⟩,
     ⟨(some 7), .call 53 [(.tmp 6)], none⟩,
     ⟨(some 4), .mv (.tmp 7), none⟩] [4])
 (.seq (.reg [
     ⟨(some 8), .mv (.tmp 4), none⟩,
     ⟨(some 9), .call 54 [(.tmp 8), (.const (.int .i64 7))], none⟩,
     ⟨(some 10), .bin .add (.tmp 9) (.const (.int .i64 1)), none⟩,
     ⟨(some 5), .mv (.tmp 10), none⟩] [4, 5])
 (.seq (.seq (.reg [
     ⟨(some 11), .mv (.tmp 4), none⟩,
     ⟨(some 12), .call 55 [(.tmp 11), (.const (.int .i64 6))], none⟩] [4, 5, 12])
 (.cond (.tmp 12)
  (.reg [
      ⟨(some 13), .mv (.tmp 4), none⟩,
      ⟨(some 14), .bslice 2 1 6 [(.int .i64 0), (.int .i64 0), (.int .i64 0), (.int .i64 0), (.int .i64 0), (.int .i64 0)] [(0, (.const (.int .i64 8))), (1, (.const (.int .i64 12))), (2, (.const (.int .i64 15))), (3, (.const (.int .i64 16))), (4, (.const (.int .i64 17))), (5, (.const (.int .i64 0)))], none⟩,
      ⟨(some 15), .call 56 [(.tmp 13), (.tmp 14)], none⟩,
      ⟨(some 5), .mv (.tmp 15), none⟩] [4, 5])
  (.skip)))
 (.seq (.reg [
     ⟨(some 16), .mv (.tmp 5), none⟩,
     ⟨(some 17), .mv (.tmp 4), none⟩,
     ⟨(some 18), .call 54 [(.tmp 17), (.const (.int .i64 10))], none⟩,
     ⟨(some 2), .mv (.tmp 16), none⟩,
     ⟨(some 3), .mv (.tmp 18), none⟩] [2, 3])
 (.ret)))))
theorem s_spec_DrawCoverPairs : stripF Try.prog 17 [[0], [4], [4, 5], [4, 5, 12], [4, 5], [2, 3]] = some (c_spec_DrawCoverPairs, [.tmp 2, .tmp 3], 19) := by kernel_rfl
theorem DrawCover_ok (H : List Blk) (ns : List Int) (hz : ∀ z ∈ ns, 0 ≤ z ∧ z < 256) (hl : ns.length ≤ 2000000) :
    ACalls Try.prog f_spec_DrawCoverPairs [ilY ns] H (fun r H' => H' = H ∧ ∃ (l c : Int), r = .tup [I l, I c]) := by
  have hbn := fun k => Bel_ilY k ns
  refine ACalls.introB s_spec_DrawCoverPairs (by simp) ?_; intro hB hA; unfold c_spec_DrawCoverPairs; simp (config := { maxSteps := 1000000 }) (disch := (first | omega | (simp only [go_sem]; try omega))) only [go_sem, Nat.reduceAdd, Nat.reduceEqDiff, Nat.reduceLeDiff, Nat.reduceMul, Nat.reduceLT, reduceIte, Int.reduceToNat, w64_id, cast_succ]
  repeat (first | (with_reducible first | refine SW.seq ?_ | refine SW.block ?_ | refine SW.rowC ?_ | refine SW.skip ?_ | refine SW.exit ?_ | intro _ | refine And.intro (by omega) ?_) | simp (config := { maxSteps := 1000000 }) (disch := (first | omega | (simp only [go_sem]; try omega))) only [go_sem, Nat.reduceAdd, Nat.reduceEqDiff, Nat.reduceLeDiff, Nat.reduceMul, Nat.reduceLT, reduceIte, Int.reduceToNat, w64_id, cast_succ])
  refine (l00From_ok H ns).mono ?_
  rintro r H1 ⟨rfl, rfl⟩
  have hsr : ∀ t u t' u' (ext : List Blk), (H ++ (srcB (ilY ns) t u :: ext)).set H.length (srcB (ilY ns) t' u') = H ++ (srcB (ilY ns) t' u' :: ext) := fun t u t' u' ext => by
    rw [List.set_append_right _ _ (Nat.le_refl _), Nat.sub_self]; rfl
  have hg : ∀ t u (ext : List Blk), (H ++ (srcB (ilY ns) t u :: ext))[H.length]? = some (srcB (ilY ns) t u) := fun t u ext => by
    rw [List.getElem?_append_right (Nat.le_refl _), Nat.sub_self]; rfl
  repeat (first | (with_reducible first | refine SW.seq ?_ | refine SW.block ?_ | refine SW.rowC ?_ | refine SW.skip ?_ | refine SW.exit ?_ | intro _ | refine And.intro (by omega) ?_) | simp (config := { maxSteps := 1000000 }) (disch := (first | omega | (simp only [go_sem]; try omega))) only [go_sem, Nat.reduceAdd, Nat.reduceEqDiff, Nat.reduceLeDiff, Nat.reduceMul, Nat.reduceLT, reduceIte, Int.reduceToNat, w64_id, cast_succ])
  refine (pick_ok _ H.length (ilY ns) ns 0 0 7 (hg _ _ _) (codeOk_ilY hz hl) (by omega)).mono ?_
  rintro r H1 ⟨x1, u1, t1, rfl, a1, b1, ht1, rfl⟩
  rw [hsr]
  repeat (first | (with_reducible first | refine SW.seq ?_ | refine SW.block ?_ | refine SW.rowC ?_ | refine SW.skip ?_ | refine SW.exit ?_ | intro _ | refine And.intro (by omega) ?_) | simp (config := { maxSteps := 1000000 }) (disch := (first | omega | (simp only [go_sem]; try omega))) only [go_sem, Nat.reduceAdd, Nat.reduceEqDiff, Nat.reduceLeDiff, Nat.reduceMul, Nat.reduceLT, reduceIte, Int.reduceToNat, w64_id, cast_succ])
  refine (one_ok _ H.length (ilY ns) ns t1 u1 6 (hg _ _ _) (codeOk_ilY hz hl) (by omega)).mono ?_
  rintro r H1 ⟨b, u2, t2, rfl, ht2, rfl⟩
  rw [hsr]
  have fin : ∀ (l c : Int) (t u) (ext : List Blk), GR H (fun r H' => H' = H ∧ ∃ (l c : Int), r = .tup [I l, I c]) (.tup [I l, I c]) (H ++ (srcB (ilY ns) t u :: ext)) := fun l c t u ext => GR.froz (froz_tup2 (froz_I' _) (froz_I' _)) ⟨rfl, l, c, rfl⟩
  repeat (first | (with_reducible first | refine SW.seq ?_ | refine SW.block ?_ | refine SW.rowC ?_ | refine SW.skip ?_ | refine SW.exit ?_ | intro _ | refine And.intro (by omega) ?_) | simp (config := { maxSteps := 1000000 }) (disch := (first | omega | (simp only [go_sem]; try omega))) only [go_sem, Nat.reduceAdd, Nat.reduceEqDiff, Nat.reduceLeDiff, Nat.reduceMul, Nat.reduceLT, reduceIte, Int.reduceToNat, w64_id, cast_succ])
  cases b
  · refine SW.condF rfl ?_
    repeat (first | (with_reducible first | refine SW.seq ?_ | refine SW.block ?_ | refine SW.rowC ?_ | refine SW.skip ?_ | refine SW.exit ?_ | intro _ | refine And.intro (by omega) ?_) | simp (config := { maxSteps := 1000000 }) (disch := (first | omega | (simp only [go_sem]; try omega))) only [go_sem, Nat.reduceAdd, Nat.reduceEqDiff, Nat.reduceLeDiff, Nat.reduceMul, Nat.reduceLT, reduceIte, Int.reduceToNat, w64_id, cast_succ])
    refine (pick_ok _ H.length (ilY ns) ns t2 u2 10 (hg _ _ _) (codeOk_ilY hz hl) (by omega)).mono ?_
    rintro r H1 ⟨x3, u3, t3, rfl, a3, b3, ht3, rfl⟩
    rw [hsr]
    repeat (first | (with_reducible first | refine SW.seq ?_ | refine SW.block ?_ | refine SW.rowC ?_ | refine SW.skip ?_ | refine SW.exit ?_ | intro _ | refine And.intro (by omega) ?_) | simp (config := { maxSteps := 1000000 }) (disch := (first | omega | (simp only [go_sem]; try omega))) only [go_sem, Nat.reduceAdd, Nat.reduceEqDiff, Nat.reduceLeDiff, Nat.reduceMul, Nat.reduceLT, reduceIte, Int.reduceToNat, w64_id, cast_succ])
    refine SW.ret ?_; (try simp only [go_sem]); (first | refine FunPost.one ?_ | refine FunPost.two ?_ | refine FunPost.three ?_); (try simp (config := { maxSteps := 1000000 }) (disch := (first | omega | (simp only [go_sem]; try omega))) only [go_sem, Nat.reduceAdd, Nat.reduceEqDiff, Nat.reduceLeDiff, Nat.reduceMul, Nat.reduceLT, reduceIte, Int.reduceToNat, w64_id, cast_succ])
    exact fin _ _ _ _ _
  · refine SW.condT rfl ?_
    repeat (first | (with_reducible first | refine SW.seq ?_ | refine SW.block ?_ | refine SW.rowC ?_ | refine SW.skip ?_ | refine SW.exit ?_ | intro _ | refine And.intro (by omega) ?_) | simp (config := { maxSteps := 1000000 }) (disch := (first | omega | (simp only [go_sem]; try omega))) only [go_sem, Nat.reduceAdd, Nat.reduceEqDiff, Nat.reduceLeDiff, Nat.reduceMul, Nat.reduceLT, reduceIte, Int.reduceToNat, w64_id, cast_succ])
    have ham : ∀ t u, aview ((H ++ [srcB (ilY ns) t2 u2, (⟨0, 2, 1, [I 8, I 12, I 15, I 16, I 17, I 0]⟩ : Blk)]).set H.length (srcB (ilY ns) t u)) (.nm (H.length + 1) 0 0 6) = some ([(8 : Int), 12, 15, 16, 17, 0].length, [(8 : Int), 12, 15, 16, 17, 0].map I) := fun t u => by
      rw [hsr]
      refine view_nm (ty := 2) ?_ rfl
      rw [List.getElem?_append_right (by omega), Nat.add_sub_cancel_left]; rfl
    refine (among_ok _ H.length (ilY ns) ns t2 u2 _ [8, 12, 15, 16, 17, 0] (hg _ _ _) (codeOk_ilY hz hl) (by omega) ham (by simp)).mono ?_
    rintro r H1 ⟨x6, u6, t6, rfl, hx6, ht6, rfl⟩
    rw [hsr]
    repeat (first | (with_reducible first | refine SW.seq ?_ | refine SW.block ?_ | refine SW.rowC ?_ | refine SW.skip ?_ | refine SW.exit ?_ | intro _ | refine And.intro (by omega) ?_) | simp (config := { maxSteps := 1000000 }) (disch := (first | omega | (simp only [go_sem]; try omega))) only [go_sem, Nat.reduceAdd, Nat.reduceEqDiff, Nat.reduceLeDiff, Nat.reduceMul, Nat.reduceLT, reduceIte, Int.reduceToNat, w64_id, cast_succ])
    refine (pick_ok _ H.length (ilY ns) ns t6 u6 10 (hg _ _ _) (codeOk_ilY hz hl) (by omega)).mono ?_
    rintro r H1 ⟨x3, u3, t3, rfl, a3, b3, ht3, rfl⟩
    rw [hsr]
    repeat (first | (with_reducible first | refine SW.seq ?_ | refine SW.block ?_ | refine SW.rowC ?_ | refine SW.skip ?_ | refine SW.exit ?_ | intro _ | refine And.intro (by omega) ?_) | simp (config := { maxSteps := 1000000 }) (disch := (first | omega | (simp only [go_sem]; try omega))) only [go_sem, Nat.reduceAdd, Nat.reduceEqDiff, Nat.reduceLeDiff, Nat.reduceMul, Nat.reduceLT, reduceIte, Int.reduceToNat, w64_id, cast_succ])
    refine SW.ret ?_; (try simp only [go_sem]); (first | refine FunPost.one ?_ | refine FunPost.two ?_ | refine FunPost.three ?_); (try simp (config := { maxSteps := 1000000 }) (disch := (first | omega | (simp only [go_sem]; try omega))) only [go_sem, Nat.reduceAdd, Nat.reduceEqDiff, Nat.reduceLeDiff, Nat.reduceMul, Nat.reduceLT, reduceIte, Int.reduceToNat, w64_id, cast_succ])
    exact fin _ _ _ _ _
theorem FArr.pfn {P : Program} {f : FuncId} {args : List AV} {L C : Int} {rows : List (List Int)} {code : Int} (h : FArr P f args L C rows code) : PFn P f args (.tup [.agg [I L, I C, ilSS rows], I code]) := by
  intro H
  refine (h H).gr ?_
  rintro r H' ⟨ext, u, rfl, rfl, ho⟩
  exact GR.froz (froz_tup2 (froz_agg3 (froz_I' _) (froz_I' _) (ho.froz (fun i hi => hi.1))) (froz_I' _)) ⟨rfl, rfl⟩
def bR (R : List (List Int)) (a i : Nat) : List (List Int) := if i ≤ a then R.take i else R.take a ++ (R.drop (a + 1)).take (i - (a + 1))
theorem bR_skip {R : List (List Int)} {a : Nat} : bR R a (a + 1) = bR R a a := by
  unfold bR
  rw [if_neg (by omega), if_pos (Nat.le_refl _), Nat.sub_self]; simp
theorem bR_next {R : List (List Int)} {a i : Nat} (hi : i < R.length) (hne : i ≠ a) : bR R a (i + 1) = bR R a i ++ [R.getD i []] := by
  unfold bR
  by_cases h : i < a
  · rw [if_pos (by omega), if_pos (by omega), List.take_succ_eq_append_getElem hi, List.getElem_eq_getD []]
  · rw [if_neg (by omega), if_neg (by omega), show i + 1 - (a + 1) = i - (a + 1) + 1 by omega, List.take_succ_eq_append_getElem (by simp; omega), List.append_assoc]
    congr 2
    rw [List.getElem_drop, List.getElem_eq_getD []]
    congr 2; omega
theorem bR_all {R : List (List Int)} {a : Nat} (ha : a < R.length) : ∀ r ∈ R, r = R.getD a [] ∨ r ∈ bR R a R.length := fun r hr => by
  unfold bR
  rw [if_neg (by omega), List.take_of_length_le (l := R.drop (a + 1)) (by simp)]
  have hs : R = R.take a ++ R[a] :: R.drop (a + 1) := by rw [← List.drop_eq_getElem_cons ha, List.take_append_drop]
  rw [hs] at hr
  rcases List.mem_append.1 hr with h | h
  · exact .inr (List.mem_append_left _ h)
  · rcases List.mem_cons.1 h with h | h
    · exact .inl (by rw [h]; exact List.getElem_eq_getD [])
    · exact .inr (List.mem_append_right _ h)
theorem bR_sub {R : List (List Int)} {a i : Nat} : ∀ r ∈ bR R a i, r ∈ R := fun r hr => by
  unfold bR at hr
  split at hr
  · exact List.mem_of_mem_take hr
  · rcases List.mem_append.1 hr with h | h
    · exact List.mem_of_mem_take h
    · exact List.mem_of_mem_drop (List.mem_of_mem_take h)
theorem bR_len {R : List (List Int)} {a : Nat} (ha : a < R.length) : (bR R a R.length).length + 1 = R.length := by
  unfold bR
  rw [if_neg (by omega)]
  simp; omega
theorem lawFnCovering_ok (H : List Blk) (ns ms : List Int) (hz : ∀ z ∈ ns, 0 ≤ z ∧ z < 256) (hy : ∀ z ∈ ms, 0 ≤ z ∧ z < 256) : ACalls Try.prog f_laws_FnCovering [ilY ns, ilY ms] H (fun r _ => r = Bv true) := by
  have hbn := fun k => Bel_ilY k ns
  have hbm := fun k => Bel_ilY k ms
  have l1 := b10Long_fn ns
  have l2 := b10Long_fn ms
  by_cases h1 : (1048576 : Int) < ns.length
  · rw [decide_eq_true h1] at l1
    refine ACalls.introB s_laws_FnCovering (by simp) ?_; intro hB hA; unfold c_laws_FnCovering; simp (config := { maxSteps := 1000000 }) (disch := (first | omega | (simp only [go_sem]; try omega))) only [go_sem, Nat.reduceAdd, Nat.reduceEqDiff, Nat.reduceLeDiff, Nat.reduceMul, Nat.reduceLT, reduceIte, Int.reduceToNat, w64_id, cast_succ]
    repeat (first | (with_reducible first | refine SW.seq ?_ | refine SW.block ?_ | refine SW.rowC ?_ | refine SW.skip ?_ | refine SW.exit ?_ | refine PFn.use (l1) ?_ | refine PFn.useq (l1) ?_ | intro _ | refine And.intro (by omega) ?_) | simp (config := { maxSteps := 1000000 }) (disch := (first | omega | (simp only [go_sem]; try omega))) only [go_sem, Nat.reduceAdd, Nat.reduceEqDiff, Nat.reduceLeDiff, Nat.reduceMul, Nat.reduceLT, reduceIte, Int.reduceToNat, w64_id, cast_succ])
    refine SW.condT rfl ?_
    repeat (first | (with_reducible first | refine SW.seq ?_ | refine SW.block ?_ | refine SW.rowC ?_ | refine SW.skip ?_ | refine SW.exit ?_ | intro _ | refine And.intro (by omega) ?_) | simp (config := { maxSteps := 1000000 }) (disch := (first | omega | (simp only [go_sem]; try omega))) only [go_sem, Nat.reduceAdd, Nat.reduceEqDiff, Nat.reduceLeDiff, Nat.reduceMul, Nat.reduceLT, reduceIte, Int.reduceToNat, w64_id, cast_succ])
    refine SW.ret ?_; (try simp only [go_sem]); (first | refine FunPost.one ?_ | refine FunPost.two ?_ | refine FunPost.three ?_); (try simp (config := { maxSteps := 1000000 }) (disch := (first | omega | (simp only [go_sem]; try omega))) only [go_sem, Nat.reduceAdd, Nat.reduceEqDiff, Nat.reduceLeDiff, Nat.reduceMul, Nat.reduceLT, reduceIte, Int.reduceToNat, w64_id, cast_succ])
    exact GR.of rfl
  rw [decide_eq_false h1] at l1
  by_cases h2 : (1048576 : Int) < ms.length
  · rw [decide_eq_true h2] at l2
    refine ACalls.introB s_laws_FnCovering (by simp) ?_; intro hB hA; unfold c_laws_FnCovering; simp (config := { maxSteps := 1000000 }) (disch := (first | omega | (simp only [go_sem]; try omega))) only [go_sem, Nat.reduceAdd, Nat.reduceEqDiff, Nat.reduceLeDiff, Nat.reduceMul, Nat.reduceLT, reduceIte, Int.reduceToNat, w64_id, cast_succ]
    repeat (first | (with_reducible first | refine SW.seq ?_ | refine SW.block ?_ | refine SW.rowC ?_ | refine SW.skip ?_ | refine SW.exit ?_ | refine PFn.use (l1) ?_ | refine PFn.useq (l1) ?_ | refine PFn.use (l2) ?_ | refine PFn.useq (l2) ?_ | intro _ | refine And.intro (by omega) ?_) | simp (config := { maxSteps := 1000000 }) (disch := (first | omega | (simp only [go_sem]; try omega))) only [go_sem, Nat.reduceAdd, Nat.reduceEqDiff, Nat.reduceLeDiff, Nat.reduceMul, Nat.reduceLT, reduceIte, Int.reduceToNat, w64_id, cast_succ])
    refine SW.condT rfl ?_
    repeat (first | (with_reducible first | refine SW.seq ?_ | refine SW.block ?_ | refine SW.rowC ?_ | refine SW.skip ?_ | refine SW.exit ?_ | intro _ | refine And.intro (by omega) ?_) | simp (config := { maxSteps := 1000000 }) (disch := (first | omega | (simp only [go_sem]; try omega))) only [go_sem, Nat.reduceAdd, Nat.reduceEqDiff, Nat.reduceLeDiff, Nat.reduceMul, Nat.reduceLT, reduceIte, Int.reduceToNat, w64_id, cast_succ])
    refine SW.ret ?_; (try simp only [go_sem]); (first | refine FunPost.one ?_ | refine FunPost.two ?_ | refine FunPost.three ?_); (try simp (config := { maxSteps := 1000000 }) (disch := (first | omega | (simp only [go_sem]; try omega))) only [go_sem, Nat.reduceAdd, Nat.reduceEqDiff, Nat.reduceLeDiff, Nat.reduceMul, Nat.reduceLT, reduceIte, Int.reduceToNat, w64_id, cast_succ])
    exact GR.of rfl
  rw [decide_eq_false h2] at l2
  refine ACalls.introB s_laws_FnCovering (by simp) ?_; intro hB hA; unfold c_laws_FnCovering; simp (config := { maxSteps := 1000000 }) (disch := (first | omega | (simp only [go_sem]; try omega))) only [go_sem, Nat.reduceAdd, Nat.reduceEqDiff, Nat.reduceLeDiff, Nat.reduceMul, Nat.reduceLT, reduceIte, Int.reduceToNat, w64_id, cast_succ]
  repeat (first | (with_reducible first | refine SW.seq ?_ | refine SW.block ?_ | refine SW.rowC ?_ | refine SW.skip ?_ | refine SW.exit ?_ | refine PFn.use (l1) ?_ | refine PFn.useq (l1) ?_ | refine PFn.use (l2) ?_ | refine PFn.useq (l2) ?_ | intro _ | refine And.intro (by omega) ?_) | simp (config := { maxSteps := 1000000 }) (disch := (first | omega | (simp only [go_sem]; try omega))) only [go_sem, Nat.reduceAdd, Nat.reduceEqDiff, Nat.reduceLeDiff, Nat.reduceMul, Nat.reduceLT, reduceIte, Int.reduceToNat, w64_id, cast_succ])
  refine SW.condF rfl ?_
  repeat (first | (with_reducible first | refine SW.seq ?_ | refine SW.block ?_ | refine SW.rowC ?_ | refine SW.skip ?_ | refine SW.exit ?_ | intro _ | refine And.intro (by omega) ?_) | simp (config := { maxSteps := 1000000 }) (disch := (first | omega | (simp only [go_sem]; try omega))) only [go_sem, Nat.reduceAdd, Nat.reduceEqDiff, Nat.reduceLeDiff, Nat.reduceMul, Nat.reduceLT, reduceIte, Int.reduceToNat, w64_id, cast_succ])
  refine (DrawCover_ok _ ns hz (by omega)).mono ?_
  rintro r H1 ⟨rfl, l, c, rfl⟩
  have him := (implCover_fa l c).pfn
  repeat (first | (with_reducible first | refine SW.seq ?_ | refine SW.block ?_ | refine SW.rowC ?_ | refine SW.skip ?_ | refine SW.exit ?_ | refine PFn.use (him) ?_ | refine PFn.useq (him) ?_ | intro _ | refine And.intro (by omega) ?_) | simp (config := { maxSteps := 1000000 }) (disch := (first | omega | (simp only [go_sem]; try omega))) only [go_sem, Nat.reduceAdd, Nat.reduceEqDiff, Nat.reduceLeDiff, Nat.reduceMul, Nat.reduceLT, reduceIte, Int.reduceToNat, w64_id, cast_succ])
  have d0 : decide ((0 : Int) = 0) = true := rfl
  by_cases hs : (shapeOk l c && decide (2 ≤ c)) = true
  · cases hgr : grd l.toNat c.toNat 257 [] [] with
    | none =>
      have ev : cpV l c = (0, 0, [], 5) := by unfold cpV; rw [if_pos hs, hgr]
      rw [ev]
      refine SW.condT rfl ?_
      have d5 : decide ((5 : Int) = 5) = true := rfl
      repeat (first | (with_reducible first | refine SW.seq ?_ | refine SW.block ?_ | refine SW.rowC ?_ | refine SW.skip ?_ | refine SW.exit ?_ | intro _ | refine And.intro (by omega) ?_) | simp (config := { maxSteps := 1000000 }) (disch := (first | omega | (simp only [go_sem]; try omega))) only [go_sem, Nat.reduceAdd, Nat.reduceEqDiff, Nat.reduceLeDiff, Nat.reduceMul, Nat.reduceLT, reduceIte, Int.reduceToNat, w64_id, cast_succ, d5])
      refine SW.ret ?_; (try simp only [go_sem]); (first | refine FunPost.one ?_ | refine FunPost.two ?_ | refine FunPost.three ?_); (try simp (config := { maxSteps := 1000000 }) (disch := (first | omega | (simp only [go_sem]; try omega))) only [go_sem, Nat.reduceAdd, Nat.reduceEqDiff, Nat.reduceLeDiff, Nat.reduceMul, Nat.reduceLT, reduceIte, Int.reduceToNat, w64_id, cast_succ])
      exact GR.of rfl
    | some R =>
      have ev : cpV l c = (l, c, R, 0) := by unfold cpV; rw [if_pos hs, hgr]
      rw [ev]
      refine SW.condF rfl ?_
      simp only [Bool.and_eq_true, decide_eq_true_eq] at hs
      obtain ⟨p1, p2, p3, p4⟩ := shapeOk_iff.1 hs.1
      have hc2 := hs.2
      obtain ⟨l, rfl⟩ := Int.eq_ofNat_of_zero_le (show 0 ≤ l by omega)
      obtain ⟨c, rfl⟩ := Int.eq_ofNat_of_zero_le (show 0 ≤ c by omega)
      simp only [Int.toNat_natCast] at hgr
      obtain ⟨r1, r2, r3⟩ := grd_ok (by omega) 257 [] [] R rfl (by simp) (by simp) hgr
      have hall : R.all (rowOk l c) = true := by rw [List.all_eq_true]; exact r2
      have hcov : opAll l c (covR R) = [] := by
        rw [← opAll_congr (fun x y v w hxy hy hv hw => inP_cov hall hxy hy hv hw)]; exact r3
      have hmany := rows_many (by omega) hcov
      have harr : arrayOk l c R = true := by unfold arrayOk; rw [hs.1, hall]; simp; omega
      have va := ValidArray_fn l c R
      rw [harr] at va
      have un := UncoveredPairs_fn l c R
      rw [harr, if_pos rfl, Int.toNat_natCast, Int.toNat_natCast, hcov] at un
      have hll : l * l ≤ 16 * 16 := Nat.mul_le_mul (by omega) (by omega)
      have ell : ((l : Int) * (l : Int)) = ((l * l : Nat) : Int) := by simp
      have d1 : decide ((l : Int) = l) = true := decide_eq_true rfl
      have d2 : decide ((c : Int) = c) = true := decide_eq_true rfl
      have d3 : decide ((R.length : Int) < ((l * l : Nat) : Int)) = false := decide_eq_false (by omega)
      have d00 : decide (((0 : Nat) : Int) = 0) = true := rfl
      have hR1 : 1 ≤ R.length := by
        have : 1 ≤ l * l := Nat.mul_le_mul (show 1 ≤ l by omega) (show 1 ≤ l by omega)
        omega
      repeat (first | (with_reducible first | refine SW.seq ?_ | refine SW.block ?_ | refine SW.rowC ?_ | refine SW.skip ?_ | refine SW.exit ?_ | refine PFn.use (va) ?_ | refine PFn.useq (va) ?_ | refine PFn.use (un) ?_ | refine PFn.useq (un) ?_ | intro _ | refine And.intro (by omega) ?_) | simp (config := { maxSteps := 1000000 }) (disch := (first | omega | (simp only [go_sem]; try omega))) only [go_sem, Nat.reduceAdd, Nat.reduceEqDiff, Nat.reduceLeDiff, Nat.reduceMul, Nat.reduceLT, reduceIte, Int.reduceToNat, w64_id, cast_succ, d1, d2, d3, d00, ell])
      refine SW.condF rfl ?_
      repeat (first | (with_reducible first | refine SW.seq ?_ | refine SW.block ?_ | refine SW.rowC ?_ | refine SW.skip ?_ | refine SW.exit ?_ | intro _ | refine And.intro (by omega) ?_) | simp (config := { maxSteps := 1000000 }) (disch := (first | omega | (simp only [go_sem]; try omega))) only [go_sem, Nat.reduceAdd, Nat.reduceEqDiff, Nat.reduceLeDiff, Nat.reduceMul, Nat.reduceLT, reduceIte, Int.reduceToNat, w64_id, cast_succ])
      refine (b10AtG _ ms 0 R.length hy (by omega) (by omega) (by omega) (by omega)).mono ?_
      rintro r H2 ⟨rfl, a, rfl, ha⟩
      repeat (first | (with_reducible first | refine SW.seq ?_ | refine SW.block ?_ | refine SW.rowC ?_ | refine SW.skip ?_ | refine SW.exit ?_ | intro _ | refine And.intro (by omega) ?_) | simp (config := { maxSteps := 1000000 }) (disch := (first | omega | (simp only [go_sem]; try omega))) only [go_sem, Nat.reduceAdd, Nat.reduceEqDiff, Nat.reduceLeDiff, Nat.reduceMul, Nat.reduceLT, reduceIte, Int.reduceToNat, w64_id, cast_succ])
      refine SW.loopE (fun E0 H0 q E' H' => ∃ (i : Nat) (v : AV), i ≤ R.length ∧ q = R.length - i ∧ E' = aput E0 11 (I i) ∧ H'[H1.length + 1]? = some ⟨0, tyArr, 1, [I l, I c, v]⟩ ∧ H'[H1.length]? = some ⟨0, tyArr, 1, [I l, I c, ilSS R]⟩ ∧ GrowF H' (H1.length + 2) v (bR R a i) ∧ H1.length + 2 ≤ H'.length) R.length
        ⟨0, nilS, by omega, by omega, rfl, by rw [List.getElem?_append_right (by omega), Nat.add_sub_cancel_left]; rfl, by rw [List.getElem?_append_right (by omega), Nat.sub_self]; rfl, .inl ⟨rfl, by simp [bR]⟩, by simp⟩ ?_
      rintro q E' H3 ⟨i, v, hi, rfl, rfl, i1, i2, i3, i4⟩
      have m1 := fun (o : Nat) => pc_alive (off := o) i1
      have m2 := fun (o : Nat) => pc_ld (off := o) i1
      have m3 := fun (o : Nat) => pc_alive (off := o) i2
      have m4 := fun (o : Nat) => pc_ld (off := o) i2
      have m5 := pc_lds (off := 0) (n := 3) i1 (by simp)
      simp (config := { maxSteps := 1000000 }) (disch := (first | omega | (simp only [go_sem]; try omega))) only [go_sem, Nat.reduceAdd, Nat.reduceEqDiff, Nat.reduceLeDiff, Nat.reduceMul, Nat.reduceLT, reduceIte, Int.reduceToNat, w64_id, cast_succ]
      repeat (first | (with_reducible first | refine SW.seq ?_ | refine SW.block ?_ | refine SW.rowC ?_ | refine SW.skip ?_ | refine SW.exit ?_ | intro _ | refine And.intro (by omega) ?_) | simp (config := { maxSteps := 1000000 }) (disch := (first | omega | (simp only [go_sem]; try omega))) only [go_sem, Nat.reduceAdd, Nat.reduceEqDiff, Nat.reduceLeDiff, Nat.reduceMul, Nat.reduceLT, reduceIte, Int.reduceToNat, w64_id, cast_succ, m1, m2, m3, m4])
      (first | refine SW.condD rfl (fun h5 => ?_) (fun h5 => ?_) | refine SW.condN rfl (fun h5 => ?_) (fun h5 => ?_) | refine SW.condNB rfl (fun h5 => ?_) (fun h5 => ?_) | refine SW.condB rfl (fun h5 => ?_) (fun h5 => ?_))
      · have hiR : i < R.length := by omega
        by_cases hia : i = a
        · have d6 : decide ((i : Int) = (a : Int)) = true := decide_eq_true (by omega)
          repeat (first | (with_reducible first | refine SW.seq ?_ | refine SW.block ?_ | refine SW.rowC ?_ | refine SW.skip ?_ | refine SW.exit ?_ | intro _ | refine And.intro (by omega) ?_) | simp (config := { maxSteps := 1000000 }) (disch := (first | omega | (simp only [go_sem]; try omega))) only [go_sem, Nat.reduceAdd, Nat.reduceEqDiff, Nat.reduceLeDiff, Nat.reduceMul, Nat.reduceLT, reduceIte, Int.reduceToNat, w64_id, cast_succ, d6])
          refine SW.condF rfl ?_
          repeat (first | (with_reducible first | refine SW.seq ?_ | refine SW.block ?_ | refine SW.rowC ?_ | refine SW.skip ?_ | refine SW.exit ?_ | intro _ | refine And.intro (by omega) ?_) | simp (config := { maxSteps := 1000000 }) (disch := (first | omega | (simp only [go_sem]; try omega))) only [go_sem, Nat.reduceAdd, Nat.reduceEqDiff, Nat.reduceLeDiff, Nat.reduceMul, Nat.reduceLT, reduceIte, Int.reduceToNat, w64_id, cast_succ])
          refine SLoop.next (R.length - (i + 1)) (by omega) ⟨i + 1, v, by omega, rfl, rfl, i1, i2, by rw [hia] at i3 ⊢; rw [bR_skip]; exact i3, i4⟩
        · have d6 : decide ((i : Int) = (a : Int)) = false := decide_eq_false (by omega)
          repeat (first | (with_reducible first | refine SW.seq ?_ | refine SW.block ?_ | refine SW.rowC ?_ | refine SW.skip ?_ | refine SW.exit ?_ | intro _ | refine And.intro (by omega) ?_) | simp (config := { maxSteps := 1000000 }) (disch := (first | omega | (simp only [go_sem]; try omega))) only [go_sem, Nat.reduceAdd, Nat.reduceEqDiff, Nat.reduceLeDiff, Nat.reduceMul, Nat.reduceLT, reduceIte, Int.reduceToNat, w64_id, cast_succ, d6])
          refine SW.condT rfl ?_
          have n1 := fun l2 (o : Nat) => pc_alive (off := o) (getAppF i1 l2)
          repeat (first | (with_reducible first | refine SW.seq ?_ | refine SW.block ?_ | refine SW.rowC ?_ | refine SW.skip ?_ | refine SW.exit ?_ | intro _ | refine And.intro (by omega) ?_) | simp (config := { maxSteps := 1000000 }) (disch := (first | omega | (simp only [go_sem]; try omega))) only [go_sem, Nat.reduceAdd, Nat.reduceEqDiff, Nat.reduceLeDiff, Nat.reduceMul, Nat.reduceLT, reduceIte, Int.reduceToNat, w64_id, cast_succ, m1, m2, m3, m4, n1])
          have hbl : (bR R a i).length ≤ 600 := by
            unfold bR
            split
            · simp; omega
            · simp; omega
          refine (i3.same (H' := H3 ++ [⟨0, tyLL, 1, [ilS (R.getD i [])]⟩]) (fun j b _ hb => getAppF hb _)).app (by simp; omega) (by omega) ?_
          intro v3 H4 f1 f2 f3
          have e1 : H4[H1.length + 1]? = some ⟨0, tyArr, 1, [I l, I c, v]⟩ := by rw [f3 _ (by omega)]; exact getAppF i1 _
          have e2 : H4[H1.length]? = some ⟨0, tyArr, 1, [I l, I c, ilSS R]⟩ := by rw [f3 _ (by omega)]; exact getAppF i2 _
          have hl4 : H3.length ≤ H4.length := by simp at f2; omega
          repeat (first | (with_reducible first | refine SW.seq ?_ | refine SW.block ?_ | refine SW.rowC ?_ | refine SW.skip ?_ | refine SW.exit ?_ | intro _ | refine And.intro (by omega) ?_) | simp (config := { maxSteps := 1000000 }) (disch := (first | omega | (simp only [go_sem]; try omega))) only [go_sem, Nat.reduceAdd, Nat.reduceEqDiff, Nat.reduceLeDiff, Nat.reduceMul, Nat.reduceLT, reduceIte, Int.reduceToNat, w64_id, cast_succ, pc_alive e1, pc_ld e1, f1.one.1, f1.one.2])
          rw [pc_st e1 (by simp), show setMany [I l, I c, v] 2 [v3] = [I l, I c, v3] from rfl]
          repeat (first | (with_reducible first | refine SW.seq ?_ | refine SW.block ?_ | refine SW.rowC ?_ | refine SW.skip ?_ | refine SW.exit ?_ | intro _ | refine And.intro (by omega) ?_) | simp (config := { maxSteps := 1000000 }) (disch := (first | omega | (simp only [go_sem]; try omega))) only [go_sem, Nat.reduceAdd, Nat.reduceEqDiff, Nat.reduceLeDiff, Nat.reduceMul, Nat.reduceLT, reduceIte, Int.reduceToNat, w64_id, cast_succ])
          refine SLoop.next (R.length - (i + 1)) (by omega) ⟨i + 1, v3, by omega, rfl, rfl, List.getElem?_set_self (by omega), by rw [List.getElem?_set_ne (by omega)]; exact e2, ?_, by rw [List.length_set]; omega⟩
          rw [bR_next hiR hia]
          exact f1.same (fun j b h1 h2 => by rw [List.getElem?_set_ne (by omega)]; exact h2)
      · have : i = R.length := by omega
        subst this
        repeat (first | (with_reducible first | refine SW.seq ?_ | refine SW.block ?_ | refine SW.rowC ?_ | refine SW.skip ?_ | refine SW.exit ?_ | intro _ | refine And.intro (by omega) ?_) | simp (config := { maxSteps := 1000000 }) (disch := (first | omega | (simp only [go_sem]; try omega))) only [go_sem, Nat.reduceAdd, Nat.reduceEqDiff, Nat.reduceLeDiff, Nat.reduceMul, Nat.reduceLT, reduceIte, Int.reduceToNat, w64_id, cast_succ, m1, m2, m3, m4, m5, i3.one.1, i3.one.2])
        have hBall : (bR R a R.length).all (rowOk l c) = true := by rw [List.all_eq_true]; exact fun r hr => r2 r (bR_sub r hr)
        have hBl := bR_len ha
        have harrB : arrayOk l c (bR R a R.length) = true := by unfold arrayOk; rw [hs.1, hBall]; simp; omega
        have unB := UncoveredPairs_fn l c (bR R a R.length)
        rw [harrB, if_pos rfl, Int.toNat_natCast, Int.toNat_natCast] at unB
        have hle := less_one (R.getD a []) hcov (bR_all ha)
        have hpos : R.length = l * l → 0 < (opAll l c (covR (bR R a R.length))).length := fun e => by
          refine List.length_pos_iff.2 fun h0 => ?_
          have := rows_many (by omega) h0
          omega
        have hol := opTo_len l c (covR (bR R a R.length)) c (by omega) (by omega) (by omega)
        change (opAll l c (covR (bR R a R.length))).length ≤ 16384 at hol
        generalize hw : (opAll l c (covR (bR R a R.length))).length = w at *
        generalize bR R a R.length = B at *
        have unL : ∀ K : AV → List Blk → Prop, K (I w) H3 → ACalls Try.prog f_impl_UncoveredPairs [.agg [I l, I c, v]] H3 K := fun K hK => by
          refine (unB.lend (.cons (froz_agg3 (froz_I' _) (froz_I' _) (i3.froz (Nat.zero_le _))) .nil)).mono ?_
          rintro r H' ⟨rfl, rfl⟩
          exact hK
        refine unL _ ?_
        have ecc : (c : Int) - 1 = ((c - 1 : Nat) : Int) := by omega
        have ecm : ((c : Int) * ((c - 1 : Nat) : Int)) = ((c * (c - 1) : Nat) : Int) := by simp
        have hcm : c * (c - 1) ≤ 8 * 7 := Nat.mul_le_mul (by omega) (by omega)
        have dle : decide ((((c * (c - 1)) / 2 : Nat) : Int) < (w : Int)) = false := decide_eq_false (by omega)
        have dle2 : decide ((w : Int) ≤ (((c * (c - 1)) / 2 : Nat) : Int)) = true := decide_eq_true (by omega)
        have t2 : ((c * (c - 1) : Nat) : Int).tdiv 2 = (((c * (c - 1)) / 2 : Nat) : Int) := by
          have := tdivN (a := c * (c - 1)) (b := 2)
          simpa using this
        by_cases hgt : l * l < R.length
        · have d7 : decide (((l * l : Nat) : Int) < (R.length : Int)) = true := decide_eq_true (by omega)
          repeat (first | (with_reducible first | refine SW.seq ?_ | refine SW.block ?_ | refine SW.rowC ?_ | refine SW.skip ?_ | refine SW.exit ?_ | intro _ | refine And.intro (by omega) ?_) | simp (config := { maxSteps := 1000000 }) (disch := (first | omega | (simp only [go_sem]; try omega))) only [go_sem, Nat.reduceAdd, Nat.reduceEqDiff, Nat.reduceLeDiff, Nat.reduceMul, Nat.reduceLT, reduceIte, Int.reduceToNat, w64_id, cast_succ, ecc, ecm, t2, dle, dle2, ell, d7, m3, m4])
          refine SW.ret ?_; (try simp only [go_sem]); (first | refine FunPost.one ?_ | refine FunPost.two ?_ | refine FunPost.three ?_); (try simp (config := { maxSteps := 1000000 }) (disch := (first | omega | (simp only [go_sem]; try omega))) only [go_sem, Nat.reduceAdd, Nat.reduceEqDiff, Nat.reduceLeDiff, Nat.reduceMul, Nat.reduceLT, reduceIte, Int.reduceToNat, w64_id, cast_succ])
          exact GR.of rfl
        · have d7 : decide (((l * l : Nat) : Int) < (R.length : Int)) = false := decide_eq_false (by omega)
          have d8 : decide ((0 : Int) < (w : Int)) = true := decide_eq_true (by have := hpos (by omega); omega)
          repeat (first | (with_reducible first | refine SW.seq ?_ | refine SW.block ?_ | refine SW.rowC ?_ | refine SW.skip ?_ | refine SW.exit ?_ | intro _ | refine And.intro (by omega) ?_) | simp (config := { maxSteps := 1000000 }) (disch := (first | omega | (simp only [go_sem]; try omega))) only [go_sem, Nat.reduceAdd, Nat.reduceEqDiff, Nat.reduceLeDiff, Nat.reduceMul, Nat.reduceLT, reduceIte, Int.reduceToNat, w64_id, cast_succ, ecc, ecm, t2, dle, dle2, ell, d7, m3, m4, m5, i3.one.1, i3.one.2])
          refine unL _ ?_
          repeat (first | (with_reducible first | refine SW.seq ?_ | refine SW.block ?_ | refine SW.rowC ?_ | refine SW.skip ?_ | refine SW.exit ?_ | intro _ | refine And.intro (by omega) ?_) | simp (config := { maxSteps := 1000000 }) (disch := (first | omega | (simp only [go_sem]; try omega))) only [go_sem, Nat.reduceAdd, Nat.reduceEqDiff, Nat.reduceLeDiff, Nat.reduceMul, Nat.reduceLT, reduceIte, Int.reduceToNat, w64_id, cast_succ, d8])
          refine SW.ret ?_; (try simp only [go_sem]); (first | refine FunPost.one ?_ | refine FunPost.two ?_ | refine FunPost.three ?_); (try simp (config := { maxSteps := 1000000 }) (disch := (first | omega | (simp only [go_sem]; try omega))) only [go_sem, Nat.reduceAdd, Nat.reduceEqDiff, Nat.reduceLeDiff, Nat.reduceMul, Nat.reduceLT, reduceIte, Int.reduceToNat, w64_id, cast_succ])
          exact GR.of rfl
  · have ev : cpV l c = (0, 0, [], 2) := by unfold cpV; rw [if_neg hs]
    rw [ev]
    refine SW.condT rfl ?_
    have d25 : decide ((2 : Int) = 5) = false := rfl
    by_cases a1 : l < 2
    · have e1 : decide (l < 2) = true := decide_eq_true a1
      repeat (first | (with_reducible first | refine SW.seq ?_ | refine SW.block ?_ | refine SW.rowC ?_ | refine SW.skip ?_ | refine SW.exit ?_ | intro _ | refine And.intro (by omega) ?_) | simp (config := { maxSteps := 1000000 }) (disch := (first | omega | (simp only [go_sem]; try omega))) only [go_sem, Nat.reduceAdd, Nat.reduceEqDiff, Nat.reduceLeDiff, Nat.reduceMul, Nat.reduceLT, reduceIte, Int.reduceToNat, w64_id, cast_succ, d25, e1])
      refine SW.ret ?_; (try simp only [go_sem]); (first | refine FunPost.one ?_ | refine FunPost.two ?_ | refine FunPost.three ?_); (try simp (config := { maxSteps := 1000000 }) (disch := (first | omega | (simp only [go_sem]; try omega))) only [go_sem, Nat.reduceAdd, Nat.reduceEqDiff, Nat.reduceLeDiff, Nat.reduceMul, Nat.reduceLT, reduceIte, Int.reduceToNat, w64_id, cast_succ])
      exact GR.of rfl
    have e1 : decide (l < 2) = false := decide_eq_false a1
    by_cases a2 : 16 < l
    · have e2 : decide (16 < l) = true := decide_eq_true a2
      repeat (first | (with_reducible first | refine SW.seq ?_ | refine SW.block ?_ | refine SW.rowC ?_ | refine SW.skip ?_ | refine SW.exit ?_ | intro _ | refine And.intro (by omega) ?_) | simp (config := { maxSteps := 1000000 }) (disch := (first | omega | (simp only [go_sem]; try omega))) only [go_sem, Nat.reduceAdd, Nat.reduceEqDiff, Nat.reduceLeDiff, Nat.reduceMul, Nat.reduceLT, reduceIte, Int.reduceToNat, w64_id, cast_succ, d25, e1, e2])
      refine SW.ret ?_; (try simp only [go_sem]); (first | refine FunPost.one ?_ | refine FunPost.two ?_ | refine FunPost.three ?_); (try simp (config := { maxSteps := 1000000 }) (disch := (first | omega | (simp only [go_sem]; try omega))) only [go_sem, Nat.reduceAdd, Nat.reduceEqDiff, Nat.reduceLeDiff, Nat.reduceMul, Nat.reduceLT, reduceIte, Int.reduceToNat, w64_id, cast_succ])
      exact GR.of rfl
    have e2 : decide (16 < l) = false := decide_eq_false a2
    by_cases a3 : c < 2
    · have e3 : decide (c < 2) = true := decide_eq_true a3
      repeat (first | (with_reducible first | refine SW.seq ?_ | refine SW.block ?_ | refine SW.rowC ?_ | refine SW.skip ?_ | refine SW.exit ?_ | intro _ | refine And.intro (by omega) ?_) | simp (config := { maxSteps := 1000000 }) (disch := (first | omega | (simp only [go_sem]; try omega))) only [go_sem, Nat.reduceAdd, Nat.reduceEqDiff, Nat.reduceLeDiff, Nat.reduceMul, Nat.reduceLT, reduceIte, Int.reduceToNat, w64_id, cast_succ, d25, e1, e2, e3])
      refine SW.ret ?_; (try simp only [go_sem]); (first | refine FunPost.one ?_ | refine FunPost.two ?_ | refine FunPost.three ?_); (try simp (config := { maxSteps := 1000000 }) (disch := (first | omega | (simp only [go_sem]; try omega))) only [go_sem, Nat.reduceAdd, Nat.reduceEqDiff, Nat.reduceLeDiff, Nat.reduceMul, Nat.reduceLT, reduceIte, Int.reduceToNat, w64_id, cast_succ])
      exact GR.of rfl
    have e3 : decide (c < 2) = false := decide_eq_false a3
    have e4 : decide (8 < c) = true := decide_eq_true (by
      refine Classical.byContradiction fun a4 => hs ?_
      rw [Bool.and_eq_true, decide_eq_true_eq]
      exact ⟨shapeOk_iff.2 (by omega), by omega⟩)
    repeat (first | (with_reducible first | refine SW.seq ?_ | refine SW.block ?_ | refine SW.rowC ?_ | refine SW.skip ?_ | refine SW.exit ?_ | intro _ | refine And.intro (by omega) ?_) | simp (config := { maxSteps := 1000000 }) (disch := (first | omega | (simp only [go_sem]; try omega))) only [go_sem, Nat.reduceAdd, Nat.reduceEqDiff, Nat.reduceLeDiff, Nat.reduceMul, Nat.reduceLT, reduceIte, Int.reduceToNat, w64_id, cast_succ, d25, e1, e2, e3, e4])
    refine SW.ret ?_; (try simp only [go_sem]); (first | refine FunPost.one ?_ | refine FunPost.two ?_ | refine FunPost.three ?_); (try simp (config := { maxSteps := 1000000 }) (disch := (first | omega | (simp only [go_sem]; try omega))) only [go_sem, Nat.reduceAdd, Nat.reduceEqDiff, Nat.reduceLeDiff, Nat.reduceMul, Nat.reduceLT, reduceIte, Int.reduceToNat, w64_id, cast_succ])
    exact GR.of rfl
end Go.Proofs.Ythogadbnddmkdaa
