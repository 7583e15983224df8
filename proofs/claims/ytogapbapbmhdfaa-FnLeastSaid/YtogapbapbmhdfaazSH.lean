/- The least image of a moved system: the law. -/
import Derived.Test.YtogapbapbmhdfaaProg
import Derived.KernelRfl
import Derived.Test.YtogapbapbmhdfaazSF
import Derived.Test.YtogapbapbmhdfaazSI
import Derived.Test.YtogapbapbmhdfaazSB
import Derived.Test.YtogapbapbmhdfaazK5
set_option linter.unusedSimpArgs false
set_option linter.unusedVariables false
set_option maxHeartbeats 4000000
set_option maxRecDepth 100000
namespace Go.Proofs.Ytogapbapbmhdfaa
open Go.Av
abbrev f_laws_FnLeast : Nat := 4
def c_laws_FnLeast : SC :=
 .seq (.reg [
     ⟨(some 4), .mv (.const (.bool false)), none⟩] [0, 1])
 (.seq (.seq (.reg [
     ⟨(some 22), .mv (.tmp 0), none⟩,
     ⟨(some 23), .call 9 [(.tmp 22)], none⟩,
     ⟨(some 24), .mv (.tmp 23), none⟩,
     ⟨(some 25), .mv (.tmp 1), (some (24, false))⟩,
     ⟨(some 26), .call 9 [(.tmp 25)], (some (24, false))⟩,
     ⟨(some 27), .pick (.tmp 24) (.const (.bool true)) (.tmp 26), none⟩] [0, 1, 27])
 (.cond (.tmp 27)
  (.seq (.reg [
      ⟨(some 4), .mv (.const (.bool true)), none⟩] [4])
  (.ret))
  (.skip)))
 (.seq (.reg [
     ⟨(some 29), .mv (.tmp 0), none⟩,
     ⟨(some 30), .call 10 [(.tmp 29)], none⟩,
     ⟨(some 28), .mv (.tmp 30), none⟩,
     ⟨(some 31), .ext (.tmp 28) 0, none⟩,
     ⟨(some 32), .ext (.tmp 28) 1, none⟩,
     ⟨(some 5), .mv (.tmp 31), none⟩,
     ⟨(some 6), .mv (.tmp 32), none⟩] [1, 5, 6])
 (.seq (.reg [
     ⟨(some 34), .mv (.tmp 5), none⟩,
     ⟨(some 35), .mv (.tmp 6), none⟩,
     ⟨(some 36), .call 11 [(.tmp 34), (.tmp 35)], none⟩,
     ⟨(some 33), .mv (.tmp 36), none⟩,
     ⟨(some 37), .ext (.tmp 33) 0, none⟩,
     ⟨(some 38), .ext (.tmp 33) 1, none⟩,
     ⟨(some 7), .mv (.tmp 37), none⟩,
     ⟨(some 8), .mv (.tmp 38), none⟩] [1, 5, 6, 7, 8])
 (.seq (.seq (.reg [
     ⟨(some 39), .mv (.tmp 8), none⟩,
     ⟨(some 40), .bin .neq (.tmp 39) (.const (.int .i64 0)), none⟩] [1, 5, 6, 7, 40])
 (.cond (.tmp 40)
  (.seq (.reg [
      ⟨(some 41), .mv (.tmp 7), none⟩,
      ⟨(some 42), .len (.tmp 41), none⟩,
      ⟨(some 43), .bin .eql (.tmp 42) (.const (.int .i64 0)), none⟩,
      ⟨(some 44), .mv (.tmp 43), none⟩,
      ⟨(some 45), .mv (.tmp 5), (some (44, true))⟩,
      ⟨(some 46), .mv (.tmp 6), (some (44, true))⟩,
      ⟨(some 47), .call 12 [(.tmp 45), (.tmp 46)], (some (44, true))⟩,
      ⟨(some 48), .un .not (.tmp 47), (some (44, true))⟩,
      ⟨(some 49), .pick (.tmp 44) (.tmp 48) (.const (.bool false)), none⟩,
      ⟨(some 4), .mv (.tmp 49), none⟩] [4])
  (.ret))
  (.skip)))
 (.seq (.reg [
     ⟨(some 50), .mv (.tmp 1), none⟩,
     ⟨(some 51), .mv (.tmp 5), none⟩,
     ⟨(some 52), .call 13 [(.tmp 50), (.tmp 51)], none⟩,
     ⟨(some 9), .mv (.tmp 52), none⟩] [5, 6, 7, 9])
 (.seq (.reg [
     ⟨(some 53), .bslice 33 1 0 [] [], none⟩,
     ⟨(some 10), .mv (.tmp 53), none⟩] [5, 6, 7, 9, 10])
 (.seq (.seq (.reg [
     ⟨(some 11), .mv (.const (.int .i64 0)), none⟩] [5, 6, 7, 9, 10, 11])
 (.block 0 (.loop [5, 6, 7, 9, 10, 11]
   (.seq (.seq (.reg [
       ⟨(some 54), .mv (.tmp 11), none⟩,
       ⟨(some 55), .mv (.tmp 6), none⟩,
       ⟨(some 56), .len (.tmp 55), none⟩,
       ⟨(some 57), .bin .lss (.tmp 54) (.tmp 56), none⟩] [5, 6, 7, 9, 10, 11, 57])
   (.cond (.tmp 57)
    (.skip)
    (.exit 0)))
   (.seq (.block 1 (.seq (.reg [
        ⟨(some 61), .mv (.tmp 9), none⟩,
        ⟨(some 62), .mv (.tmp 6), none⟩,
        ⟨(some 63), .mv (.tmp 11), none⟩,
        ⟨(some 64), .iaddr 1 (.tmp 62) (.tmp 63), none⟩,
        ⟨(some 65), .load 1 false (.tmp 64), none⟩,
        ⟨(some 66), .call 14 [(.tmp 61), (.tmp 65)], none⟩,
        ⟨(some 60), .mv (.tmp 66), none⟩,
        ⟨(some 67), .ext (.tmp 60) 0, none⟩,
        ⟨(some 68), .ext (.tmp 60) 1, none⟩,
        ⟨(some 12), .mv (.tmp 67), none⟩,
        ⟨(some 13), .mv (.tmp 68), none⟩] [5, 6, 7, 9, 10, 11, 12, 13])
    (.seq (.seq (.reg [
        ⟨(some 69), .mv (.tmp 13), none⟩,
        ⟨(some 70), .bin .neq (.tmp 69) (.const (.int .i64 0)), none⟩,
        ⟨(some 71), .mv (.tmp 70), none⟩,
        ⟨(some 72), .mv (.tmp 12), (some (71, false))⟩,
        ⟨(some 73), .len (.tmp 72), (some (71, false))⟩,
        ⟨(some 74), .mv (.tmp 6), (some (71, false))⟩,
        ⟨(some 75), .mv (.tmp 11), (some (71, false))⟩,
        ⟨(some 76), .iaddr 1 (.tmp 74) (.tmp 75), (some (71, false))⟩,
        ⟨(some 77), .load 1 false (.tmp 76), (some (71, false))⟩,
        ⟨(some 78), .len (.tmp 77), (some (71, false))⟩,
        ⟨(some 79), .bin .neq (.tmp 73) (.tmp 78), (some (71, false))⟩,
        ⟨(some 80), .pick (.tmp 71) (.const (.bool true)) (.tmp 79), none⟩] [5, 6, 7, 9, 10, 11, 12, 80])
    (.cond (.tmp 80)
     (.seq (.reg [
         ⟨(some 4), .mv (.const (.bool false)), none⟩] [4])
     (.ret))
     (.skip)))
    (.seq (.reg [
        ⟨(some 14), .mv (.const (.int .i64 0)), none⟩] [5, 6, 7, 9, 10, 11, 12, 14])
    (.seq (.block 2 (.loop [5, 6, 7, 9, 10, 11, 12, 14]
      (.seq (.seq (.reg [
          ⟨(some 81), .mv (.tmp 14), none⟩,
          ⟨(some 82), .mv (.tmp 10), none⟩,
          ⟨(some 83), .len (.tmp 82), none⟩,
          ⟨(some 84), .bin .lss (.tmp 81) (.tmp 83), none⟩,
          ⟨(some 85), .mv (.tmp 84), none⟩,
          ⟨(some 86), .mv (.tmp 10), (some (85, true))⟩,
          ⟨(some 87), .mv (.tmp 14), (some (85, true))⟩,
          ⟨(some 88), .iaddr 1 (.tmp 86) (.tmp 87), (some (85, true))⟩,
          ⟨(some 89), .load 1 false (.tmp 88), (some (85, true))⟩,
          ⟨(some 90), .mv (.tmp 12), (some (85, true))⟩,
          ⟨(some 91), .call 15 [(.tmp 89), (.tmp 90)], (some (85, true))⟩,
          ⟨(some 92), .bin .eql (.tmp 91) (.const (.int .i64 (-1))), (some (85, true))⟩,
          ⟨(some 93), .pick (.tmp 85) (.tmp 92) (.const (.bool false)), none⟩] [5, 6, 7, 9, 10, 11, 12, 14, 93])
      (.cond (.tmp 93)
       (.skip)
       (.exit 2)))
      (.block 3 (.reg [
           ⟨(some 94), .mv (.tmp 14), none⟩,
           ⟨(some 95), .bin .add (.tmp 94) (.const (.int .i64 1)), none⟩,
           ⟨(some 14), .mv (.tmp 95), none⟩] [5, 6, 7, 9, 10, 11, 12, 14])))))
    (.seq (.reg [
        ⟨(some 96), .bslice 33 1 0 [] [], none⟩,
        ⟨(some 97), .mv (.tmp 10), none⟩,
        ⟨(some 98), .mv (.tmp 14), none⟩,
        ⟨(some 99), .slc 1 (.tmp 97) none (some (.tmp 98)), none⟩,
        ⟨(some 100), .app 33 1 24 (.tmp 96) (.tmp 99), none⟩,
        ⟨(some 15), .mv (.tmp 100), none⟩] [5, 6, 7, 9, 10, 11, 12, 14, 15])
    (.seq (.reg [
        ⟨(some 101), .mv (.tmp 15), none⟩,
        ⟨(some 102), .mv (.tmp 12), none⟩,
        ⟨(some 103), .bslice 33 1 1 [(.slice none 0 0)] [(0, (.tmp 102))], none⟩,
        ⟨(some 104), .app 33 1 24 (.tmp 101) (.tmp 103), none⟩,
        ⟨(some 15), .mv (.tmp 104), none⟩] [5, 6, 7, 9, 10, 11, 14, 15])
    (.reg [
        ⟨(some 105), .mv (.tmp 15), none⟩,
        ⟨(some 106), .mv (.tmp 10), none⟩,
        ⟨(some 107), .mv (.tmp 14), none⟩,
        ⟨(some 108), .slc 1 (.tmp 106) (some (.tmp 107)) none, none⟩,
        ⟨(some 109), .app 33 1 24 (.tmp 105) (.tmp 108), none⟩,
        ⟨(some 10), .mv (.tmp 109), none⟩] [5, 6, 7, 9, 10, 11]))))))))
   (.reg [
       ⟨(some 58), .mv (.tmp 11), none⟩,
       ⟨(some 59), .bin .add (.tmp 58) (.const (.int .i64 1)), none⟩,
       ⟨(some 11), .mv (.tmp 59), none⟩] [5, 6, 7, 9, 10, 11]))))))
 (.seq (.reg [
     ⟨(some 111), .mv (.tmp 5), none⟩,
     ⟨(some 112), .mv (.tmp 10), none⟩,
     ⟨(some 113), .call 11 [(.tmp 111), (.tmp 112)], none⟩,
     ⟨(some 110), .mv (.tmp 113), none⟩,
     ⟨(some 114), .ext (.tmp 110) 0, none⟩,
     ⟨(some 115), .ext (.tmp 110) 1, none⟩,
     ⟨(some 16), .mv (.tmp 114), none⟩,
     ⟨(some 17), .mv (.tmp 115), none⟩] [5, 6, 7, 10, 16, 17])
 (.seq (.reg [
     ⟨(some 117), .mv (.tmp 5), none⟩,
     ⟨(some 118), .mv (.tmp 6), none⟩,
     ⟨(some 119), .call 16 [(.tmp 117), (.tmp 118)], none⟩,
     ⟨(some 116), .mv (.tmp 119), none⟩,
     ⟨(some 120), .ext (.tmp 116) 0, none⟩,
     ⟨(some 121), .ext (.tmp 116) 1, none⟩,
     ⟨(some 18), .mv (.tmp 120), none⟩,
     ⟨(some 19), .mv (.tmp 121), none⟩] [5, 6, 7, 10, 16, 17, 18, 19])
 (.seq (.reg [
     ⟨(some 123), .mv (.tmp 5), none⟩,
     ⟨(some 124), .mv (.tmp 10), none⟩,
     ⟨(some 125), .call 16 [(.tmp 123), (.tmp 124)], none⟩,
     ⟨(some 122), .mv (.tmp 125), none⟩,
     ⟨(some 126), .ext (.tmp 122) 0, none⟩,
     ⟨(some 127), .ext (.tmp 122) 1, none⟩,
     ⟨(some 20), .mv (.tmp 126), none⟩,
     ⟨(some 21), .mv (.tmp 127), none⟩] [5, 6, 7, 16, 17, 18, 19, 20, 21])
 (.seq (.reg [
     ⟨(some 128), .mv (.tmp 5), none⟩,
     ⟨(some 129), .mv (.tmp 7), none⟩,
     ⟨(some 130), .call 17 [(.tmp 128), (.tmp 129)], none⟩,
     ⟨(some 131), .mv (.tmp 130), none⟩,
     ⟨(some 132), .mv (.tmp 7), (some (131, true))⟩,
     ⟨(some 133), .len (.tmp 132), (some (131, true))⟩,
     ⟨(some 134), .mv (.tmp 6), (some (131, true))⟩,
     ⟨(some 135), .len (.tmp 134), (some (131, true))⟩,
     ⟨(some 136), .bin .eql (.tmp 133) (.tmp 135), (some (131, true))⟩,
     ⟨(some 137), .pick (.tmp 131) (.tmp 136) (.const (.bool false)), none⟩,
     ⟨(some 138), .mv (.tmp 137), none⟩,
     ⟨(some 139), .mv (.tmp 17), (some (138, true))⟩,
     ⟨(some 140), .bin .eql (.tmp 139) (.const (.int .i64 0)), (some (138, true))⟩,
     ⟨(some 141), .pick (.tmp 138) (.tmp 140) (.const (.bool false)), none⟩,
     ⟨(some 142), .mv (.tmp 141), none⟩,
     ⟨(some 143), .mv (.tmp 7), (some (142, true))⟩,
     ⟨(some 144), .mv (.tmp 16), (some (142, true))⟩,
     ⟨(some 145), .call 18 [(.tmp 143), (.tmp 144)], (some (142, true))⟩,
     ⟨(some 146), .pick (.tmp 142) (.tmp 145) (.const (.bool false)), none⟩,
     ⟨(some 147), .mv (.tmp 146), none⟩,
     ⟨(some 148), .mv (.tmp 19), (some (147, true))⟩,
     ⟨(some 149), .bin .eql (.tmp 148) (.const (.int .i64 0)), (some (147, true))⟩,
     ⟨(some 150), .pick (.tmp 147) (.tmp 149) (.const (.bool false)), none⟩,
     ⟨(some 151), .mv (.tmp 150), none⟩,
     ⟨(some 152), .mv (.tmp 21), (some (151, true))⟩,
     ⟨(some 153), .bin .eql (.tmp 152) (.const (.int .i64 0)), (some (151, true))⟩,
     ⟨(some 154), .pick (.tmp 151) (.tmp 153) (.const (.bool false)), none⟩,
     ⟨(some 155), .mv (.tmp 154), none⟩,
     ⟨(some 156), .mv (.tmp 18), (some (155, true))⟩,
     ⟨(some 157), .mv (.tmp 20), (some (155, true))⟩,
     ⟨(some 158), .bin .eql (.tmp 156) (.tmp 157), (some (155, true))⟩,
     ⟨(some 159), .pick (.tmp 155) (.tmp 158) (.const (.bool false)), none⟩,
     ⟨(some 4), .mv (.tmp 159), none⟩] [4])
 (.ret))))))))))))
theorem s_laws_FnLeast : stripF Try.prog 4 [[0, 1], [0, 1, 27], [4], [1, 5, 6], [1, 5, 6, 7, 8], [1, 5, 6, 7, 40], [4], [5, 6, 7, 9], [5, 6, 7, 9, 10], [5, 6, 7, 9, 10, 11], [5, 6, 7, 9, 10, 11], [5, 6, 7, 9, 10, 11, 57], [5, 6, 7, 9, 10, 11, 12, 13], [5, 6, 7, 9, 10, 11, 12, 80], [4], [5, 6, 7, 9, 10, 11, 12, 14], [5, 6, 7, 9, 10, 11, 12, 14], [5, 6, 7, 9, 10, 11, 12, 14, 93], [5, 6, 7, 9, 10, 11, 12, 14], [5, 6, 7, 9, 10, 11, 12, 14, 15], [5, 6, 7, 9, 10, 11, 14, 15], [5, 6, 7, 9, 10, 11], [5, 6, 7, 9, 10, 11], [5, 6, 7, 10, 16, 17], [5, 6, 7, 10, 16, 17, 18, 19], [5, 6, 7, 16, 17, 18, 19, 20, 21], [4]] = some (c_laws_FnLeast, [.tmp 4], 160) := by kernel_rfl
abbrev f_spec_DrawLeastSystem : Nat := 10
def c_spec_DrawLeastSystem : SC :=
 .seq (.reg [
     ⟨(some 2), .mv (.const (.int .i64 0)), none⟩,
     ⟨(some 3), .mv (.const (.slice none 0 0)), none⟩] [0])
 (.seq (.reg [
     ⟨(some 5), .mv (.tmp 0), none⟩,
     ⟨(some 6), .call 35 [(.tmp 5)], none⟩,
     ⟨(some 4), .mv (.tmp 6), none⟩] [4])
 (.seq (.reg [
     ⟨(some 7), .mv (.tmp 4), none⟩,
     ⟨(some 8), .call 36 [(.tmp 7)], none⟩,
     ⟨(some 9), .ext (.tmp 8) 0, none⟩,
     ⟨(some 10), .ext (.tmp 8) 1, none⟩,
     ⟨(some 2), .mv (.tmp 9), none⟩,
     ⟨(some 3), .mv (.tmp 10), none⟩] [2, 3])
 (.ret)))
theorem s_spec_DrawLeastSystem : stripF Try.prog 10 [[0], [4], [2, 3]] = some (c_spec_DrawLeastSystem, [.tmp 2, .tmp 3], 11) := by kernel_rfl
abbrev f_spec_l00From : Nat := 35
def c_spec_l00From : SC :=
 .seq (.reg [
     ⟨(some 2), .mv (.const (.pointer none)), none⟩] [0])
 (.seq (.reg [
     ⟨(some 3), .mv (.tmp 0), none⟩,
     ⟨(some 4), .build [(.slice none 0 0), (.int .i64 0), (.int .u64 0)] [(0, 1, (.tmp 3))], none⟩,
     ⟨(some 5), .box 104 (.tmp 4), none⟩,
     ⟨(some 2), .mv (.tmp 5), none⟩] [2])
 (.ret))
theorem s_spec_l00From : stripF Try.prog 35 [[0], [2]] = some (c_spec_l00From, [.tmp 2], 6) := by kernel_rfl
theorem implLeastP (v : Int) (bs : List (List Int)) (hl : bs.length ≤ 2000000) : PFn Try.prog f_impl_LeastSystem [I v, ilSS bs] (.tup [ilSS (leastV v bs).1, I (leastV v bs).2]) := by
  intro H
  refine (implLeast_fss v bs hl H).gr ?_
  rintro r H' ⟨ext, u, rfl, rfl, ho⟩
  exact GR.froz (froz_tup2 (ho.froz (fun i hi => hi.1)) (froz_I' _)) ⟨rfl, rfl⟩
theorem l00From_ok (H : List Blk) (ns : List Int) : ACalls Try.prog f_spec_l00From [ilY ns] H (fun r H' => r = .pc H.length 0 0 ∧ H' = H ++ [srcB (ilY ns) 0 0]) := by
  refine ACalls.introB s_spec_l00From (by simp) ?_; intro hB hA; unfold c_spec_l00From; simp (config := { maxSteps := 1000000 }) (disch := (first | omega | (simp only [go_sem]; try omega))) only [go_sem, Nat.reduceAdd, Nat.reduceEqDiff, Nat.reduceLeDiff, Nat.reduceMul, Nat.reduceLT, reduceIte, Int.reduceToNat, w64_id, cast_succ]
  repeat (first | (with_reducible first | refine SW.seq ?_ | refine SW.block ?_ | refine SW.rowC ?_ | refine SW.skip ?_ | refine SW.exit ?_ | intro _ | refine And.intro (by omega) ?_) | simp (config := { maxSteps := 1000000 }) (disch := (first | omega | (simp only [go_sem]; try omega))) only [go_sem, Nat.reduceAdd, Nat.reduceEqDiff, Nat.reduceLeDiff, Nat.reduceMul, Nat.reduceLT, reduceIte, Int.reduceToNat, w64_id, cast_succ])
  refine ⟨rfl, ?_⟩
  refine SW.ret ?_; (try simp only [go_sem]); (first | refine FunPost.one ?_ | refine FunPost.two ?_ | refine FunPost.three ?_); (try simp (config := { maxSteps := 1000000 }) (disch := (first | omega | (simp only [go_sem]; try omega))) only [go_sem, Nat.reduceAdd, Nat.reduceEqDiff, Nat.reduceLeDiff, Nat.reduceMul, Nat.reduceLT, reduceIte, Int.reduceToNat, w64_id, cast_succ])
  exact GR.of ⟨rfl, rfl⟩
theorem DrawLeast_ok (H : List Blk) (ns : List Int) (hz : ∀ z ∈ ns, 0 ≤ z ∧ z < 256) (hl : ns.length ≤ 2000000) :
    ACalls Try.prog f_spec_DrawLeastSystem [ilY ns] H (fun r H' => H' = H ∧ ∃ v bl, r = .tup [I v, ilSS bl] ∧ smallI v ∧ smallL 8 8 bl) := by
  have hbn := fun k => Bel_ilY k ns
  refine ACalls.introB s_spec_DrawLeastSystem (by simp) ?_; intro hB hA; unfold c_spec_DrawLeastSystem; simp (config := { maxSteps := 1000000 }) (disch := (first | omega | (simp only [go_sem]; try omega))) only [go_sem, Nat.reduceAdd, Nat.reduceEqDiff, Nat.reduceLeDiff, Nat.reduceMul, Nat.reduceLT, reduceIte, Int.reduceToNat, w64_id, cast_succ]
  repeat (first | (with_reducible first | refine SW.seq ?_ | refine SW.block ?_ | refine SW.rowC ?_ | refine SW.skip ?_ | refine SW.exit ?_ | intro _ | refine And.intro (by omega) ?_) | simp (config := { maxSteps := 1000000 }) (disch := (first | omega | (simp only [go_sem]; try omega))) only [go_sem, Nat.reduceAdd, Nat.reduceEqDiff, Nat.reduceLeDiff, Nat.reduceMul, Nat.reduceLT, reduceIte, Int.reduceToNat, w64_id, cast_succ])
  refine (l00From_ok H ns).mono ?_
  rintro r H1 ⟨rfl, rfl⟩
  repeat (first | (with_reducible first | refine SW.seq ?_ | refine SW.block ?_ | refine SW.rowC ?_ | refine SW.skip ?_ | refine SW.exit ?_ | intro _ | refine And.intro (by omega) ?_) | simp (config := { maxSteps := 1000000 }) (disch := (first | omega | (simp only [go_sem]; try omega))) only [go_sem, Nat.reduceAdd, Nat.reduceEqDiff, Nat.reduceLeDiff, Nat.reduceMul, Nat.reduceLT, reduceIte, Int.reduceToNat, w64_id, cast_succ])
  refine (l27Draw_ok _ H.length (ilY ns) ns 0 0 (by simp) (codeOk_ilY hz hl) hbn (by omega)).mono ?_
  rintro r H1 ⟨v, bl, u', t', rfl, hv, hbl, rfl⟩
  rw [List.set_append_right _ _ (Nat.le_refl _)]
  repeat (first | (with_reducible first | refine SW.seq ?_ | refine SW.block ?_ | refine SW.rowC ?_ | refine SW.skip ?_ | refine SW.exit ?_ | intro _ | refine And.intro (by omega) ?_) | simp (config := { maxSteps := 1000000 }) (disch := (first | omega | (simp only [go_sem]; try omega))) only [go_sem, Nat.reduceAdd, Nat.reduceEqDiff, Nat.reduceLeDiff, Nat.reduceMul, Nat.reduceLT, reduceIte, Int.reduceToNat, w64_id, cast_succ])
  refine SW.ret ?_; (try simp only [go_sem]); (first | refine FunPost.one ?_ | refine FunPost.two ?_ | refine FunPost.three ?_); (try simp (config := { maxSteps := 1000000 }) (disch := (first | omega | (simp only [go_sem]; try omega))) only [go_sem, Nat.reduceAdd, Nat.reduceEqDiff, Nat.reduceLeDiff, Nat.reduceMul, Nat.reduceLT, reduceIte, Int.reduceToNat, w64_id, cast_succ])
  exact GR.froz (froz_tup2 (froz_I' _) (froz_ilSS _)) ⟨rfl, v, bl, rfl, hv, hbl⟩
theorem slcRw {H : List Blk} (K : AV → Prop) (xs : List (List Int)) (z y : Int) (h0 : 0 ≤ z) (h1 : z ≤ y) (h2 : y ≤ xs.length) : SlcG 1 (ilSS xs) z y H K (some (xs.length, xs.map ilS)) = K (ilSS ((xs.drop z.toNat).take (y.toNat - z.toNat))) := by
  unfold ilSS
  rw [SlcG_il (h0 := h0) (h1 := h1) (h2 := h2)]
  simp only [Nat.mul_one, ← List.map_drop, ← List.map_take, List.length_take, List.length_drop]
  rw [show min (y.toNat - z.toNat) (xs.length - z.toNat) = y.toNat - z.toNat by omega]
theorem AppX_0 {ty sz bytes i ver len : Nat} {H : List Blk} {K : AV → List Blk → Prop} : AppX ty sz bytes H (.nm i ver 0 len) K (some (0, [])) = AppN ty sz bytes i ver len 0 [] H K H[i]? := AppX_nm _ _ _ _ _ _ _ _ _ _ (by simp) rfl
theorem lawFnLeast_ok (H : List Blk) (ns ms : List Int) (hz : ∀ z ∈ ns, 0 ≤ z ∧ z < 256) (hy : ∀ z ∈ ms, 0 ≤ z ∧ z < 256) : ACalls Try.prog f_laws_FnLeast [ilY ns, ilY ms] H (fun r _ => r = Bv true) := by
  have hbn := fun k => Bel_ilY k ns
  have hbm := fun k => Bel_ilY k ms
  have l1 := b10Long_fn ns
  have l2 := b10Long_fn ms
  by_cases h1 : (1048576 : Int) < ns.length
  · rw [decide_eq_true h1] at l1
    refine ACalls.introB s_laws_FnLeast (by simp) ?_; intro hB hA; unfold c_laws_FnLeast; simp (config := { maxSteps := 1000000 }) (disch := (first | omega | (simp only [go_sem]; try omega))) only [go_sem, Nat.reduceAdd, Nat.reduceEqDiff, Nat.reduceLeDiff, Nat.reduceMul, Nat.reduceLT, reduceIte, Int.reduceToNat, w64_id, cast_succ]
    repeat (first | (with_reducible first | refine SW.seq ?_ | refine SW.block ?_ | refine SW.rowC ?_ | refine SW.skip ?_ | refine SW.exit ?_ | refine PFn.use (l1) ?_ | refine PFn.useq (l1) ?_ | intro _ | refine And.intro (by omega) ?_) | simp (config := { maxSteps := 1000000 }) (disch := (first | omega | (simp only [go_sem]; try omega))) only [go_sem, Nat.reduceAdd, Nat.reduceEqDiff, Nat.reduceLeDiff, Nat.reduceMul, Nat.reduceLT, reduceIte, Int.reduceToNat, w64_id, cast_succ])
    refine SW.condT rfl ?_
    repeat (first | (with_reducible first | refine SW.seq ?_ | refine SW.block ?_ | refine SW.rowC ?_ | refine SW.skip ?_ | refine SW.exit ?_ | intro _ | refine And.intro (by omega) ?_) | simp (config := { maxSteps := 1000000 }) (disch := (first | omega | (simp only [go_sem]; try omega))) only [go_sem, Nat.reduceAdd, Nat.reduceEqDiff, Nat.reduceLeDiff, Nat.reduceMul, Nat.reduceLT, reduceIte, Int.reduceToNat, w64_id, cast_succ])
    refine SW.ret ?_; (try simp only [go_sem]); (first | refine FunPost.one ?_ | refine FunPost.two ?_ | refine FunPost.three ?_); (try simp (config := { maxSteps := 1000000 }) (disch := (first | omega | (simp only [go_sem]; try omega))) only [go_sem, Nat.reduceAdd, Nat.reduceEqDiff, Nat.reduceLeDiff, Nat.reduceMul, Nat.reduceLT, reduceIte, Int.reduceToNat, w64_id, cast_succ])
    exact GR.of rfl
  rw [decide_eq_false h1] at l1
  by_cases h2 : (1048576 : Int) < ms.length
  · rw [decide_eq_true h2] at l2
    refine ACalls.introB s_laws_FnLeast (by simp) ?_; intro hB hA; unfold c_laws_FnLeast; simp (config := { maxSteps := 1000000 }) (disch := (first | omega | (simp only [go_sem]; try omega))) only [go_sem, Nat.reduceAdd, Nat.reduceEqDiff, Nat.reduceLeDiff, Nat.reduceMul, Nat.reduceLT, reduceIte, Int.reduceToNat, w64_id, cast_succ]
    repeat (first | (with_reducible first | refine SW.seq ?_ | refine SW.block ?_ | refine SW.rowC ?_ | refine SW.skip ?_ | refine SW.exit ?_ | refine PFn.use (l1) ?_ | refine PFn.useq (l1) ?_ | refine PFn.use (l2) ?_ | refine PFn.useq (l2) ?_ | intro _ | refine And.intro (by omega) ?_) | simp (config := { maxSteps := 1000000 }) (disch := (first | omega | (simp only [go_sem]; try omega))) only [go_sem, Nat.reduceAdd, Nat.reduceEqDiff, Nat.reduceLeDiff, Nat.reduceMul, Nat.reduceLT, reduceIte, Int.reduceToNat, w64_id, cast_succ])
    refine SW.condT rfl ?_
    repeat (first | (with_reducible first | refine SW.seq ?_ | refine SW.block ?_ | refine SW.rowC ?_ | refine SW.skip ?_ | refine SW.exit ?_ | intro _ | refine And.intro (by omega) ?_) | simp (config := { maxSteps := 1000000 }) (disch := (first | omega | (simp only [go_sem]; try omega))) only [go_sem, Nat.reduceAdd, Nat.reduceEqDiff, Nat.reduceLeDiff, Nat.reduceMul, Nat.reduceLT, reduceIte, Int.reduceToNat, w64_id, cast_succ])
    refine SW.ret ?_; (try simp only [go_sem]); (first | refine FunPost.one ?_ | refine FunPost.two ?_ | refine FunPost.three ?_); (try simp (config := { maxSteps := 1000000 }) (disch := (first | omega | (simp only [go_sem]; try omega))) only [go_sem, Nat.reduceAdd, Nat.reduceEqDiff, Nat.reduceLeDiff, Nat.reduceMul, Nat.reduceLT, reduceIte, Int.reduceToNat, w64_id, cast_succ])
    exact GR.of rfl
  rw [decide_eq_false h2] at l2
  refine ACalls.introB s_laws_FnLeast (by simp) ?_; intro hB hA; unfold c_laws_FnLeast; simp (config := { maxSteps := 1000000 }) (disch := (first | omega | (simp only [go_sem]; try omega))) only [go_sem, Nat.reduceAdd, Nat.reduceEqDiff, Nat.reduceLeDiff, Nat.reduceMul, Nat.reduceLT, reduceIte, Int.reduceToNat, w64_id, cast_succ]
  repeat (first | (with_reducible first | refine SW.seq ?_ | refine SW.block ?_ | refine SW.rowC ?_ | refine SW.skip ?_ | refine SW.exit ?_ | refine PFn.use (l1) ?_ | refine PFn.useq (l1) ?_ | refine PFn.use (l2) ?_ | refine PFn.useq (l2) ?_ | intro _ | refine And.intro (by omega) ?_) | simp (config := { maxSteps := 1000000 }) (disch := (first | omega | (simp only [go_sem]; try omega))) only [go_sem, Nat.reduceAdd, Nat.reduceEqDiff, Nat.reduceLeDiff, Nat.reduceMul, Nat.reduceLT, reduceIte, Int.reduceToNat, w64_id, cast_succ])
  refine SW.condF rfl ?_
  repeat (first | (with_reducible first | refine SW.seq ?_ | refine SW.block ?_ | refine SW.rowC ?_ | refine SW.skip ?_ | refine SW.exit ?_ | intro _ | refine And.intro (by omega) ?_) | simp (config := { maxSteps := 1000000 }) (disch := (first | omega | (simp only [go_sem]; try omega))) only [go_sem, Nat.reduceAdd, Nat.reduceEqDiff, Nat.reduceLeDiff, Nat.reduceMul, Nat.reduceLT, reduceIte, Int.reduceToNat, w64_id, cast_succ])
  refine (DrawLeast_ok _ ns hz (by omega)).mono ?_
  rintro r H1 ⟨rfl, v, bl, rfl, hv, hbl⟩
  have hbl8 := hbl.1
  have hx : ∀ xs ∈ bl, ∀ x ∈ xs, (Lit.int .i64 x).wf = true := fun xs hxs x hx => by
    have := (hbl.2 xs hxs).2 x hx
    unfold smallI at this
    exact wfOfI (by omega)
  have hv1 : w64 v = v := w64_id (by unfold smallI at hv; omega) (by unfold smallI at hv; omega)
  repeat (first | (with_reducible first | refine SW.seq ?_ | refine SW.block ?_ | refine SW.rowC ?_ | refine SW.skip ?_ | refine SW.exit ?_ | refine PFn.use (implLeastP v bl (by omega)) ?_ | refine PFn.useq (implLeastP v bl (by omega)) ?_ | intro _ | refine And.intro (by omega) ?_) | simp (config := { maxSteps := 1000000 }) (disch := (first | omega | (simp only [go_sem]; try omega))) only [go_sem, Nat.reduceAdd, Nat.reduceEqDiff, Nat.reduceLeDiff, Nat.reduceMul, Nat.reduceLT, reduceIte, Int.reduceToNat, w64_id, cast_succ])
  by_cases hs0 : systemOk v bl = true
  · obtain ⟨n, rfl, hs⟩ := sysOk_of hs0
    have e1 : leastV n bl = (leastF bl (perms n), 0) := by unfold leastV; rw [if_pos hs0]; rfl
    rw [e1]
    repeat (first | (with_reducible first | refine SW.seq ?_ | refine SW.block ?_ | refine SW.rowC ?_ | refine SW.skip ?_ | refine SW.exit ?_ | intro _ | refine And.intro (by omega) ?_) | simp (config := { maxSteps := 1000000 }) (disch := (first | omega | (simp only [go_sem]; try omega))) only [go_sem, Nat.reduceAdd, Nat.reduceEqDiff, Nat.reduceLeDiff, Nat.reduceMul, Nat.reduceLT, reduceIte, Int.reduceToNat, w64_id, cast_succ])
    refine SW.condF rfl ?_
    repeat (first | (with_reducible first | refine SW.seq ?_ | refine SW.block ?_ | refine SW.rowC ?_ | refine SW.skip ?_ | refine SW.exit ?_ | intro _ | refine And.intro (by omega) ?_) | simp (config := { maxSteps := 1000000 }) (disch := (first | omega | (simp only [go_sem]; try omega))) only [go_sem, Nat.reduceAdd, Nat.reduceEqDiff, Nat.reduceLeDiff, Nat.reduceMul, Nat.reduceLT, reduceIte, Int.reduceToNat, w64_id, cast_succ])
    have h6 := hs.2.1
    have h1' := hs.1
    refine (b10Perm_ok _ ms n hy (by omega) h1' (by omega)).mono ?_
    rintro r H2 ⟨rfl, p, rfl, hp⟩
    generalize hls : leastF bl (perms n) = least at *
    repeat (first | (with_reducible first | refine SW.seq ?_ | refine SW.block ?_ | refine SW.rowC ?_ | refine SW.skip ?_ | refine SW.exit ?_ | intro _ | refine And.intro (by omega) ?_) | simp (config := { maxSteps := 1000000 }) (disch := (first | omega | (simp only [go_sem]; try omega))) only [go_sem, Nat.reduceAdd, Nat.reduceEqDiff, Nat.reduceLeDiff, Nat.reduceMul, Nat.reduceLT, reduceIte, Int.reduceToNat, w64_id, cast_succ])
    refine SW.loopE (fun E0 H0 q E' H' => ∃ (pre post : List (List Int)) (i ver : Nat) (ext : List Blk), bl = pre ++ post ∧ q = post.length ∧ E' = aput (aput E0 11 (I pre.length)) 10 (.nm i ver 0 (mvd p pre).length) ∧ H' = H2 ++ ext ∧ H2.length ≤ i ∧ H'[i]? = some ⟨ver, tyLL, 1, (mvd p pre).map ilS⟩) bl.length ⟨[], bl, H2.length, 0, _, rfl, rfl, rfl, rfl, Nat.le_refl _, by rw [List.getElem?_append_right (Nat.le_refl _)]; simp; rfl⟩ ?_
    rintro q E' H' ⟨pre, post, i, ver, ext, hpq, rfl, rfl, rfl, hi, hib⟩
    have hpl : pre.length ≤ 8 := by rw [hpq, List.length_append] at hbl8; omega
    have hml : (mvd p pre).length ≤ 8 := by
      have := sortU_len (cf := cmpL) (pre.map (img p))
      rw [List.length_map] at this
      unfold mvd; omega
    repeat (first | (with_reducible first | refine SW.seq ?_ | refine SW.block ?_ | refine SW.rowC ?_ | refine SW.skip ?_ | refine SW.exit ?_ | intro _ | refine And.intro (by omega) ?_) | simp (config := { maxSteps := 1000000 }) (disch := (first | omega | (simp only [go_sem]; try omega))) only [go_sem, Nat.reduceAdd, Nat.reduceEqDiff, Nat.reduceLeDiff, Nat.reduceMul, Nat.reduceLT, reduceIte, Int.reduceToNat, w64_id, cast_succ])
    refine SW.froz hB (by simp) (.cons _ (ren_I _) (.cons _ (ren_ilSS _) (.cons _ (ren_ilSS _) (.cons _ (ren_ilS _) (.cons _ (ren_of_froz (froz_rowS hi hib)) (.cons _ (ren_I _) (.cons _ (ren_B _) .nil))))))) ?_
    generalize hmv : mvd p pre = mv at *
    repeat (first | (with_reducible first | refine SW.seq ?_ | refine SW.block ?_ | refine SW.rowC ?_ | refine SW.skip ?_ | refine SW.exit ?_ | intro _ | refine And.intro (by omega) ?_) | simp (config := { maxSteps := 1000000 }) (disch := (first | omega | (simp only [go_sem]; try omega))) only [go_sem, Nat.reduceAdd, Nat.reduceEqDiff, Nat.reduceLeDiff, Nat.reduceMul, Nat.reduceLT, reduceIte, Int.reduceToNat, w64_id, cast_succ])
    (first | refine SW.condD rfl (fun h3 => ?_) (fun h3 => ?_) | refine SW.condN rfl (fun h3 => ?_) (fun h3 => ?_) | refine SW.condNB rfl (fun h3 => ?_) (fun h3 => ?_) | refine SW.condB rfl (fun h3 => ?_) (fun h3 => ?_))
    · obtain ⟨b, post, rfl, hg, -⟩ := consOf (d := []) hpq (by omega)
      have hb := hs.2.2.2 b (by rw [hpq]; simp)
      have hap := ApplySet_in n p b (by omega) hp hb
      have hil := img_lenI hp hb
      have hnew := mvd_new (hpq ▸ hs) hp
      rw [hmv] at hnew
      have hsn := mvd_snoc p pre b
      rw [hmv] at hsn
      generalize img p b = y at *
      have hd : decide (¬ (y.length : Int) = (b.length : Int)) = false := decide_eq_false (by omega)
      repeat (first | (with_reducible first | refine SW.seq ?_ | refine SW.block ?_ | refine SW.rowC ?_ | refine SW.skip ?_ | refine SW.exit ?_ | refine PFn.use (hap) ?_ | refine PFn.useq (hap) ?_ | intro _ | refine And.intro (by omega) ?_) | simp (config := { maxSteps := 1000000 }) (disch := (first | omega | (simp only [go_sem]; try omega))) only [go_sem, Nat.reduceAdd, Nat.reduceEqDiff, Nat.reduceLeDiff, Nat.reduceMul, Nat.reduceLT, reduceIte, Int.reduceToNat, w64_id, cast_succ, hg, hil])
      refine SW.condF rfl ?_
      repeat (first | (with_reducible first | refine SW.seq ?_ | refine SW.block ?_ | refine SW.rowC ?_ | refine SW.skip ?_ | refine SW.exit ?_ | intro _ | refine And.intro (by omega) ?_) | simp (config := { maxSteps := 1000000 }) (disch := (first | omega | (simp only [go_sem]; try omega))) only [go_sem, Nat.reduceAdd, Nat.reduceEqDiff, Nat.reduceLeDiff, Nat.reduceMul, Nat.reduceLT, reduceIte, Int.reduceToNat, w64_id, cast_succ])
      refine SW.loopE (fun E0 H0 q E' H' => ∃ l1 l2 : List (List Int), mv = l1 ++ l2 ∧ q = l2.length ∧ (∀ z ∈ l1, cmpL z y < 0) ∧ E' = aput E0 14 (I l1.length) ∧ H' = H0) mv.length ⟨[], mv, rfl, rfl, by simp, rfl, rfl⟩ ?_
      rintro q E' H' ⟨l1, l2, hl, rfl, hlt, rfl, rfl⟩
      simp (config := { maxSteps := 1000000 }) (disch := (first | omega | (simp only [go_sem]; try omega))) only [go_sem, Nat.reduceAdd, Nat.reduceEqDiff, Nat.reduceLeDiff, Nat.reduceMul, Nat.reduceLT, reduceIte, Int.reduceToNat, w64_id, cast_succ]
      repeat (first | (with_reducible first | refine SW.seq ?_ | refine SW.block ?_ | refine SW.rowC ?_ | refine SW.skip ?_ | refine SW.exit ?_ | intro _ | refine And.intro (by omega) ?_) | simp (config := { maxSteps := 1000000 }) (disch := (first | omega | (simp only [go_sem]; try omega))) only [go_sem, Nat.reduceAdd, Nat.reduceEqDiff, Nat.reduceLeDiff, Nat.reduceMul, Nat.reduceLT, reduceIte, Int.reduceToNat, w64_id, cast_succ])
      refine ⟨fun h4 => ?_, fun h4 => ?_⟩
      · have h5 : l1.length < mv.length := by simp at h4; omega
        obtain ⟨z, l2, rfl, hg2, -⟩ := consOf (d := []) hl (by omega)
        have hz1 := cmpL_m1 z y
        repeat (first | (with_reducible first | refine SW.seq ?_ | refine SW.block ?_ | refine SW.rowC ?_ | refine SW.skip ?_ | refine SW.exit ?_ | refine PFn.use (implCompareLists_fn _ _) ?_ | refine PFn.useq (implCompareLists_fn _ _) ?_ | intro _ | refine And.intro (by omega) ?_) | simp (config := { maxSteps := 1000000 }) (disch := (first | omega | (simp only [go_sem]; try omega))) only [go_sem, Nat.reduceAdd, Nat.reduceEqDiff, Nat.reduceLeDiff, Nat.reduceMul, Nat.reduceLT, reduceIte, Int.reduceToNat, w64_id, cast_succ, hg2])
        by_cases hc : cmpL z y = -1
        · have d1 : decide (cmpL z y = -1) = true := decide_eq_true hc
          repeat (first | (with_reducible first | refine SW.seq ?_ | refine SW.block ?_ | refine SW.rowC ?_ | refine SW.skip ?_ | refine SW.exit ?_ | intro _ | refine And.intro (by omega) ?_) | simp (config := { maxSteps := 1000000 }) (disch := (first | omega | (simp only [go_sem]; try omega))) only [go_sem, Nat.reduceAdd, Nat.reduceEqDiff, Nat.reduceLeDiff, Nat.reduceMul, Nat.reduceLT, reduceIte, Int.reduceToNat, w64_id, cast_succ, d1])
          refine SW.condT rfl ?_
          repeat (first | (with_reducible first | refine SW.seq ?_ | refine SW.block ?_ | refine SW.rowC ?_ | refine SW.skip ?_ | refine SW.exit ?_ | intro _ | refine And.intro (by omega) ?_) | simp (config := { maxSteps := 1000000 }) (disch := (first | omega | (simp only [go_sem]; try omega))) only [go_sem, Nat.reduceAdd, Nat.reduceEqDiff, Nat.reduceLeDiff, Nat.reduceMul, Nat.reduceLT, reduceIte, Int.reduceToNat, w64_id, cast_succ])
          refine SLoop.next l2.length (by simp) ⟨l1 ++ [z], l2, by simp [hl], rfl, fun w hw => ?_, by simp [go_sem], rfl⟩
          rcases List.mem_append.1 hw with hw | hw
          · exact hlt w hw
          · rw [List.mem_singleton.1 hw]; omega
        · have d1 : decide (cmpL z y = -1) = false := decide_eq_false hc
          repeat (first | (with_reducible first | refine SW.seq ?_ | refine SW.block ?_ | refine SW.rowC ?_ | refine SW.skip ?_ | refine SW.exit ?_ | intro _ | refine And.intro (by omega) ?_) | simp (config := { maxSteps := 1000000 }) (disch := (first | omega | (simp only [go_sem]; try omega))) only [go_sem, Nat.reduceAdd, Nat.reduceEqDiff, Nat.reduceLeDiff, Nat.reduceMul, Nat.reduceLT, reduceIte, Int.reduceToNat, w64_id, cast_succ, d1])
          refine SW.condF rfl ?_
          have hin : insU cmpL y mv = l1 ++ y :: z :: l2 := by rw [hl, ins_past hlt, ins_here (by omega) (hnew z (by rw [hl]; simp))]
          rw [hin] at hsn
          generalize (z :: l2) = l2 at *
          have hll : mv.length = l1.length + l2.length := by rw [hl]; simp
          have ht1 : mv.take l1.length = l1 := by rw [hl]; simp
          have ht2 : (mv.drop l1.length).take (mv.length - l1.length) = l2 := by rw [hl]; simp
          repeat (first | (with_reducible first | refine SW.seq ?_ | refine SW.block ?_ | refine SW.rowC ?_ | refine SW.skip ?_ | refine SW.exit ?_ | intro _ | refine And.intro (by omega) ?_) | simp (config := { maxSteps := 1000000 }) (disch := (first | omega | (simp only [go_sem]; try omega))) only [go_sem, Nat.reduceAdd, Nat.reduceEqDiff, Nat.reduceLeDiff, Nat.reduceMul, Nat.reduceLT, reduceIte, Int.reduceToNat, w64_id, cast_succ, Option.map_some, Option.map_none, slcRw, Nat.sub_zero, List.drop_zero, ht1, ht2])
          refine SLoop.next post.length (by simp) ⟨pre ++ [b], post, H'.length, 3, _, by rw [hpq]; simp, rfl, ?_, rfl, Nat.le_refl _, ?_⟩
          · rw [hsn]; simp [go_sem]; omega
          · rw [hsn, List.getElem?_append_right (Nat.le_refl _), List.take_of_length_le (by simp)]; simp
      · obtain ⟨rfl, rfl⟩ := nilOf hl (by simp at h4; omega)
        refine SW.condF rfl ?_
        have hin : insU cmpL y l1 = l1 ++ y :: [] := by have := ins_past (l2 := []) hlt; rw [List.append_nil] at this; exact this
        have ht1 : l1.take l1.length = l1 := by simp
        have ht2 : (l1.drop l1.length).take (l1.length - l1.length) = [] := by simp
        repeat (first | (with_reducible first | refine SW.seq ?_ | refine SW.block ?_ | refine SW.rowC ?_ | refine SW.skip ?_ | refine SW.exit ?_ | intro _ | refine And.intro (by omega) ?_) | simp (config := { maxSteps := 1000000 }) (disch := (first | omega | (simp only [go_sem]; try omega))) only [go_sem, Nat.reduceAdd, Nat.reduceEqDiff, Nat.reduceLeDiff, Nat.reduceMul, Nat.reduceLT, reduceIte, Int.reduceToNat, w64_id, cast_succ, Option.map_some, Option.map_none, slcRw, Nat.sub_zero, List.drop_zero, ht1, ht2, AppX_0])
        rw [hin] at hsn
        refine SLoop.next post.length (by simp) ⟨pre ++ [b], post, H'.length, 3, _, by rw [hpq]; simp, rfl, ?_, rfl, Nat.le_refl _, ?_⟩
        · rw [hsn]; simp [go_sem]
        · rw [hsn, List.getElem?_append_right (Nat.le_refl _)]; simp; exact List.take_of_length_le (by simp)
    · obtain ⟨rfl, rfl⟩ := nilOf hpq (by omega)
      have hmvS : mv = imgS p pre := hmv.symm
      subst hmvS
      have e2 : leastV n (imgS p pre) = (leastF pre (perms n), 0) := by
        unfold leastV; rw [if_pos (systemOk_img hs0 hs hp)]; simp only [Int.toNat_natCast]; rw [least_inv hs hp]
      have il := implLeastP n (imgS p pre) (by omega)
      rw [e2, hls] at il
      have ia := implSysAut_fn n pre (by omega)
      rw [if_pos hs0] at ia
      have ib := implSysAut_fn n (imgS p pre) (by omega)
      rw [if_pos (systemOk_img hs0 hs hp), Int.toNat_natCast, sameC_inv hs hp] at ib
      have hlo := leastF_ok hs (perms n) (fun p hp => perms_ok hp)
      have iv := implValidSystem_fn n least
      have hsl : systemOk n least = true := by
        obtain ⟨q, hq, hqe⟩ := least_ex hs
        rw [← hls, hqe]
        exact systemOk_img hs0 hs hq
      rw [hsl] at iv
      rw [hls] at hlo
      have hll := hlo.1
      have il2 := b10Lists_eq least (by omega) (fun x hx => by have := hlo.2 x hx; omega)
      have hd : decide ((least.length : Int) = pre.length) = true := decide_eq_true (by omega)
      repeat (first | (with_reducible first | refine SW.seq ?_ | refine SW.block ?_ | refine SW.rowC ?_ | refine SW.skip ?_ | refine SW.exit ?_ | refine PFn.use (il) ?_ | refine PFn.useq (il) ?_ | refine PFn.use (ia) ?_ | refine PFn.useq (ia) ?_ | refine PFn.use (ib) ?_ | refine PFn.useq (ib) ?_ | refine PFn.use (iv) ?_ | refine PFn.useq (iv) ?_ | refine PFn.use (il2) ?_ | refine PFn.useq (il2) ?_ | intro _ | refine And.intro (by omega) ?_) | simp (config := { maxSteps := 1000000 }) (disch := (first | omega | (simp only [go_sem]; try omega))) only [go_sem, Nat.reduceAdd, Nat.reduceEqDiff, Nat.reduceLeDiff, Nat.reduceMul, Nat.reduceLT, reduceIte, Int.reduceToNat, w64_id, cast_succ, hd])
      refine SW.ret ?_; (try simp only [go_sem]); (first | refine FunPost.one ?_ | refine FunPost.two ?_ | refine FunPost.three ?_); (try simp (config := { maxSteps := 1000000 }) (disch := (first | omega | (simp only [go_sem]; try omega))) only [go_sem, Nat.reduceAdd, Nat.reduceEqDiff, Nat.reduceLeDiff, Nat.reduceMul, Nat.reduceLT, reduceIte, Int.reduceToNat, w64_id, cast_succ])
      exact GR.of rfl
  · have e1 : leastV v bl = ([], 1) := by unfold leastV; rw [if_neg hs0]
    rw [e1]
    repeat (first | (with_reducible first | refine SW.seq ?_ | refine SW.block ?_ | refine SW.rowC ?_ | refine SW.skip ?_ | refine SW.exit ?_ | intro _ | refine And.intro (by omega) ?_) | simp (config := { maxSteps := 1000000 }) (disch := (first | omega | (simp only [go_sem]; try omega))) only [go_sem, Nat.reduceAdd, Nat.reduceEqDiff, Nat.reduceLeDiff, Nat.reduceMul, Nat.reduceLT, reduceIte, Int.reduceToNat, w64_id, cast_succ])
    refine SW.condT rfl ?_
    have hsv := specValidSystem_fn v bl hx
    rw [Bool.not_eq_true] at hs0
    rw [hs0] at hsv
    have hd : decide (((0 : Nat) : Int) = 0) = true := rfl
    repeat (first | (with_reducible first | refine SW.seq ?_ | refine SW.block ?_ | refine SW.rowC ?_ | refine SW.skip ?_ | refine SW.exit ?_ | refine PFn.use (hsv) ?_ | refine PFn.useq (hsv) ?_ | intro _ | refine And.intro (by omega) ?_) | simp (config := { maxSteps := 1000000 }) (disch := (first | omega | (simp only [go_sem]; try omega))) only [go_sem, Nat.reduceAdd, Nat.reduceEqDiff, Nat.reduceLeDiff, Nat.reduceMul, Nat.reduceLT, reduceIte, Int.reduceToNat, w64_id, cast_succ, hd])
    refine SW.ret ?_; (try simp only [go_sem]); (first | refine FunPost.one ?_ | refine FunPost.two ?_ | refine FunPost.three ?_); (try simp (config := { maxSteps := 1000000 }) (disch := (first | omega | (simp only [go_sem]; try omega))) only [go_sem, Nat.reduceAdd, Nat.reduceEqDiff, Nat.reduceLeDiff, Nat.reduceMul, Nat.reduceLT, reduceIte, Int.reduceToNat, w64_id, cast_succ])
    exact GR.of rfl
end Go.Proofs.Ytogapbapbmhdfaa
