/- The law of RefineColors. -/
import Derived.Test.YtmdeibdplpodpaaProg
import Derived.KernelRfl
import Derived.Test.YtmdeibdplpodpaazRU
import Derived.Test.YtmdeibdplpodpaazRG
import Derived.Test.YtmdeibdplpodpaazK4
set_option linter.unusedSimpArgs false
set_option linter.unusedVariables false
set_option maxHeartbeats 4000000
set_option maxRecDepth 100000
namespace Go.Proofs.Ytmdeibdplpodpaa
open Go.Av
abbrev f_laws_FnExactRefineColors : Nat := 5
def c_laws_FnExactRefineColors : SC :=
 .seq (.reg [
     ⟨(some 2), .box 25 (.tmp 0), none⟩,
     ⟨(some 4), .mv (.const (.bool false)), none⟩] [1, 2])
 (.seq (.seq (.reg [
     ⟨(some 17), .mv (.tmp 1), none⟩,
     ⟨(some 18), .len (.tmp 17), none⟩,
     ⟨(some 19), .bin .gtr (.tmp 18) (.const (.int .i64 1048576)), none⟩] [1, 2, 19])
 (.cond (.tmp 19)
  (.seq (.reg [
      ⟨(some 4), .mv (.const (.bool true)), none⟩] [4])
  (.ret))
  (.skip)))
 (.seq (.reg [
     ⟨(some 5), .mv (.const (.int .i64 1048576)), none⟩] [1, 2, 5])
 (.seq (.reg [
     ⟨(some 20), .load 2 true (.tmp 2), none⟩,
     ⟨(some 21), .mv (.tmp 5), none⟩,
     ⟨(some 22), .call 6 [(.tmp 20), (.tmp 21)], none⟩,
     ⟨(some 5), .mv (.tmp 22), none⟩] [1, 2, 5])
 (.seq (.seq (.reg [
     ⟨(some 23), .mv (.tmp 5), none⟩,
     ⟨(some 24), .bin .lss (.tmp 23) (.const (.int .i64 0)), none⟩] [1, 2, 24])
 (.cond (.tmp 24)
  (.seq (.reg [
      ⟨(some 4), .mv (.const (.bool true)), none⟩] [4])
  (.ret))
  (.skip)))
 (.seq (.reg [
     ⟨(some 26), .load 2 true (.tmp 2), none⟩,
     ⟨(some 27), .call 8 [(.tmp 26)], none⟩,
     ⟨(some 28), .mv (.tmp 1), none⟩,
     ⟨(some 29), .call 9 [(.tmp 28)], none⟩,
     ⟨(some 30), .call 19 [(.tmp 27), (.tmp 29)], none⟩,
     ⟨(some 25), .mv (.tmp 30), none⟩,
     ⟨(some 31), .ext (.tmp 25) 0, none⟩,
     ⟨(some 32), .ext (.tmp 25) 1, none⟩,
     ⟨(some 6), .mv (.tmp 31), none⟩,
     ⟨(some 7), .mv (.tmp 32), none⟩] [1, 2, 6, 7])
 (.seq (.reg [
     ⟨(some 33), .load 2 true (.tmp 2), none⟩,
     ⟨(some 34), .call 8 [(.tmp 33)], none⟩,
     ⟨(some 8), .alloc 30 [(.slice none 0 0), (.slice none 0 0)], none⟩,
     ⟨none, .store 2 (.tmp 8) (.tmp 34), none⟩] [1, 2, 6, 7, 8])
 (.seq (.reg [
     ⟨(some 35), .mv (.tmp 1), none⟩,
     ⟨(some 36), .call 9 [(.tmp 35)], none⟩,
     ⟨(some 9), .mv (.tmp 36), none⟩] [1, 2, 6, 7, 8, 9])
 (.seq (.reg [
     ⟨(some 38), .load 2 true (.tmp 8), none⟩,
     ⟨(some 39), .mv (.tmp 9), none⟩,
     ⟨(some 40), .call 20 [(.tmp 38), (.tmp 39)], none⟩,
     ⟨(some 37), .mv (.tmp 40), none⟩,
     ⟨(some 41), .ext (.tmp 37) 0, none⟩,
     ⟨(some 42), .ext (.tmp 37) 1, none⟩,
     ⟨(some 10), .mv (.tmp 41), none⟩,
     ⟨(some 11), .mv (.tmp 42), none⟩] [1, 2, 6, 7, 8, 9, 10, 11])
 (.seq (.seq (.reg [
     ⟨(some 43), .mv (.tmp 10), none⟩,
     ⟨(some 44), .mv (.tmp 6), none⟩,
     ⟨(some 45), .call 12 [(.tmp 43), (.tmp 44)], none⟩,
     ⟨(some 46), .un .not (.tmp 45), none⟩,
     ⟨(some 47), .mv (.tmp 46), none⟩,
     ⟨(some 48), .mv (.tmp 11), (some (47, false))⟩,
     ⟨(some 49), .mv (.tmp 7), (some (47, false))⟩,
     ⟨(some 50), .bin .neq (.tmp 48) (.tmp 49), (some (47, false))⟩,
     ⟨(some 51), .pick (.tmp 47) (.const (.bool true)) (.tmp 50), none⟩] [1, 2, 6, 7, 8, 9, 10, 11, 51])
 (.cond (.tmp 51)
  (.seq (.reg [
      ⟨(some 4), .mv (.const (.bool false)), none⟩] [4])
  (.ret))
  (.skip)))
 (.seq (.seq (.reg [
     ⟨(some 52), .load 2 true (.tmp 8), none⟩,
     ⟨(some 53), .load 2 true (.tmp 2), none⟩,
     ⟨(some 54), .qcall 8 [(.tmp 53)], none⟩,
     ⟨(some 55), .qcall 11 [(.tmp 52), (.tmp 54)], none⟩,
     ⟨(some 56), .un .not (.tmp 55), none⟩] [1, 2, 6, 7, 8, 9, 10, 11, 56])
 (.cond (.tmp 56)
  (.seq (.reg [
      ⟨(some 4), .mv (.const (.bool false)), none⟩] [4])
  (.ret))
  (.skip)))
 (.seq (.seq (.reg [
     ⟨(some 57), .mv (.tmp 9), none⟩,
     ⟨(some 58), .mv (.tmp 1), none⟩,
     ⟨(some 59), .call 9 [(.tmp 58)], none⟩,
     ⟨(some 60), .call 12 [(.tmp 57), (.tmp 59)], none⟩,
     ⟨(some 61), .un .not (.tmp 60), none⟩] [1, 2, 6, 7, 8, 9, 10, 11, 61])
 (.cond (.tmp 61)
  (.seq (.reg [
      ⟨(some 4), .mv (.const (.bool false)), none⟩] [4])
  (.ret))
  (.skip)))
 (.seq (.reg [
     ⟨(some 12), .mv (.const (.int .i64 1)), none⟩] [1, 2, 6, 7, 8, 9, 10, 11, 12])
 (.seq (.reg [
     ⟨(some 62), .load 2 true (.tmp 8), none⟩,
     ⟨(some 63), .mv (.tmp 12), none⟩,
     ⟨(some 64), .call 16 [(.tmp 62), (.tmp 63)], none⟩,
     ⟨(some 12), .mv (.tmp 64), none⟩] [1, 2, 6, 7, 9, 10, 11, 12])
 (.seq (.reg [
     ⟨(some 65), .mv (.tmp 9), none⟩,
     ⟨(some 66), .mv (.tmp 12), none⟩,
     ⟨(some 67), .call 21 [(.tmp 65), (.tmp 66)], none⟩,
     ⟨(some 12), .mv (.tmp 67), none⟩] [1, 2, 6, 7, 10, 11, 12])
 (.seq (.seq (.reg [
     ⟨(some 68), .mv (.tmp 12), none⟩,
     ⟨(some 69), .bin .lss (.tmp 68) (.const (.int .i64 0)), none⟩,
     ⟨(some 70), .mv (.tmp 69), none⟩,
     ⟨(some 71), .mv (.tmp 10), (some (70, false))⟩,
     ⟨(some 72), .mv (.tmp 6), (some (70, false))⟩,
     ⟨(some 73), .call 12 [(.tmp 71), (.tmp 72)], (some (70, false))⟩,
     ⟨(some 74), .un .not (.tmp 73), (some (70, false))⟩,
     ⟨(some 75), .pick (.tmp 70) (.const (.bool true)) (.tmp 74), none⟩,
     ⟨(some 76), .mv (.tmp 75), none⟩,
     ⟨(some 77), .mv (.tmp 11), (some (76, false))⟩,
     ⟨(some 78), .mv (.tmp 7), (some (76, false))⟩,
     ⟨(some 79), .bin .neq (.tmp 77) (.tmp 78), (some (76, false))⟩,
     ⟨(some 80), .pick (.tmp 76) (.const (.bool true)) (.tmp 79), none⟩] [1, 2, 6, 7, 10, 80])
 (.cond (.tmp 80)
  (.seq (.reg [
      ⟨(some 4), .mv (.const (.bool false)), none⟩] [4])
  (.ret))
  (.skip)))
 (.seq (.reg [
     ⟨(some 13), .mv (.const (.int .i64 1)), none⟩] [1, 2, 6, 7, 10, 13])
 (.seq (.reg [
     ⟨(some 81), .mv (.tmp 10), none⟩,
     ⟨(some 82), .mv (.tmp 13), none⟩,
     ⟨(some 83), .call 21 [(.tmp 81), (.tmp 82)], none⟩,
     ⟨(some 13), .mv (.tmp 83), none⟩] [1, 2, 6, 7, 10, 13])
 (.seq (.reg [
     ⟨(some 14), .mv (.const (.int .i64 1)), none⟩] [1, 2, 6, 7, 10, 13, 14])
 (.seq (.reg [
     ⟨(some 84), .mv (.tmp 10), none⟩,
     ⟨(some 85), .mv (.tmp 14), none⟩,
     ⟨(some 86), .call 22 [(.tmp 84), (.tmp 85)], none⟩,
     ⟨(some 14), .mv (.tmp 86), none⟩] [1, 2, 6, 7, 10, 13, 14])
 (.seq (.seq (.reg [
     ⟨(some 87), .mv (.tmp 14), none⟩,
     ⟨(some 88), .bin .lss (.tmp 87) (.const (.int .i64 0)), none⟩] [1, 2, 6, 7, 10, 13, 14, 88])
 (.cond (.tmp 88)
  (.seq (.reg [
      ⟨(some 4), .mv (.const (.bool false)), none⟩] [4])
  (.ret))
  (.skip)))
 (.seq (.seq (.reg [
     ⟨(some 89), .mv (.tmp 14), none⟩,
     ⟨(some 90), .mv (.tmp 13), none⟩,
     ⟨(some 91), .bin .neq (.tmp 89) (.tmp 90), none⟩] [1, 2, 6, 7, 10, 13, 91])
 (.cond (.tmp 91)
  (.seq (.reg [
      ⟨(some 4), .mv (.const (.bool false)), none⟩] [4])
  (.ret))
  (.skip)))
 (.seq (.reg [
     ⟨(some 93), .load 2 true (.tmp 2), none⟩,
     ⟨(some 94), .call 8 [(.tmp 93)], none⟩,
     ⟨(some 95), .mv (.tmp 1), none⟩,
     ⟨(some 96), .call 9 [(.tmp 95)], none⟩,
     ⟨(some 97), .call 20 [(.tmp 94), (.tmp 96)], none⟩,
     ⟨(some 92), .mv (.tmp 97), none⟩,
     ⟨(some 98), .ext (.tmp 92) 0, none⟩,
     ⟨(some 99), .ext (.tmp 92) 1, none⟩,
     ⟨(some 15), .mv (.tmp 98), none⟩,
     ⟨(some 16), .mv (.tmp 99), none⟩] [6, 7, 10, 13, 15, 16])
 (.seq (.seq (.reg [
     ⟨(some 100), .mv (.tmp 15), none⟩,
     ⟨(some 101), .mv (.tmp 6), none⟩,
     ⟨(some 102), .call 12 [(.tmp 100), (.tmp 101)], none⟩,
     ⟨(some 103), .un .not (.tmp 102), none⟩,
     ⟨(some 104), .mv (.tmp 103), none⟩,
     ⟨(some 105), .mv (.tmp 16), (some (104, false))⟩,
     ⟨(some 106), .mv (.tmp 7), (some (104, false))⟩,
     ⟨(some 107), .bin .neq (.tmp 105) (.tmp 106), (some (104, false))⟩,
     ⟨(some 108), .pick (.tmp 104) (.const (.bool true)) (.tmp 107), none⟩] [10, 13, 108])
 (.cond (.tmp 108)
  (.seq (.reg [
      ⟨(some 4), .mv (.const (.bool false)), none⟩] [4])
  (.ret))
  (.skip)))
 (.seq (.reg [
     ⟨(some 14), .mv (.const (.int .i64 1)), none⟩] [10, 13, 14])
 (.seq (.reg [
     ⟨(some 109), .mv (.tmp 10), none⟩,
     ⟨(some 110), .mv (.tmp 14), none⟩,
     ⟨(some 111), .call 22 [(.tmp 109), (.tmp 110)], none⟩,
     ⟨(some 14), .mv (.tmp 111), none⟩] [13, 14])
 (.seq (.seq (.reg [
     ⟨(some 112), .mv (.tmp 14), none⟩,
     ⟨(some 113), .bin .lss (.tmp 112) (.const (.int .i64 0)), none⟩] [13, 14, 113])
 (.cond (.tmp 113)
  (.seq (.reg [
      ⟨(some 4), .mv (.const (.bool false)), none⟩] [4])
  (.ret))
  (.skip)))
 (.seq (.seq (.reg [
     ⟨(some 114), .mv (.tmp 14), none⟩,
     ⟨(some 115), .mv (.tmp 13), none⟩,
     ⟨(some 116), .bin .neq (.tmp 114) (.tmp 115), none⟩] [116])
 (.cond (.tmp 116)
  (.seq (.reg [
      ⟨(some 4), .mv (.const (.bool false)), none⟩] [4])
  (.ret))
  (.skip)))
 (.seq (.reg [
     ⟨(some 4), .mv (.const (.bool true)), none⟩] [4])
 (.ret)))))))))))))))))))))))))))))
theorem s_laws_FnExactRefineColors : stripF Try.prog 5 [[1, 2], [1, 2, 19], [4], [1, 2, 5], [1, 2, 5], [1, 2, 24], [4], [1, 2, 6, 7], [1, 2, 6, 7, 8], [1, 2, 6, 7, 8, 9], [1, 2, 6, 7, 8, 9, 10, 11], [1, 2, 6, 7, 8, 9, 10, 11, 51], [4], [1, 2, 6, 7, 8, 9, 10, 11, 56], [4], [1, 2, 6, 7, 8, 9, 10, 11, 61], [4], [1, 2, 6, 7, 8, 9, 10, 11, 12], [1, 2, 6, 7, 9, 10, 11, 12], [1, 2, 6, 7, 10, 11, 12], [1, 2, 6, 7, 10, 80], [4], [1, 2, 6, 7, 10, 13], [1, 2, 6, 7, 10, 13], [1, 2, 6, 7, 10, 13, 14], [1, 2, 6, 7, 10, 13, 14], [1, 2, 6, 7, 10, 13, 14, 88], [4], [1, 2, 6, 7, 10, 13, 91], [4], [6, 7, 10, 13, 15, 16], [10, 13, 108], [4], [10, 13, 14], [13, 14], [13, 14, 113], [4], [116], [4], [4]] = some (c_laws_FnExactRefineColors, [.tmp 4], 117) := by kernel_rfl
theorem refGo_len {near : List (List Int)} {n : Nat} : ∀ (f many : Nat) (out : List Int), out.length = n → (refGo near n f many out).length = n
  | 0, _, _, h => h
  | f + 1, many, out, h => by
    rw [refGo]
    split
    · exact refGo_len f _ _ (roundN_len near out n)
    · exact h
theorem rfV_len (cols : List Int) (es : List (Int × Int)) (cells : List Int) : (rfV cols es cells).length ≤ 64 := by
  unfold rfV
  cases hg : grB cols es
  · simp
  obtain ⟨f1, f2, f3, f4⟩ := grB_facts hg
  cases rfB cols cells
  · simp
  rw [Bool.and_self, if_pos rfl]
  unfold rfL
  rw [refGo_len _ _ _ (roundN_len _ _ _)]
  exact f1
theorem lawRefineColors_ok (H : List Blk) (cols : List Int) (es : List (Int × Int)) (cells : List Int) : ACalls Try.prog f_laws_FnExactRefineColors [.agg [ilS cols, ilE es], ilS cells] H (fun r _ => r = Bv true) := by
  refine ACalls.introB s_laws_FnExactRefineColors (by simp) ?_; intro hB hA; unfold c_laws_FnExactRefineColors; simp (config := { maxSteps := 1000000 }) (disch := (first | omega | (simp only [go_sem]; try omega))) only [go_sem, Nat.reduceAdd, Nat.reduceEqDiff, Nat.reduceLeDiff, Nat.reduceMul, Nat.reduceLT, reduceIte, Int.reduceToNat, w64_id, cast_succ]
  repeat (first | (with_reducible first | refine SW.seq ?_ | refine SW.block ?_ | refine SW.rowC ?_ | refine SW.skip ?_ | refine SW.exit ?_ | intro _ | refine And.intro (by omega) ?_) | simp (config := { maxSteps := 1000000 }) (disch := (first | omega | (simp only [go_sem]; try omega))) only [go_sem, Nat.reduceAdd, Nat.reduceEqDiff, Nat.reduceLeDiff, Nat.reduceMul, Nat.reduceLT, reduceIte, Int.reduceToNat, w64_id, cast_succ])
  (first | refine SW.condD rfl (fun h1 => ?_) (fun h1 => ?_) | refine SW.condN rfl (fun h1 => ?_) (fun h1 => ?_) | refine SW.condNB rfl (fun h1 => ?_) (fun h1 => ?_) | refine SW.condB rfl (fun h1 => ?_) (fun h1 => ?_))
  · repeat (first | (with_reducible first | refine SW.seq ?_ | refine SW.block ?_ | refine SW.rowC ?_ | refine SW.skip ?_ | refine SW.exit ?_ | intro _ | refine And.intro (by omega) ?_) | simp (config := { maxSteps := 1000000 }) (disch := (first | omega | (simp only [go_sem]; try omega))) only [go_sem, Nat.reduceAdd, Nat.reduceEqDiff, Nat.reduceLeDiff, Nat.reduceMul, Nat.reduceLT, reduceIte, Int.reduceToNat, w64_id, cast_succ])
    refine SW.ret ?_; (try simp only [go_sem]); (first | refine FunPost.one ?_ | refine FunPost.two ?_ | refine FunPost.three ?_); (try simp (config := { maxSteps := 1000000 }) (disch := (first | omega | (simp only [go_sem]; try omega))) only [go_sem, Nat.reduceAdd, Nat.reduceEqDiff, Nat.reduceLeDiff, Nat.reduceMul, Nat.reduceLT, reduceIte, Int.reduceToNat, w64_id, cast_succ])
    exact GR.of rfl
  repeat (first | (with_reducible first | refine SW.seq ?_ | refine SW.block ?_ | refine SW.rowC ?_ | refine SW.skip ?_ | refine SW.exit ?_ | intro _ | refine And.intro (by omega) ?_) | simp (config := { maxSteps := 1000000 }) (disch := (first | omega | (simp only [go_sem]; try omega))) only [go_sem, Nat.reduceAdd, Nat.reduceEqDiff, Nat.reduceLeDiff, Nat.reduceMul, Nat.reduceLT, reduceIte, Int.reduceToNat, w64_id, cast_succ])
  refine (szGraph_ok _ cols es _ (by omega) (by omega)).mono ?_
  rintro r H' ⟨⟨z, rfl, g1, g2, g3⟩, rfl⟩
  repeat (first | (with_reducible first | refine SW.seq ?_ | refine SW.block ?_ | refine SW.rowC ?_ | refine SW.skip ?_ | refine SW.exit ?_ | intro _ | refine And.intro (by omega) ?_) | simp (config := { maxSteps := 1000000 }) (disch := (first | omega | (simp only [go_sem]; try omega))) only [go_sem, Nat.reduceAdd, Nat.reduceEqDiff, Nat.reduceLeDiff, Nat.reduceMul, Nat.reduceLT, reduceIte, Int.reduceToNat, w64_id, cast_succ])
  (first | refine SW.condD rfl (fun h2 => ?_) (fun h2 => ?_) | refine SW.condN rfl (fun h2 => ?_) (fun h2 => ?_) | refine SW.condNB rfl (fun h2 => ?_) (fun h2 => ?_) | refine SW.condB rfl (fun h2 => ?_) (fun h2 => ?_))
  · repeat (first | (with_reducible first | refine SW.seq ?_ | refine SW.block ?_ | refine SW.rowC ?_ | refine SW.skip ?_ | refine SW.exit ?_ | intro _ | refine And.intro (by omega) ?_) | simp (config := { maxSteps := 1000000 }) (disch := (first | omega | (simp only [go_sem]; try omega))) only [go_sem, Nat.reduceAdd, Nat.reduceEqDiff, Nat.reduceLeDiff, Nat.reduceMul, Nat.reduceLT, reduceIte, Int.reduceToNat, w64_id, cast_succ])
    refine SW.ret ?_; (try simp only [go_sem]); (first | refine FunPost.one ?_ | refine FunPost.two ?_ | refine FunPost.three ?_); (try simp (config := { maxSteps := 1000000 }) (disch := (first | omega | (simp only [go_sem]; try omega))) only [go_sem, Nat.reduceAdd, Nat.reduceEqDiff, Nat.reduceLeDiff, Nat.reduceMul, Nat.reduceLT, reduceIte, Int.reduceToNat, w64_id, cast_succ])
    exact GR.of rfl
  have g4 := g3 (by omega)
  have t1 := toGraph_fn cols es (by omega) (by omega)
  have t2 := toInt64S_fn cells (by omega)
  have hs := specRefine_fn cols es cells
  have hi := implRefine_fs cols es cells
  have hto := rfV_len cols es cells
  generalize rfV cols es cells = zs at *
  generalize rfA cols es cells = code at *
  repeat (first | (with_reducible first | refine SW.seq ?_ | refine SW.block ?_ | refine SW.rowC ?_ | refine SW.skip ?_ | refine SW.exit ?_ | intro _ | refine And.intro (by omega) ?_) | simp (config := { maxSteps := 1000000 }) (disch := (first | omega | (simp only [go_sem]; try omega))) only [go_sem, Nat.reduceAdd, Nat.reduceEqDiff, Nat.reduceLeDiff, Nat.reduceMul, Nat.reduceLT, reduceIte, Int.reduceToNat, w64_id, cast_succ])
  refine ACalls.fn (t1 _) ?_
  repeat (first | (with_reducible first | refine SW.seq ?_ | refine SW.block ?_ | refine SW.rowC ?_ | refine SW.skip ?_ | refine SW.exit ?_ | refine PFn.use (t2) ?_ | refine PFn.useq (t2) ?_ | refine PFn.use (hs) ?_ | refine PFn.useq (hs) ?_ | intro _ | refine And.intro (by omega) ?_) | simp (config := { maxSteps := 1000000 }) (disch := (first | omega | (simp only [go_sem]; try omega))) only [go_sem, Nat.reduceAdd, Nat.reduceEqDiff, Nat.reduceLeDiff, Nat.reduceMul, Nat.reduceLT, reduceIte, Int.reduceToNat, w64_id, cast_succ])
  refine (toGraph_ok _ cols es (by omega) (by omega)).mono ?_
  rintro r H1 ⟨ext, u, v, hH1, rfl, ownu, ownv, hlen1⟩
  have pw := get_appB2 (show (H ++ [(⟨0, 25, 1, [ilS cols, ilE es]⟩ : Blk)])[H.length]? = some ⟨0, 25, 1, [ilS cols, ilE es]⟩ by simp) ext
  rw [← hH1] at pw
  have hb : (H ++ [(⟨0, 25, 1, [ilS cols, ilE es]⟩ : Blk)]).length = H.length + 1 := by simp
  rw [hb] at ownu ownv hlen1
  clear hH1 hb
  repeat (first | (with_reducible first | refine SW.seq ?_ | refine SW.block ?_ | refine SW.rowC ?_ | refine SW.skip ?_ | refine SW.exit ?_ | intro _ | refine And.intro (by omega) ?_) | simp (config := { maxSteps := 1000000 }) (disch := (first | omega | (simp only [go_sem]; try omega))) only [go_sem, Nat.reduceAdd, Nat.reduceEqDiff, Nat.reduceLeDiff, Nat.reduceMul, Nat.reduceLT, reduceIte, Int.reduceToNat, w64_id, cast_succ, ownu.oneR.1, ownu.oneR.2, ownv.one.1, ownv.one.2])
  refine (toInt64S_ok _ _ cells (rd_ilS _ _) (by omega)).mono ?_
  rintro r H2 ⟨rfl, hH2⟩
  have px := get_appB2 (show (H1 ++ [(⟨0, tyGr, 1, [u, v]⟩ : Blk)])[H1.length]? = some ⟨0, tyGr, 1, [u, v]⟩ by simp) [⟨0, 2, 1, cells.map I⟩]
  have own1 : OwnS H2 (fun j => j = H1.length + 1) H2.length (.nm (H1 ++ [(⟨0, tyGr, 1, [u, v]⟩ : Blk)]).length 0 0 cells.length) cells := .inl ⟨_, 0, 2, rfl, by simp, by rw [hH2]; simp, by rw [hH2]; simp⟩
  replace pw := get_appB2 (get_appB2 pw [(⟨0, tyGr, 1, [u, v]⟩ : Blk)]) [⟨0, 2, 1, cells.map I⟩]
  replace ownu := (ownu.appR [(⟨0, tyGr, 1, [u, v]⟩ : Blk)]).appR [⟨0, 2, 1, cells.map I⟩]
  replace ownv := (ownv.append [(⟨0, tyGr, 1, [u, v]⟩ : Blk)]).append [⟨0, 2, 1, cells.map I⟩]
  have hl2' : H2.length = H.length + 8 := by rw [hH2]; simp; omega
  rw [← hH2] at pw px ownu ownv
  generalize (AV.nm (H1 ++ [(⟨0, tyGr, 1, [u, v]⟩ : Blk)]).length 0 0 cells.length) = u1 at *
  clear hH2
  generalize hg : H1.length = g at *
  have pxl : acells H2 2 (.pc g 0 0) = some [u, v] := pc_lds px (by simp)
  repeat (first | (with_reducible first | refine SW.seq ?_ | refine SW.block ?_ | refine SW.rowC ?_ | refine SW.skip ?_ | refine SW.exit ?_ | intro _ | refine And.intro (by omega) ?_) | simp (config := { maxSteps := 1000000 }) (disch := (first | omega | (simp only [go_sem]; try omega))) only [go_sem, Nat.reduceAdd, Nat.reduceEqDiff, Nat.reduceLeDiff, Nat.reduceMul, Nat.reduceLT, reduceIte, Int.reduceToNat, w64_id, cast_succ, pc_alive px, pxl, ownu.oneR.1, ownu.oneR.2, ownv.one.1, ownv.one.2])
  refine (hi.lend (.cons (froz_agg2 (ownu.froz (fun r _ => Nat.zero_le _)) (ownv.frozR (fun r _ => Nat.zero_le _))) (.cons (own1.froz (fun r _ => Nat.zero_le _)) .nil))).mono ?_
  rintro r H3 ⟨ext2, gu, t, hH3, rfl, hu, ht⟩
  replace pw := get_appB2 pw ext2
  replace px := get_appB2 px ext2
  replace ownu := ownu.appR ext2
  replace ownv := ownv.append ext2
  replace own1 := own1.appR ext2
  have hl3 : H2.length ≤ H3.length := by rw [hH3]; simp
  rw [← hH3] at pw px ownu ownv own1
  clear hH3 pxl
  have pxl : acells H3 2 (.pc g 0 0) = some [u, v] := pc_lds px (by simp)
  have pal : acells H3 2 (.pc H.length 0 0) = some [ilS cols, ilE es] := pc_lds pw (by simp)
  repeat (first | (with_reducible first | refine SW.seq ?_ | refine SW.block ?_ | refine SW.rowC ?_ | refine SW.skip ?_ | refine SW.exit ?_ | intro _ | refine And.intro (by omega) ?_) | simp (config := { maxSteps := 1000000 }) (disch := (first | omega | (simp only [go_sem]; try omega))) only [go_sem, Nat.reduceAdd, Nat.reduceEqDiff, Nat.reduceLeDiff, Nat.reduceMul, Nat.reduceLT, reduceIte, Int.reduceToNat, w64_id, cast_succ, hu.oneR.1, hu.oneR.2])
  refine ACalls.fn (eqInt64S_ok _ gu (ilS zs) zs zs hu.rd (rd_ilS _ _)) ?_
  rw [show decide (zs = zs) = true by simp]
  repeat (first | (with_reducible first | refine SW.seq ?_ | refine SW.block ?_ | refine SW.rowC ?_ | refine SW.skip ?_ | refine SW.exit ?_ | intro _ | refine And.intro (by omega) ?_) | simp (config := { maxSteps := 1000000 }) (disch := (first | omega | (simp only [go_sem]; try omega))) only [go_sem, Nat.reduceAdd, Nat.reduceEqDiff, Nat.reduceLeDiff, Nat.reduceMul, Nat.reduceLT, reduceIte, Int.reduceToNat, w64_id, cast_succ])
  refine SW.condF rfl ?_
  repeat (first | (with_reducible first | refine SW.seq ?_ | refine SW.block ?_ | refine SW.rowC ?_ | refine SW.skip ?_ | refine SW.exit ?_ | refine PFn.use (t1) ?_ | refine PFn.useq (t1) ?_ | intro _ | refine And.intro (by omega) ?_) | simp (config := { maxSteps := 1000000 }) (disch := (first | omega | (simp only [go_sem]; try omega))) only [go_sem, Nat.reduceAdd, Nat.reduceEqDiff, Nat.reduceLeDiff, Nat.reduceMul, Nat.reduceLT, reduceIte, Int.reduceToNat, w64_id, cast_succ, pc_alive px, pc_alive pw, pxl, pal, ownu.oneR.1, ownu.oneR.2, ownv.one.1, ownv.one.2])
  refine QcallW.of (fun ext => eqGraph_ok _ u (ilS cols) v (ilE es) cols cols es es ownu.oneR.1 rfl ownv.one.1 rfl (ownu.appR ext).rd (rd_ilS _ _) (ownv.append ext).rd (rd_ilE _ _) (by omega)) ?_
  rw [show (decide (cols = cols) && decide (es = es)) = true by simp]
  repeat (first | (with_reducible first | refine SW.seq ?_ | refine SW.block ?_ | refine SW.rowC ?_ | refine SW.skip ?_ | refine SW.exit ?_ | intro _ | refine And.intro (by omega) ?_) | simp (config := { maxSteps := 1000000 }) (disch := (first | omega | (simp only [go_sem]; try omega))) only [go_sem, Nat.reduceAdd, Nat.reduceEqDiff, Nat.reduceLeDiff, Nat.reduceMul, Nat.reduceLT, reduceIte, Int.reduceToNat, w64_id, cast_succ])
  refine SW.condF rfl ?_
  repeat (first | (with_reducible first | refine SW.seq ?_ | refine SW.block ?_ | refine SW.rowC ?_ | refine SW.skip ?_ | refine SW.exit ?_ | refine PFn.use (t2) ?_ | refine PFn.useq (t2) ?_ | intro _ | refine And.intro (by omega) ?_) | simp (config := { maxSteps := 1000000 }) (disch := (first | omega | (simp only [go_sem]; try omega))) only [go_sem, Nat.reduceAdd, Nat.reduceEqDiff, Nat.reduceLeDiff, Nat.reduceMul, Nat.reduceLT, reduceIte, Int.reduceToNat, w64_id, cast_succ, own1.oneR.1, own1.oneR.2])
  refine ACalls.fn (eqInt64S_ok _ u1 (ilS cells) cells cells own1.rd (rd_ilS _ _)) ?_
  rw [show decide (cells = cells) = true by simp]
  repeat (first | (with_reducible first | refine SW.seq ?_ | refine SW.block ?_ | refine SW.rowC ?_ | refine SW.skip ?_ | refine SW.exit ?_ | intro _ | refine And.intro (by omega) ?_) | simp (config := { maxSteps := 1000000 }) (disch := (first | omega | (simp only [go_sem]; try omega))) only [go_sem, Nat.reduceAdd, Nat.reduceEqDiff, Nat.reduceLeDiff, Nat.reduceMul, Nat.reduceLT, reduceIte, Int.reduceToNat, w64_id, cast_succ])
  refine SW.condF rfl ?_
  repeat (first | (with_reducible first | refine SW.seq ?_ | refine SW.block ?_ | refine SW.rowC ?_ | refine SW.skip ?_ | refine SW.exit ?_ | intro _ | refine And.intro (by omega) ?_) | simp (config := { maxSteps := 1000000 }) (disch := (first | omega | (simp only [go_sem]; try omega))) only [go_sem, Nat.reduceAdd, Nat.reduceEqDiff, Nat.reduceLeDiff, Nat.reduceMul, Nat.reduceLT, reduceIte, Int.reduceToNat, w64_id, cast_succ, pc_alive px, pxl, ownu.oneR.1, ownu.oneR.2, ownv.one.1, ownv.one.2])
  refine (markGraph_ok _ _ _ _ 1 u v cols es ownu.oneR.1 ownv.one.1 ownu ownv (fun j h1 h2 => by omega) (by omega) (by omega) (by omega) (by omega) (by omega)).mono ?_
  rintro r H4 ⟨rfl, -, -, hl4, m2⟩
  have hlx := (List.getElem?_eq_some_iff.1 px).1
  replace pw := (m2 H.length (by omega) (by omega) (by omega)).trans pw
  replace own1 := own1.same (H' := H4) (fun j b hj _ hb => by rw [m2 j (by omega) (by omega) (List.getElem?_eq_some_iff.1 hb).1]; exact hb)
  replace hu := hu.same (H' := H4) (fun j b hj _ hb => by rw [m2 j (by unfold Btw at hj; omega) (by unfold Btw at hj; omega) (List.getElem?_eq_some_iff.1 hb).1]; exact hb)
  clear ownu ownv px pxl pal m2
  repeat (first | (with_reducible first | refine SW.seq ?_ | refine SW.block ?_ | refine SW.rowC ?_ | refine SW.skip ?_ | refine SW.exit ?_ | intro _ | refine And.intro (by omega) ?_) | simp (config := { maxSteps := 1000000 }) (disch := (first | omega | (simp only [go_sem]; try omega))) only [go_sem, Nat.reduceAdd, Nat.reduceEqDiff, Nat.reduceLeDiff, Nat.reduceMul, Nat.reduceLT, reduceIte, Int.reduceToNat, w64_id, cast_succ, own1.oneR.1, own1.oneR.2])
  refine (markS_ok _ _ _ u1 cells _ own1 (by omega) (by omega)).mono ?_
  rintro r H5 ⟨rfl, -, hl5, m3⟩
  replace pw := (m3 H.length (by omega)).trans pw
  replace hu := hu.same (H' := H5) (fun j b hj _ hb => by rw [m3 j (by unfold Btw at hj; omega)]; exact hb)
  clear own1 m3
  have hneg1 : decide ((1 : Int) + cols.length + 2 * es.length + cells.length < 0) = false := decide_eq_false (by omega)
  have hneg2 : decide ((1 : Int) + zs.length < 0) = false := decide_eq_false (by omega)
  repeat (first | (with_reducible first | refine SW.seq ?_ | refine SW.block ?_ | refine SW.rowC ?_ | refine SW.skip ?_ | refine SW.exit ?_ | intro _ | refine And.intro (by omega) ?_) | simp (config := { maxSteps := 1000000 }) (disch := (first | omega | (simp only [go_sem]; try omega))) only [go_sem, Nat.reduceAdd, Nat.reduceEqDiff, Nat.reduceLeDiff, Nat.reduceMul, Nat.reduceLT, reduceIte, Int.reduceToNat, w64_id, cast_succ, hneg1])
  refine ACalls.fn (eqInt64S_ok _ gu (ilS zs) zs zs hu.rd (rd_ilS _ _)) ?_
  rw [show decide (zs = zs) = true by simp]
  repeat (first | (with_reducible first | refine SW.seq ?_ | refine SW.block ?_ | refine SW.rowC ?_ | refine SW.skip ?_ | refine SW.exit ?_ | intro _ | refine And.intro (by omega) ?_) | simp (config := { maxSteps := 1000000 }) (disch := (first | omega | (simp only [go_sem]; try omega))) only [go_sem, Nat.reduceAdd, Nat.reduceEqDiff, Nat.reduceLeDiff, Nat.reduceMul, Nat.reduceLT, reduceIte, Int.reduceToNat, w64_id, cast_succ])
  refine SW.condF rfl ?_
  repeat (first | (with_reducible first | refine SW.seq ?_ | refine SW.block ?_ | refine SW.rowC ?_ | refine SW.skip ?_ | refine SW.exit ?_ | intro _ | refine And.intro (by omega) ?_) | simp (config := { maxSteps := 1000000 }) (disch := (first | omega | (simp only [go_sem]; try omega))) only [go_sem, Nat.reduceAdd, Nat.reduceEqDiff, Nat.reduceLeDiff, Nat.reduceMul, Nat.reduceLT, reduceIte, Int.reduceToNat, w64_id, cast_succ, hu.oneR.1, hu.oneR.2])
  refine (markS_ok _ _ _ gu zs 1 hu (by omega) (by omega)).mono ?_
  rintro r H6 ⟨rfl, hu6, hl6, m4⟩
  replace pw := (m4 H.length (by unfold Btw; omega)).trans pw
  have hr6 : RdS H6 gu ((List.range zs.length).map (fun (j : Nat) => (1 : Int) + (j : Int))) := hu6.rd
  clear hu m4
  repeat (first | (with_reducible first | refine SW.seq ?_ | refine SW.block ?_ | refine SW.rowC ?_ | refine SW.skip ?_ | refine SW.exit ?_ | intro _ | refine And.intro (by omega) ?_) | simp (config := { maxSteps := 1000000 }) (disch := (first | omega | (simp only [go_sem]; try omega))) only [go_sem, Nat.reduceAdd, Nat.reduceEqDiff, Nat.reduceLeDiff, Nat.reduceMul, Nat.reduceLT, reduceIte, Int.reduceToNat, w64_id, cast_succ])
  refine ACalls.fn (heldInt64S_ok _ gu zs.length 1 hr6 (by omega) (by omega)) ?_
  repeat (first | (with_reducible first | refine SW.seq ?_ | refine SW.block ?_ | refine SW.rowC ?_ | refine SW.skip ?_ | refine SW.exit ?_ | intro _ | refine And.intro (by omega) ?_) | simp (config := { maxSteps := 1000000 }) (disch := (first | omega | (simp only [go_sem]; try omega))) only [go_sem, Nat.reduceAdd, Nat.reduceEqDiff, Nat.reduceLeDiff, Nat.reduceMul, Nat.reduceLT, reduceIte, Int.reduceToNat, w64_id, cast_succ, hneg2])
  refine SW.condF rfl ?_
  repeat (first | (with_reducible first | refine SW.seq ?_ | refine SW.block ?_ | refine SW.rowC ?_ | refine SW.skip ?_ | refine SW.exit ?_ | intro _ | refine And.intro (by omega) ?_) | simp (config := { maxSteps := 1000000 }) (disch := (first | omega | (simp only [go_sem]; try omega))) only [go_sem, Nat.reduceAdd, Nat.reduceEqDiff, Nat.reduceLeDiff, Nat.reduceMul, Nat.reduceLT, reduceIte, Int.reduceToNat, w64_id, cast_succ])
  refine SW.condF rfl ?_
  repeat (first | (with_reducible first | refine SW.seq ?_ | refine SW.block ?_ | refine SW.rowC ?_ | refine SW.skip ?_ | refine SW.exit ?_ | refine PFn.use (t1) ?_ | refine PFn.useq (t1) ?_ | refine PFn.use (t2) ?_ | refine PFn.useq (t2) ?_ | intro _ | refine And.intro (by omega) ?_) | simp (config := { maxSteps := 1000000 }) (disch := (first | omega | (simp only [go_sem]; try omega))) only [go_sem, Nat.reduceAdd, Nat.reduceEqDiff, Nat.reduceLeDiff, Nat.reduceMul, Nat.reduceLT, reduceIte, Int.reduceToNat, w64_id, cast_succ, pc_alive pw, show acells H6 2 (.pc H.length 0 0) = some [ilS cols, ilE es] from pc_lds pw (by simp)])
  refine (hi _).mono ?_
  rintro r H7 ⟨ext3, hw, t7, hH7, rfl, ho7, ht7⟩
  replace hr6 := aview_append hr6 ext3
  rw [← hH7] at hr6
  clear hH7
  repeat (first | (with_reducible first | refine SW.seq ?_ | refine SW.block ?_ | refine SW.rowC ?_ | refine SW.skip ?_ | refine SW.exit ?_ | intro _ | refine And.intro (by omega) ?_) | simp (config := { maxSteps := 1000000 }) (disch := (first | omega | (simp only [go_sem]; try omega))) only [go_sem, Nat.reduceAdd, Nat.reduceEqDiff, Nat.reduceLeDiff, Nat.reduceMul, Nat.reduceLT, reduceIte, Int.reduceToNat, w64_id, cast_succ, ho7.oneR.1, ho7.oneR.2])
  refine ACalls.fn (eqInt64S_ok _ hw (ilS zs) zs zs ho7.rd (rd_ilS _ _)) ?_
  rw [show decide (zs = zs) = true by simp]
  repeat (first | (with_reducible first | refine SW.seq ?_ | refine SW.block ?_ | refine SW.rowC ?_ | refine SW.skip ?_ | refine SW.exit ?_ | intro _ | refine And.intro (by omega) ?_) | simp (config := { maxSteps := 1000000 }) (disch := (first | omega | (simp only [go_sem]; try omega))) only [go_sem, Nat.reduceAdd, Nat.reduceEqDiff, Nat.reduceLeDiff, Nat.reduceMul, Nat.reduceLT, reduceIte, Int.reduceToNat, w64_id, cast_succ])
  refine SW.condF rfl ?_
  repeat (first | (with_reducible first | refine SW.seq ?_ | refine SW.block ?_ | refine SW.rowC ?_ | refine SW.skip ?_ | refine SW.exit ?_ | intro _ | refine And.intro (by omega) ?_) | simp (config := { maxSteps := 1000000 }) (disch := (first | omega | (simp only [go_sem]; try omega))) only [go_sem, Nat.reduceAdd, Nat.reduceEqDiff, Nat.reduceLeDiff, Nat.reduceMul, Nat.reduceLT, reduceIte, Int.reduceToNat, w64_id, cast_succ])
  refine ACalls.fn (heldInt64S_ok _ gu zs.length 1 hr6 (by omega) (by omega)) ?_
  repeat (first | (with_reducible first | refine SW.seq ?_ | refine SW.block ?_ | refine SW.rowC ?_ | refine SW.skip ?_ | refine SW.exit ?_ | intro _ | refine And.intro (by omega) ?_) | simp (config := { maxSteps := 1000000 }) (disch := (first | omega | (simp only [go_sem]; try omega))) only [go_sem, Nat.reduceAdd, Nat.reduceEqDiff, Nat.reduceLeDiff, Nat.reduceMul, Nat.reduceLT, reduceIte, Int.reduceToNat, w64_id, cast_succ, hneg2])
  refine SW.condF rfl ?_
  repeat (first | (with_reducible first | refine SW.seq ?_ | refine SW.block ?_ | refine SW.rowC ?_ | refine SW.skip ?_ | refine SW.exit ?_ | intro _ | refine And.intro (by omega) ?_) | simp (config := { maxSteps := 1000000 }) (disch := (first | omega | (simp only [go_sem]; try omega))) only [go_sem, Nat.reduceAdd, Nat.reduceEqDiff, Nat.reduceLeDiff, Nat.reduceMul, Nat.reduceLT, reduceIte, Int.reduceToNat, w64_id, cast_succ])
  refine SW.condF rfl ?_
  repeat (first | (with_reducible first | refine SW.seq ?_ | refine SW.block ?_ | refine SW.rowC ?_ | refine SW.skip ?_ | refine SW.exit ?_ | intro _ | refine And.intro (by omega) ?_) | simp (config := { maxSteps := 1000000 }) (disch := (first | omega | (simp only [go_sem]; try omega))) only [go_sem, Nat.reduceAdd, Nat.reduceEqDiff, Nat.reduceLeDiff, Nat.reduceMul, Nat.reduceLT, reduceIte, Int.reduceToNat, w64_id, cast_succ])
  refine SW.ret ?_; (try simp only [go_sem]); (first | refine FunPost.one ?_ | refine FunPost.two ?_ | refine FunPost.three ?_); (try simp (config := { maxSteps := 1000000 }) (disch := (first | omega | (simp only [go_sem]; try omega))) only [go_sem, Nat.reduceAdd, Nat.reduceEqDiff, Nat.reduceLeDiff, Nat.reduceMul, Nat.reduceLT, reduceIte, Int.reduceToNat, w64_id, cast_succ])
  exact GR.of rfl
end Go.Proofs.Ytmdeibdplpodpaa
