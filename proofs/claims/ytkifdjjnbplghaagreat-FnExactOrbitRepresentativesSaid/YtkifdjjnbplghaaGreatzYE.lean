/- OrbitRepresentatives: the law. -/
import Derived.Test.YtkifdjjnbplghaaGreatProg
import Derived.KernelRfl
import Derived.Test.YtkifdjjnbplghaaGreatzYD
import Derived.Test.YtkifdjjnbplghaaGreatzV0
import Derived.Test.YtkifdjjnbplghaaGreatzAv17
import Derived.Test.YtkifdjjnbplghaaGreatzK18
set_option linter.unusedSimpArgs false
set_option linter.unusedVariables false
set_option maxHeartbeats 4000000
set_option maxRecDepth 100000
namespace Go.Proofs.YtkifdjjnbplghaaGreat
open Go.Av
abbrev f_laws_FnExactOrbitRepresentatives : Nat := 5
def c_laws_FnExactOrbitRepresentatives : SC :=
 .seq (.reg [
     ⟨(some 2), .box 26 (.tmp 0), none⟩,
     ⟨(some 4), .mv (.const (.bool false)), none⟩] [1, 2])
 (.seq (.reg [
     ⟨(some 5), .mv (.const (.int .i64 1048576)), none⟩] [1, 2, 5])
 (.seq (.reg [
     ⟨(some 16), .load 2 true (.tmp 2), none⟩,
     ⟨(some 17), .mv (.tmp 5), none⟩,
     ⟨(some 18), .call 10 [(.tmp 16), (.tmp 17)], none⟩,
     ⟨(some 5), .mv (.tmp 18), none⟩] [1, 2, 5])
 (.seq (.seq (.reg [
     ⟨(some 19), .mv (.tmp 5), none⟩,
     ⟨(some 20), .bin .lss (.tmp 19) (.const (.int .i64 0)), none⟩] [1, 2, 20])
 (.cond (.tmp 20)
  (.seq (.reg [
      ⟨(some 4), .mv (.const (.bool true)), none⟩] [4])
  (.ret))
  (.skip)))
 (.seq (.reg [
     ⟨(some 22), .load 2 true (.tmp 2), none⟩,
     ⟨(some 23), .call 13 [(.tmp 22)], none⟩,
     ⟨(some 24), .mv (.tmp 1), none⟩,
     ⟨(some 25), .call 23 [(.tmp 23), (.tmp 24)], none⟩,
     ⟨(some 21), .mv (.tmp 25), none⟩,
     ⟨(some 26), .ext (.tmp 21) 0, none⟩,
     ⟨(some 27), .ext (.tmp 21) 1, none⟩,
     ⟨(some 6), .mv (.tmp 26), none⟩,
     ⟨(some 7), .mv (.tmp 27), none⟩] [1, 2, 6, 7])
 (.seq (.reg [
     ⟨(some 28), .load 2 true (.tmp 2), none⟩,
     ⟨(some 29), .call 13 [(.tmp 28)], none⟩,
     ⟨(some 8), .alloc 33 [(.int .i64 0), (.slice none 0 0)], none⟩,
     ⟨none, .store 2 (.tmp 8) (.tmp 29), none⟩] [1, 2, 6, 7, 8])
 (.seq (.reg [
     ⟨(some 31), .load 2 true (.tmp 8), none⟩,
     ⟨(some 32), .mv (.tmp 1), none⟩,
     ⟨(some 33), .call 24 [(.tmp 31), (.tmp 32)], none⟩,
     ⟨(some 30), .mv (.tmp 33), none⟩,
     ⟨(some 34), .ext (.tmp 30) 0, none⟩,
     ⟨(some 35), .ext (.tmp 30) 1, none⟩,
     ⟨(some 9), .mv (.tmp 34), none⟩,
     ⟨(some 10), .mv (.tmp 35), none⟩] [1, 2, 6, 7, 8, 9, 10])
 (.seq (.seq (.reg [
     ⟨(some 36), .mv (.tmp 9), none⟩,
     ⟨(some 37), .mv (.tmp 6), none⟩,
     ⟨(some 38), .call 25 [(.tmp 36), (.tmp 37)], none⟩,
     ⟨(some 39), .un .not (.tmp 38), none⟩,
     ⟨(some 40), .mv (.tmp 39), none⟩,
     ⟨(some 41), .mv (.tmp 10), (some (40, false))⟩,
     ⟨(some 42), .mv (.tmp 7), (some (40, false))⟩,
     ⟨(some 43), .bin .neq (.tmp 41) (.tmp 42), (some (40, false))⟩,
     ⟨(some 44), .pick (.tmp 40) (.const (.bool true)) (.tmp 43), none⟩] [1, 2, 6, 7, 8, 9, 10, 44])
 (.cond (.tmp 44)
  (.seq (.reg [
      ⟨(some 4), .mv (.const (.bool false)), none⟩] [4])
  (.ret))
  (.skip)))
 (.seq (.seq (.reg [
     ⟨(some 45), .load 2 true (.tmp 8), none⟩,
     ⟨(some 46), .load 2 true (.tmp 2), none⟩,
     ⟨(some 47), .qcall 13 [(.tmp 46)], none⟩,
     ⟨(some 48), .qcall 16 [(.tmp 45), (.tmp 47)], none⟩,
     ⟨(some 49), .un .not (.tmp 48), none⟩] [1, 2, 6, 7, 8, 9, 10, 49])
 (.cond (.tmp 49)
  (.seq (.reg [
      ⟨(some 4), .mv (.const (.bool false)), none⟩] [4])
  (.ret))
  (.skip)))
 (.seq (.reg [
     ⟨(some 11), .mv (.const (.int .i64 1)), none⟩] [1, 2, 6, 7, 8, 9, 10, 11])
 (.seq (.reg [
     ⟨(some 50), .load 2 true (.tmp 8), none⟩,
     ⟨(some 51), .mv (.tmp 11), none⟩,
     ⟨(some 52), .call 20 [(.tmp 50), (.tmp 51)], none⟩,
     ⟨(some 11), .mv (.tmp 52), none⟩] [1, 2, 6, 7, 9, 10, 11])
 (.seq (.seq (.reg [
     ⟨(some 53), .mv (.tmp 11), none⟩,
     ⟨(some 54), .bin .lss (.tmp 53) (.const (.int .i64 0)), none⟩,
     ⟨(some 55), .mv (.tmp 54), none⟩,
     ⟨(some 56), .mv (.tmp 9), (some (55, false))⟩,
     ⟨(some 57), .mv (.tmp 6), (some (55, false))⟩,
     ⟨(some 58), .call 25 [(.tmp 56), (.tmp 57)], (some (55, false))⟩,
     ⟨(some 59), .un .not (.tmp 58), (some (55, false))⟩,
     ⟨(some 60), .pick (.tmp 55) (.const (.bool true)) (.tmp 59), none⟩,
     ⟨(some 61), .mv (.tmp 60), none⟩,
     ⟨(some 62), .mv (.tmp 10), (some (61, false))⟩,
     ⟨(some 63), .mv (.tmp 7), (some (61, false))⟩,
     ⟨(some 64), .bin .neq (.tmp 62) (.tmp 63), (some (61, false))⟩,
     ⟨(some 65), .pick (.tmp 61) (.const (.bool true)) (.tmp 64), none⟩] [1, 2, 6, 7, 9, 65])
 (.cond (.tmp 65)
  (.seq (.reg [
      ⟨(some 4), .mv (.const (.bool false)), none⟩] [4])
  (.ret))
  (.skip)))
 (.seq (.reg [
     ⟨(some 12), .mv (.const (.int .i64 1)), none⟩] [1, 2, 6, 7, 9, 12])
 (.seq (.reg [
     ⟨(some 66), .mv (.tmp 9), none⟩,
     ⟨(some 67), .mv (.tmp 12), none⟩,
     ⟨(some 68), .call 26 [(.tmp 66), (.tmp 67)], none⟩,
     ⟨(some 12), .mv (.tmp 68), none⟩] [1, 2, 6, 7, 9, 12])
 (.seq (.reg [
     ⟨(some 13), .mv (.const (.int .i64 1)), none⟩] [1, 2, 6, 7, 9, 12, 13])
 (.seq (.reg [
     ⟨(some 69), .mv (.tmp 9), none⟩,
     ⟨(some 70), .mv (.tmp 13), none⟩,
     ⟨(some 71), .call 27 [(.tmp 69), (.tmp 70)], none⟩,
     ⟨(some 13), .mv (.tmp 71), none⟩] [1, 2, 6, 7, 9, 12, 13])
 (.seq (.seq (.reg [
     ⟨(some 72), .mv (.tmp 13), none⟩,
     ⟨(some 73), .bin .lss (.tmp 72) (.const (.int .i64 0)), none⟩] [1, 2, 6, 7, 9, 12, 13, 73])
 (.cond (.tmp 73)
  (.seq (.reg [
      ⟨(some 4), .mv (.const (.bool false)), none⟩] [4])
  (.ret))
  (.skip)))
 (.seq (.seq (.reg [
     ⟨(some 74), .mv (.tmp 13), none⟩,
     ⟨(some 75), .mv (.tmp 12), none⟩,
     ⟨(some 76), .bin .neq (.tmp 74) (.tmp 75), none⟩] [1, 2, 6, 7, 9, 12, 76])
 (.cond (.tmp 76)
  (.seq (.reg [
      ⟨(some 4), .mv (.const (.bool false)), none⟩] [4])
  (.ret))
  (.skip)))
 (.seq (.reg [
     ⟨(some 78), .load 2 true (.tmp 2), none⟩,
     ⟨(some 79), .call 13 [(.tmp 78)], none⟩,
     ⟨(some 80), .mv (.tmp 1), none⟩,
     ⟨(some 81), .call 24 [(.tmp 79), (.tmp 80)], none⟩,
     ⟨(some 77), .mv (.tmp 81), none⟩,
     ⟨(some 82), .ext (.tmp 77) 0, none⟩,
     ⟨(some 83), .ext (.tmp 77) 1, none⟩,
     ⟨(some 14), .mv (.tmp 82), none⟩,
     ⟨(some 15), .mv (.tmp 83), none⟩] [6, 7, 9, 12, 14, 15])
 (.seq (.seq (.reg [
     ⟨(some 84), .mv (.tmp 14), none⟩,
     ⟨(some 85), .mv (.tmp 6), none⟩,
     ⟨(some 86), .call 25 [(.tmp 84), (.tmp 85)], none⟩,
     ⟨(some 87), .un .not (.tmp 86), none⟩,
     ⟨(some 88), .mv (.tmp 87), none⟩,
     ⟨(some 89), .mv (.tmp 15), (some (88, false))⟩,
     ⟨(some 90), .mv (.tmp 7), (some (88, false))⟩,
     ⟨(some 91), .bin .neq (.tmp 89) (.tmp 90), (some (88, false))⟩,
     ⟨(some 92), .pick (.tmp 88) (.const (.bool true)) (.tmp 91), none⟩] [9, 12, 92])
 (.cond (.tmp 92)
  (.seq (.reg [
      ⟨(some 4), .mv (.const (.bool false)), none⟩] [4])
  (.ret))
  (.skip)))
 (.seq (.reg [
     ⟨(some 13), .mv (.const (.int .i64 1)), none⟩] [9, 12, 13])
 (.seq (.reg [
     ⟨(some 93), .mv (.tmp 9), none⟩,
     ⟨(some 94), .mv (.tmp 13), none⟩,
     ⟨(some 95), .call 27 [(.tmp 93), (.tmp 94)], none⟩,
     ⟨(some 13), .mv (.tmp 95), none⟩] [12, 13])
 (.seq (.seq (.reg [
     ⟨(some 96), .mv (.tmp 13), none⟩,
     ⟨(some 97), .bin .lss (.tmp 96) (.const (.int .i64 0)), none⟩] [12, 13, 97])
 (.cond (.tmp 97)
  (.seq (.reg [
      ⟨(some 4), .mv (.const (.bool false)), none⟩] [4])
  (.ret))
  (.skip)))
 (.seq (.seq (.reg [
     ⟨(some 98), .mv (.tmp 13), none⟩,
     ⟨(some 99), .mv (.tmp 12), none⟩,
     ⟨(some 100), .bin .neq (.tmp 98) (.tmp 99), none⟩] [100])
 (.cond (.tmp 100)
  (.seq (.reg [
      ⟨(some 4), .mv (.const (.bool false)), none⟩] [4])
  (.ret))
  (.skip)))
 (.seq (.reg [
     ⟨(some 4), .mv (.const (.bool true)), none⟩] [4])
 (.ret)))))))))))))))))))))))))
theorem s_laws_FnExactOrbitRepresentatives : stripF Tryz.prog 5 [[1, 2], [1, 2, 5], [1, 2, 5], [1, 2, 20], [4], [1, 2, 6, 7], [1, 2, 6, 7, 8], [1, 2, 6, 7, 8, 9, 10], [1, 2, 6, 7, 8, 9, 10, 44], [4], [1, 2, 6, 7, 8, 9, 10, 49], [4], [1, 2, 6, 7, 8, 9, 10, 11], [1, 2, 6, 7, 9, 10, 11], [1, 2, 6, 7, 9, 65], [4], [1, 2, 6, 7, 9, 12], [1, 2, 6, 7, 9, 12], [1, 2, 6, 7, 9, 12, 13], [1, 2, 6, 7, 9, 12, 13], [1, 2, 6, 7, 9, 12, 13, 73], [4], [1, 2, 6, 7, 9, 12, 76], [4], [6, 7, 9, 12, 14, 15], [9, 12, 92], [4], [9, 12, 13], [12, 13], [12, 13, 97], [4], [100], [4], [4]] = some (c_laws_FnExactOrbitRepresentatives, [.tmp 4], 101) := by kernel_rfl
theorem lawOrbitReps_ok (H : List Blk) (n : Int) (els : List (List Int)) (k : Int) : ACalls Tryz.prog f_laws_FnExactOrbitRepresentatives [.agg [I n, ilSS els], I k] H (fun r _ => r = Bv true) := by
  refine ACalls.introB s_laws_FnExactOrbitRepresentatives (by simp) ?_; intro hB hA; unfold c_laws_FnExactOrbitRepresentatives; simp (config := { maxSteps := 1000000 }) (disch := (first | omega | (simp only [go_sem]; try omega))) only [go_sem, Nat.reduceAdd, Nat.reduceEqDiff, Nat.reduceLeDiff, Nat.reduceMul, Nat.reduceLT, reduceIte, Int.reduceToNat, w64_id, cast_succ]
  repeat (first | (with_reducible first | refine SW.seq ?_ | refine SW.block ?_ | refine SW.rowC ?_ | refine SW.skip ?_ | refine SW.exit ?_ | intro _ | refine And.intro (by omega) ?_) | simp (config := { maxSteps := 1000000 }) (disch := (first | omega | (simp only [go_sem]; try omega))) only [go_sem, Nat.reduceAdd, Nat.reduceEqDiff, Nat.reduceLeDiff, Nat.reduceMul, Nat.reduceLT, reduceIte, Int.reduceToNat, w64_id, cast_succ])
  refine (szGroup_ok _ n _ els _ rfl (rd_ilSS _ _) (by omega) (by omega)).mono ?_
  rintro r H' ⟨⟨z, rfl, g1, g2, g3⟩, rfl⟩
  repeat (first | (with_reducible first | refine SW.seq ?_ | refine SW.block ?_ | refine SW.rowC ?_ | refine SW.skip ?_ | refine SW.exit ?_ | intro _ | refine And.intro (by omega) ?_) | simp (config := { maxSteps := 1000000 }) (disch := (first | omega | (simp only [go_sem]; try omega))) only [go_sem, Nat.reduceAdd, Nat.reduceEqDiff, Nat.reduceLeDiff, Nat.reduceMul, Nat.reduceLT, reduceIte, Int.reduceToNat, w64_id, cast_succ])
  (first | refine SW.condD rfl (fun h2 => ?_) (fun h2 => ?_) | refine SW.condN rfl (fun h2 => ?_) (fun h2 => ?_) | refine SW.condNB rfl (fun h2 => ?_) (fun h2 => ?_) | refine SW.condB rfl (fun h2 => ?_) (fun h2 => ?_))
  · repeat (first | (with_reducible first | refine SW.seq ?_ | refine SW.block ?_ | refine SW.rowC ?_ | refine SW.skip ?_ | refine SW.exit ?_ | intro _ | refine And.intro (by omega) ?_) | simp (config := { maxSteps := 1000000 }) (disch := (first | omega | (simp only [go_sem]; try omega))) only [go_sem, Nat.reduceAdd, Nat.reduceEqDiff, Nat.reduceLeDiff, Nat.reduceMul, Nat.reduceLT, reduceIte, Int.reduceToNat, w64_id, cast_succ])
    refine SW.ret ?_; (try simp only [go_sem]); (first | refine FunPost.one ?_ | refine FunPost.two ?_ | refine FunPost.three ?_); (try simp (config := { maxSteps := 1000000 }) (disch := (first | omega | (simp only [go_sem]; try omega))) only [go_sem, Nat.reduceAdd, Nat.reduceEqDiff, Nat.reduceLeDiff, Nat.reduceMul, Nat.reduceLT, reduceIte, Int.reduceToNat, w64_id, cast_succ])
    exact GR.of rfl
  have hsx := small_rows (by omega) (g3 (by omega)) (by omega)
  have t1 := toGroup_fn n els hsx.1 hsx.2
  have hlx : ∀ x ∈ els, x.length ≤ 2000000 := fun x hx => by
    have h1 : x.length ≤ total els := total_geV hx
    have := g3 (by omega); omega
  have hl2 : els.length ≤ 2000000 := by have := g3 (by omega); omega
  have htot : total els ≤ 1073741824 := by have := g3 (by omega); omega
  have hs := specOrbitReps_fn n els k
  have hi := implOrbitReps_fss n els k hlx hl2
  have hlen := orV_len n els k
  have hto := orV_tot n els k
  generalize orV n els k = zs at *
  generalize askV n els k = code at *
  repeat (first | (with_reducible first | refine SW.seq ?_ | refine SW.block ?_ | refine SW.rowC ?_ | refine SW.skip ?_ | refine SW.exit ?_ | intro _ | refine And.intro (by omega) ?_) | simp (config := { maxSteps := 1000000 }) (disch := (first | omega | (simp only [go_sem]; try omega))) only [go_sem, Nat.reduceAdd, Nat.reduceEqDiff, Nat.reduceLeDiff, Nat.reduceMul, Nat.reduceLT, reduceIte, Int.reduceToNat, w64_id, cast_succ])
  refine ACalls.fn (t1 _) ?_
  repeat (first | (with_reducible first | refine SW.seq ?_ | refine SW.block ?_ | refine SW.rowC ?_ | refine SW.skip ?_ | refine SW.exit ?_ | refine PFn.use (hs) ?_ | refine PFn.useq (hs) ?_ | intro _ | refine And.intro (by omega) ?_) | simp (config := { maxSteps := 1000000 }) (disch := (first | omega | (simp only [go_sem]; try omega))) only [go_sem, Nat.reduceAdd, Nat.reduceEqDiff, Nat.reduceLeDiff, Nat.reduceMul, Nat.reduceLT, reduceIte, Int.reduceToNat, w64_id, cast_succ])
  refine (toGroup_ok _ n _ els rfl (rd_ilSS _ _) hsx.1 hsx.2).mono ?_
  rintro r H1 ⟨ext, v, hH1, rfl, own⟩
  have pw := get_appB2 (show (H ++ [(⟨0, 26, 1, [I n, ilSS els]⟩ : Blk)])[H.length]? = some ⟨0, 26, 1, [I n, ilSS els]⟩ by simp) ext
  rw [← hH1] at pw
  have hb : (H ++ [(⟨0, 26, 1, [I n, ilSS els]⟩ : Blk)]).length = H.length + 1 := by simp
  rw [hb] at own
  have hlt : H.length < H1.length := (List.getElem?_eq_some_iff.1 pw).1
  clear hH1 hb
  repeat (first | (with_reducible first | refine SW.seq ?_ | refine SW.block ?_ | refine SW.rowC ?_ | refine SW.skip ?_ | refine SW.exit ?_ | intro _ | refine And.intro (by omega) ?_) | simp (config := { maxSteps := 1000000 }) (disch := (first | omega | (simp only [go_sem]; try omega))) only [go_sem, Nat.reduceAdd, Nat.reduceEqDiff, Nat.reduceLeDiff, Nat.reduceMul, Nat.reduceLT, reduceIte, Int.reduceToNat, w64_id, cast_succ, own.cell1B.1, own.cell1B.2])
  have px := (show (H1 ++ [(⟨0, tyG, 1, [I n, v]⟩ : Blk)])[H1.length]? = some ⟨0, tyG, 1, [I n, v]⟩ by simp)
  replace pw := get_appB2 pw [(⟨0, tyG, 1, [I n, v]⟩ : Blk)]
  replace own := own.append [(⟨0, tyG, 1, [I n, v]⟩ : Blk)]
  have hb2 : (H1 ++ [(⟨0, tyG, 1, [I n, v]⟩ : Blk)]).length = H1.length + 1 := by simp
  refine (hi.lend (.cons (froz_agg2 (froz_I' _) (own.froz (fun r _ => Nat.zero_le _))) (.cons (froz_I' _) .nil))).mono ?_
  rintro r H3 ⟨ext2, gu, hH3, rfl, hu⟩
  generalize hH2 : H1 ++ [(⟨0, tyG, 1, [I n, v]⟩ : Blk)] = H2 at *
  replace pw := get_appB2 pw ext2
  replace px := get_appB2 px ext2
  replace own := own.append ext2
  have hl3 : H2.length ≤ H3.length := by rw [hH3]; simp
  rw [← hH3] at pw px own
  clear hH3 hH2
  generalize hg : H1.length = g at *
  have pxl : acells H3 2 (.pc g 0 0) = some [I n, v] := pc_lds px (by simp)
  repeat (first | (with_reducible first | refine SW.seq ?_ | refine SW.block ?_ | refine SW.rowC ?_ | refine SW.skip ?_ | refine SW.exit ?_ | intro _ | refine And.intro (by omega) ?_) | simp (config := { maxSteps := 1000000 }) (disch := (first | omega | (simp only [go_sem]; try omega))) only [go_sem, Nat.reduceAdd, Nat.reduceEqDiff, Nat.reduceLeDiff, Nat.reduceMul, Nat.reduceLT, reduceIte, Int.reduceToNat, w64_id, cast_succ, hu.cell1B.1, hu.cell1B.2])
  refine ACalls.fn (eqInt64SS_ok _ gu (ilSS zs) zs zs hu.rd (rd_ilSS _ _)) ?_
  rw [show decide (zs = zs) = true by simp]
  repeat (first | (with_reducible first | refine SW.seq ?_ | refine SW.block ?_ | refine SW.rowC ?_ | refine SW.skip ?_ | refine SW.exit ?_ | intro _ | refine And.intro (by omega) ?_) | simp (config := { maxSteps := 1000000 }) (disch := (first | omega | (simp only [go_sem]; try omega))) only [go_sem, Nat.reduceAdd, Nat.reduceEqDiff, Nat.reduceLeDiff, Nat.reduceMul, Nat.reduceLT, reduceIte, Int.reduceToNat, w64_id, cast_succ])
  refine SW.condF rfl ?_
  have pal : acells H3 2 (.pc H.length 0 0) = some [I n, ilSS els] := pc_lds pw (by simp)
  repeat (first | (with_reducible first | refine SW.seq ?_ | refine SW.block ?_ | refine SW.rowC ?_ | refine SW.skip ?_ | refine SW.exit ?_ | refine PFn.use (t1) ?_ | refine PFn.useq (t1) ?_ | intro _ | refine And.intro (by omega) ?_) | simp (config := { maxSteps := 1000000 }) (disch := (first | omega | (simp only [go_sem]; try omega))) only [go_sem, Nat.reduceAdd, Nat.reduceEqDiff, Nat.reduceLeDiff, Nat.reduceMul, Nat.reduceLT, reduceIte, Int.reduceToNat, w64_id, cast_succ, pc_alive px, pc_alive pw, pxl, pal, own.cell1B.1, own.cell1B.2, hu.cell1B.1, hu.cell1B.2])
  refine QcallW.of (fun ext => eqGroup_ok _ n n v (ilSS els) els els own.cell1B.1 rfl (own.append ext).rd (rd_ilSS _ _)) ?_
  rw [show (decide (n = n) && decide (els = els)) = true by simp]
  repeat (first | (with_reducible first | refine SW.seq ?_ | refine SW.block ?_ | refine SW.rowC ?_ | refine SW.skip ?_ | refine SW.exit ?_ | intro _ | refine And.intro (by omega) ?_) | simp (config := { maxSteps := 1000000 }) (disch := (first | omega | (simp only [go_sem]; try omega))) only [go_sem, Nat.reduceAdd, Nat.reduceEqDiff, Nat.reduceLeDiff, Nat.reduceMul, Nat.reduceLT, reduceIte, Int.reduceToNat, w64_id, cast_succ])
  refine SW.condF rfl ?_
  repeat (first | (with_reducible first | refine SW.seq ?_ | refine SW.block ?_ | refine SW.rowC ?_ | refine SW.skip ?_ | refine SW.exit ?_ | intro _ | refine And.intro (by omega) ?_) | simp (config := { maxSteps := 1000000 }) (disch := (first | omega | (simp only [go_sem]; try omega))) only [go_sem, Nat.reduceAdd, Nat.reduceEqDiff, Nat.reduceLeDiff, Nat.reduceMul, Nat.reduceLT, reduceIte, Int.reduceToNat, w64_id, cast_succ, pc_alive px, pxl, own.cell1B.1, own.cell1B.2])
  refine (markGroup_ok _ _ n 1 v els own.cell1B.1 own (by omega) (by omega)).mono ?_
  rintro r H4 ⟨rfl, -, m1, m2⟩
  have hlt3 := (List.getElem?_eq_some_iff.1 px).1
  replace pw := (m2 H.length (by unfold Btw; omega) (by omega)).trans pw
  replace hu := hu.same (H' := H4) (fun j b hj hb => by rw [m2 j (by unfold Btw at hj ⊢; omega) (by unfold Btw at hj; omega)]; exact hb)
  clear own px pxl pal
  have hneg1 : decide ((1 : Int) + total els < 0) = false := decide_eq_false (by omega)
  have hneg2 : decide ((1 : Int) + total zs < 0) = false := decide_eq_false (by omega)
  repeat (first | (with_reducible first | refine SW.seq ?_ | refine SW.block ?_ | refine SW.rowC ?_ | refine SW.skip ?_ | refine SW.exit ?_ | intro _ | refine And.intro (by omega) ?_) | simp (config := { maxSteps := 1000000 }) (disch := (first | omega | (simp only [go_sem]; try omega))) only [go_sem, Nat.reduceAdd, Nat.reduceEqDiff, Nat.reduceLeDiff, Nat.reduceMul, Nat.reduceLT, reduceIte, Int.reduceToNat, w64_id, cast_succ, hneg1])
  refine ACalls.fn (eqInt64SS_ok _ gu (ilSS zs) zs zs hu.rd (rd_ilSS _ _)) ?_
  rw [show decide (zs = zs) = true by simp]
  repeat (first | (with_reducible first | refine SW.seq ?_ | refine SW.block ?_ | refine SW.rowC ?_ | refine SW.skip ?_ | refine SW.exit ?_ | intro _ | refine And.intro (by omega) ?_) | simp (config := { maxSteps := 1000000 }) (disch := (first | omega | (simp only [go_sem]; try omega))) only [go_sem, Nat.reduceAdd, Nat.reduceEqDiff, Nat.reduceLeDiff, Nat.reduceMul, Nat.reduceLT, reduceIte, Int.reduceToNat, w64_id, cast_succ])
  refine SW.condF rfl ?_
  repeat (first | (with_reducible first | refine SW.seq ?_ | refine SW.block ?_ | refine SW.rowC ?_ | refine SW.skip ?_ | refine SW.exit ?_ | intro _ | refine And.intro (by omega) ?_) | simp (config := { maxSteps := 1000000 }) (disch := (first | omega | (simp only [go_sem]; try omega))) only [go_sem, Nat.reduceAdd, Nat.reduceEqDiff, Nat.reduceLeDiff, Nat.reduceMul, Nat.reduceLT, reduceIte, Int.reduceToNat, w64_id, cast_succ])
  refine (markInt64SS_ok _ _ _ _ 1 hu (by omega) (by omega)).mono ?_
  rintro r H8 ⟨rfl, hu8, q3, q4⟩
  replace pw := (q4 H.length (by unfold Btw; omega)).trans pw
  repeat (first | (with_reducible first | refine SW.seq ?_ | refine SW.block ?_ | refine SW.rowC ?_ | refine SW.skip ?_ | refine SW.exit ?_ | intro _ | refine And.intro (by omega) ?_) | simp (config := { maxSteps := 1000000 }) (disch := (first | omega | (simp only [go_sem]; try omega))) only [go_sem, Nat.reduceAdd, Nat.reduceEqDiff, Nat.reduceLeDiff, Nat.reduceMul, Nat.reduceLT, reduceIte, Int.reduceToNat, w64_id, cast_succ])
  refine ACalls.fn (heldInt64SS_ok _ _ zs 1 hu8.rd (by omega) (by omega)) ?_
  repeat (first | (with_reducible first | refine SW.seq ?_ | refine SW.block ?_ | refine SW.rowC ?_ | refine SW.skip ?_ | refine SW.exit ?_ | intro _ | refine And.intro (by omega) ?_) | simp (config := { maxSteps := 1000000 }) (disch := (first | omega | (simp only [go_sem]; try omega))) only [go_sem, Nat.reduceAdd, Nat.reduceEqDiff, Nat.reduceLeDiff, Nat.reduceMul, Nat.reduceLT, reduceIte, Int.reduceToNat, w64_id, cast_succ, hneg2])
  refine SW.condF rfl ?_
  repeat (first | (with_reducible first | refine SW.seq ?_ | refine SW.block ?_ | refine SW.rowC ?_ | refine SW.skip ?_ | refine SW.exit ?_ | intro _ | refine And.intro (by omega) ?_) | simp (config := { maxSteps := 1000000 }) (disch := (first | omega | (simp only [go_sem]; try omega))) only [go_sem, Nat.reduceAdd, Nat.reduceEqDiff, Nat.reduceLeDiff, Nat.reduceMul, Nat.reduceLT, reduceIte, Int.reduceToNat, w64_id, cast_succ])
  refine SW.condF rfl ?_
  repeat (first | (with_reducible first | refine SW.seq ?_ | refine SW.block ?_ | refine SW.rowC ?_ | refine SW.skip ?_ | refine SW.exit ?_ | refine PFn.use (t1) ?_ | refine PFn.useq (t1) ?_ | intro _ | refine And.intro (by omega) ?_) | simp (config := { maxSteps := 1000000 }) (disch := (first | omega | (simp only [go_sem]; try omega))) only [go_sem, Nat.reduceAdd, Nat.reduceEqDiff, Nat.reduceLeDiff, Nat.reduceMul, Nat.reduceLT, reduceIte, Int.reduceToNat, w64_id, cast_succ, pc_alive pw, show acells H8 2 (.pc H.length 0 0) = some [I n, ilSS els] from pc_lds pw (by simp)])
  refine (hi _).mono ?_
  rintro r H9 ⟨ext3, hw, rfl, rfl, ho9⟩
  repeat (first | (with_reducible first | refine SW.seq ?_ | refine SW.block ?_ | refine SW.rowC ?_ | refine SW.skip ?_ | refine SW.exit ?_ | intro _ | refine And.intro (by omega) ?_) | simp (config := { maxSteps := 1000000 }) (disch := (first | omega | (simp only [go_sem]; try omega))) only [go_sem, Nat.reduceAdd, Nat.reduceEqDiff, Nat.reduceLeDiff, Nat.reduceMul, Nat.reduceLT, reduceIte, Int.reduceToNat, w64_id, cast_succ])
  refine ACalls.fn (eqInt64SS_ok _ hw (ilSS zs) zs zs ho9.rd (rd_ilSS _ _)) ?_
  rw [show decide (zs = zs) = true by simp]
  repeat (first | (with_reducible first | refine SW.seq ?_ | refine SW.block ?_ | refine SW.rowC ?_ | refine SW.skip ?_ | refine SW.exit ?_ | intro _ | refine And.intro (by omega) ?_) | simp (config := { maxSteps := 1000000 }) (disch := (first | omega | (simp only [go_sem]; try omega))) only [go_sem, Nat.reduceAdd, Nat.reduceEqDiff, Nat.reduceLeDiff, Nat.reduceMul, Nat.reduceLT, reduceIte, Int.reduceToNat, w64_id, cast_succ])
  refine SW.condF rfl ?_
  repeat (first | (with_reducible first | refine SW.seq ?_ | refine SW.block ?_ | refine SW.rowC ?_ | refine SW.skip ?_ | refine SW.exit ?_ | intro _ | refine And.intro (by omega) ?_) | simp (config := { maxSteps := 1000000 }) (disch := (first | omega | (simp only [go_sem]; try omega))) only [go_sem, Nat.reduceAdd, Nat.reduceEqDiff, Nat.reduceLeDiff, Nat.reduceMul, Nat.reduceLT, reduceIte, Int.reduceToNat, w64_id, cast_succ])
  refine ACalls.fn (heldInt64SS_ok _ _ zs 1 (hu8.append _).rd (by omega) (by omega)) ?_
  repeat (first | (with_reducible first | refine SW.seq ?_ | refine SW.block ?_ | refine SW.rowC ?_ | refine SW.skip ?_ | refine SW.exit ?_ | intro _ | refine And.intro (by omega) ?_) | simp (config := { maxSteps := 1000000 }) (disch := (first | omega | (simp only [go_sem]; try omega))) only [go_sem, Nat.reduceAdd, Nat.reduceEqDiff, Nat.reduceLeDiff, Nat.reduceMul, Nat.reduceLT, reduceIte, Int.reduceToNat, w64_id, cast_succ, hneg2])
  refine SW.condF rfl ?_
  repeat (first | (with_reducible first | refine SW.seq ?_ | refine SW.block ?_ | refine SW.rowC ?_ | refine SW.skip ?_ | refine SW.exit ?_ | intro _ | refine And.intro (by omega) ?_) | simp (config := { maxSteps := 1000000 }) (disch := (first | omega | (simp only [go_sem]; try omega))) only [go_sem, Nat.reduceAdd, Nat.reduceEqDiff, Nat.reduceLeDiff, Nat.reduceMul, Nat.reduceLT, reduceIte, Int.reduceToNat, w64_id, cast_succ])
  refine SW.condF rfl ?_
  repeat (first | (with_reducible first | refine SW.seq ?_ | refine SW.block ?_ | refine SW.rowC ?_ | refine SW.skip ?_ | refine SW.exit ?_ | intro _ | refine And.intro (by omega) ?_) | simp (config := { maxSteps := 1000000 }) (disch := (first | omega | (simp only [go_sem]; try omega))) only [go_sem, Nat.reduceAdd, Nat.reduceEqDiff, Nat.reduceLeDiff, Nat.reduceMul, Nat.reduceLT, reduceIte, Int.reduceToNat, w64_id, cast_succ])
  refine SW.ret ?_; (try simp only [go_sem]); (first | refine FunPost.one ?_ | refine FunPost.two ?_ | refine FunPost.three ?_); (try simp (config := { maxSteps := 1000000 }) (disch := (first | omega | (simp only [go_sem]; try omega))) only [go_sem, Nat.reduceAdd, Nat.reduceEqDiff, Nat.reduceLeDiff, Nat.reduceMul, Nat.reduceLT, reduceIte, Int.reduceToNat, w64_id, cast_succ])
  exact GR.of rfl
end Go.Proofs.YtkifdjjnbplghaaGreat
