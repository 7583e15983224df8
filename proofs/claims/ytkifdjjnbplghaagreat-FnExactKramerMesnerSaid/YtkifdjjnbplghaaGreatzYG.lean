/- KramerMesner: the law. -/
import Derived.Test.YtkifdjjnbplghaaGreatProg
import Derived.KernelRfl
import Derived.Test.YtkifdjjnbplghaaGreatzYF
import Derived.Test.YtkifdjjnbplghaaGreatzV0
import Derived.Test.YtkifdjjnbplghaaGreatzAv17
import Derived.Test.YtkifdjjnbplghaaGreatzK18
set_option linter.unusedSimpArgs false
set_option linter.unusedVariables false
set_option maxHeartbeats 4000000
set_option maxRecDepth 100000
namespace Go.Proofs.YtkifdjjnbplghaaGreat
open Go.Av
abbrev f_laws_FnExactKramerMesner : Nat := 6
def c_laws_FnExactKramerMesner : SC :=
 .seq (.reg [
     ⟨(some 3), .box 26 (.tmp 0), none⟩,
     ⟨(some 6), .mv (.const (.bool false)), none⟩] [1, 2, 3])
 (.seq (.reg [
     ⟨(some 7), .mv (.const (.int .i64 1048576)), none⟩] [1, 2, 3, 7])
 (.seq (.reg [
     ⟨(some 18), .load 2 true (.tmp 3), none⟩,
     ⟨(some 19), .mv (.tmp 7), none⟩,
     ⟨(some 20), .call 10 [(.tmp 18), (.tmp 19)], none⟩,
     ⟨(some 7), .mv (.tmp 20), none⟩] [1, 2, 3, 7])
 (.seq (.seq (.reg [
     ⟨(some 21), .mv (.tmp 7), none⟩,
     ⟨(some 22), .bin .lss (.tmp 21) (.const (.int .i64 0)), none⟩] [1, 2, 3, 22])
 (.cond (.tmp 22)
  (.seq (.reg [
      ⟨(some 6), .mv (.const (.bool true)), none⟩] [6])
  (.ret))
  (.skip)))
 (.seq (.reg [
     ⟨(some 24), .load 2 true (.tmp 3), none⟩,
     ⟨(some 25), .call 13 [(.tmp 24)], none⟩,
     ⟨(some 26), .mv (.tmp 1), none⟩,
     ⟨(some 27), .mv (.tmp 2), none⟩,
     ⟨(some 28), .call 28 [(.tmp 25), (.tmp 26), (.tmp 27)], none⟩,
     ⟨(some 23), .mv (.tmp 28), none⟩,
     ⟨(some 29), .ext (.tmp 23) 0, none⟩,
     ⟨(some 30), .ext (.tmp 23) 1, none⟩,
     ⟨(some 8), .mv (.tmp 29), none⟩,
     ⟨(some 9), .mv (.tmp 30), none⟩] [1, 2, 3, 8, 9])
 (.seq (.reg [
     ⟨(some 31), .load 2 true (.tmp 3), none⟩,
     ⟨(some 32), .call 13 [(.tmp 31)], none⟩,
     ⟨(some 10), .alloc 33 [(.int .i64 0), (.slice none 0 0)], none⟩,
     ⟨none, .store 2 (.tmp 10) (.tmp 32), none⟩] [1, 2, 3, 8, 9, 10])
 (.seq (.reg [
     ⟨(some 34), .load 2 true (.tmp 10), none⟩,
     ⟨(some 35), .mv (.tmp 1), none⟩,
     ⟨(some 36), .mv (.tmp 2), none⟩,
     ⟨(some 37), .call 29 [(.tmp 34), (.tmp 35), (.tmp 36)], none⟩,
     ⟨(some 33), .mv (.tmp 37), none⟩,
     ⟨(some 38), .ext (.tmp 33) 0, none⟩,
     ⟨(some 39), .ext (.tmp 33) 1, none⟩,
     ⟨(some 11), .mv (.tmp 38), none⟩,
     ⟨(some 12), .mv (.tmp 39), none⟩] [1, 2, 3, 8, 9, 10, 11, 12])
 (.seq (.seq (.reg [
     ⟨(some 40), .mv (.tmp 11), none⟩,
     ⟨(some 41), .mv (.tmp 8), none⟩,
     ⟨(some 42), .call 25 [(.tmp 40), (.tmp 41)], none⟩,
     ⟨(some 43), .un .not (.tmp 42), none⟩,
     ⟨(some 44), .mv (.tmp 43), none⟩,
     ⟨(some 45), .mv (.tmp 12), (some (44, false))⟩,
     ⟨(some 46), .mv (.tmp 9), (some (44, false))⟩,
     ⟨(some 47), .bin .neq (.tmp 45) (.tmp 46), (some (44, false))⟩,
     ⟨(some 48), .pick (.tmp 44) (.const (.bool true)) (.tmp 47), none⟩] [1, 2, 3, 8, 9, 10, 11, 12, 48])
 (.cond (.tmp 48)
  (.seq (.reg [
      ⟨(some 6), .mv (.const (.bool false)), none⟩] [6])
  (.ret))
  (.skip)))
 (.seq (.seq (.reg [
     ⟨(some 49), .load 2 true (.tmp 10), none⟩,
     ⟨(some 50), .load 2 true (.tmp 3), none⟩,
     ⟨(some 51), .qcall 13 [(.tmp 50)], none⟩,
     ⟨(some 52), .qcall 16 [(.tmp 49), (.tmp 51)], none⟩,
     ⟨(some 53), .un .not (.tmp 52), none⟩] [1, 2, 3, 8, 9, 10, 11, 12, 53])
 (.cond (.tmp 53)
  (.seq (.reg [
      ⟨(some 6), .mv (.const (.bool false)), none⟩] [6])
  (.ret))
  (.skip)))
 (.seq (.reg [
     ⟨(some 13), .mv (.const (.int .i64 1)), none⟩] [1, 2, 3, 8, 9, 10, 11, 12, 13])
 (.seq (.reg [
     ⟨(some 54), .load 2 true (.tmp 10), none⟩,
     ⟨(some 55), .mv (.tmp 13), none⟩,
     ⟨(some 56), .call 20 [(.tmp 54), (.tmp 55)], none⟩,
     ⟨(some 13), .mv (.tmp 56), none⟩] [1, 2, 3, 8, 9, 11, 12, 13])
 (.seq (.seq (.reg [
     ⟨(some 57), .mv (.tmp 13), none⟩,
     ⟨(some 58), .bin .lss (.tmp 57) (.const (.int .i64 0)), none⟩,
     ⟨(some 59), .mv (.tmp 58), none⟩,
     ⟨(some 60), .mv (.tmp 11), (some (59, false))⟩,
     ⟨(some 61), .mv (.tmp 8), (some (59, false))⟩,
     ⟨(some 62), .call 25 [(.tmp 60), (.tmp 61)], (some (59, false))⟩,
     ⟨(some 63), .un .not (.tmp 62), (some (59, false))⟩,
     ⟨(some 64), .pick (.tmp 59) (.const (.bool true)) (.tmp 63), none⟩,
     ⟨(some 65), .mv (.tmp 64), none⟩,
     ⟨(some 66), .mv (.tmp 12), (some (65, false))⟩,
     ⟨(some 67), .mv (.tmp 9), (some (65, false))⟩,
     ⟨(some 68), .bin .neq (.tmp 66) (.tmp 67), (some (65, false))⟩,
     ⟨(some 69), .pick (.tmp 65) (.const (.bool true)) (.tmp 68), none⟩] [1, 2, 3, 8, 9, 11, 69])
 (.cond (.tmp 69)
  (.seq (.reg [
      ⟨(some 6), .mv (.const (.bool false)), none⟩] [6])
  (.ret))
  (.skip)))
 (.seq (.reg [
     ⟨(some 14), .mv (.const (.int .i64 1)), none⟩] [1, 2, 3, 8, 9, 11, 14])
 (.seq (.reg [
     ⟨(some 70), .mv (.tmp 11), none⟩,
     ⟨(some 71), .mv (.tmp 14), none⟩,
     ⟨(some 72), .call 26 [(.tmp 70), (.tmp 71)], none⟩,
     ⟨(some 14), .mv (.tmp 72), none⟩] [1, 2, 3, 8, 9, 11, 14])
 (.seq (.reg [
     ⟨(some 15), .mv (.const (.int .i64 1)), none⟩] [1, 2, 3, 8, 9, 11, 14, 15])
 (.seq (.reg [
     ⟨(some 73), .mv (.tmp 11), none⟩,
     ⟨(some 74), .mv (.tmp 15), none⟩,
     ⟨(some 75), .call 27 [(.tmp 73), (.tmp 74)], none⟩,
     ⟨(some 15), .mv (.tmp 75), none⟩] [1, 2, 3, 8, 9, 11, 14, 15])
 (.seq (.seq (.reg [
     ⟨(some 76), .mv (.tmp 15), none⟩,
     ⟨(some 77), .bin .lss (.tmp 76) (.const (.int .i64 0)), none⟩] [1, 2, 3, 8, 9, 11, 14, 15, 77])
 (.cond (.tmp 77)
  (.seq (.reg [
      ⟨(some 6), .mv (.const (.bool false)), none⟩] [6])
  (.ret))
  (.skip)))
 (.seq (.seq (.reg [
     ⟨(some 78), .mv (.tmp 15), none⟩,
     ⟨(some 79), .mv (.tmp 14), none⟩,
     ⟨(some 80), .bin .neq (.tmp 78) (.tmp 79), none⟩] [1, 2, 3, 8, 9, 11, 14, 80])
 (.cond (.tmp 80)
  (.seq (.reg [
      ⟨(some 6), .mv (.const (.bool false)), none⟩] [6])
  (.ret))
  (.skip)))
 (.seq (.reg [
     ⟨(some 82), .load 2 true (.tmp 3), none⟩,
     ⟨(some 83), .call 13 [(.tmp 82)], none⟩,
     ⟨(some 84), .mv (.tmp 1), none⟩,
     ⟨(some 85), .mv (.tmp 2), none⟩,
     ⟨(some 86), .call 29 [(.tmp 83), (.tmp 84), (.tmp 85)], none⟩,
     ⟨(some 81), .mv (.tmp 86), none⟩,
     ⟨(some 87), .ext (.tmp 81) 0, none⟩,
     ⟨(some 88), .ext (.tmp 81) 1, none⟩,
     ⟨(some 16), .mv (.tmp 87), none⟩,
     ⟨(some 17), .mv (.tmp 88), none⟩] [8, 9, 11, 14, 16, 17])
 (.seq (.seq (.reg [
     ⟨(some 89), .mv (.tmp 16), none⟩,
     ⟨(some 90), .mv (.tmp 8), none⟩,
     ⟨(some 91), .call 25 [(.tmp 89), (.tmp 90)], none⟩,
     ⟨(some 92), .un .not (.tmp 91), none⟩,
     ⟨(some 93), .mv (.tmp 92), none⟩,
     ⟨(some 94), .mv (.tmp 17), (some (93, false))⟩,
     ⟨(some 95), .mv (.tmp 9), (some (93, false))⟩,
     ⟨(some 96), .bin .neq (.tmp 94) (.tmp 95), (some (93, false))⟩,
     ⟨(some 97), .pick (.tmp 93) (.const (.bool true)) (.tmp 96), none⟩] [11, 14, 97])
 (.cond (.tmp 97)
  (.seq (.reg [
      ⟨(some 6), .mv (.const (.bool false)), none⟩] [6])
  (.ret))
  (.skip)))
 (.seq (.reg [
     ⟨(some 15), .mv (.const (.int .i64 1)), none⟩] [11, 14, 15])
 (.seq (.reg [
     ⟨(some 98), .mv (.tmp 11), none⟩,
     ⟨(some 99), .mv (.tmp 15), none⟩,
     ⟨(some 100), .call 27 [(.tmp 98), (.tmp 99)], none⟩,
     ⟨(some 15), .mv (.tmp 100), none⟩] [14, 15])
 (.seq (.seq (.reg [
     ⟨(some 101), .mv (.tmp 15), none⟩,
     ⟨(some 102), .bin .lss (.tmp 101) (.const (.int .i64 0)), none⟩] [14, 15, 102])
 (.cond (.tmp 102)
  (.seq (.reg [
      ⟨(some 6), .mv (.const (.bool false)), none⟩] [6])
  (.ret))
  (.skip)))
 (.seq (.seq (.reg [
     ⟨(some 103), .mv (.tmp 15), none⟩,
     ⟨(some 104), .mv (.tmp 14), none⟩,
     ⟨(some 105), .bin .neq (.tmp 103) (.tmp 104), none⟩] [105])
 (.cond (.tmp 105)
  (.seq (.reg [
      ⟨(some 6), .mv (.const (.bool false)), none⟩] [6])
  (.ret))
  (.skip)))
 (.seq (.reg [
     ⟨(some 6), .mv (.const (.bool true)), none⟩] [6])
 (.ret)))))))))))))))))))))))))
theorem s_laws_FnExactKramerMesner : stripF Tryz.prog 6 [[1, 2, 3], [1, 2, 3, 7], [1, 2, 3, 7], [1, 2, 3, 22], [6], [1, 2, 3, 8, 9], [1, 2, 3, 8, 9, 10], [1, 2, 3, 8, 9, 10, 11, 12], [1, 2, 3, 8, 9, 10, 11, 12, 48], [6], [1, 2, 3, 8, 9, 10, 11, 12, 53], [6], [1, 2, 3, 8, 9, 10, 11, 12, 13], [1, 2, 3, 8, 9, 11, 12, 13], [1, 2, 3, 8, 9, 11, 69], [6], [1, 2, 3, 8, 9, 11, 14], [1, 2, 3, 8, 9, 11, 14], [1, 2, 3, 8, 9, 11, 14, 15], [1, 2, 3, 8, 9, 11, 14, 15], [1, 2, 3, 8, 9, 11, 14, 15, 77], [6], [1, 2, 3, 8, 9, 11, 14, 80], [6], [8, 9, 11, 14, 16, 17], [11, 14, 97], [6], [11, 14, 15], [14, 15], [14, 15, 102], [6], [105], [6], [6]] = some (c_laws_FnExactKramerMesner, [.tmp 6], 106) := by kernel_rfl
theorem lawKM_ok (H : List Blk) (n : Int) (els : List (List Int)) (t k : Int) : ACalls Tryz.prog f_laws_FnExactKramerMesner [.agg [I n, ilSS els], I t, I k] H (fun r _ => r = Bv true) := by
  refine ACalls.introB s_laws_FnExactKramerMesner (by simp) ?_; intro hB hA; unfold c_laws_FnExactKramerMesner; simp (config := { maxSteps := 1000000 }) (disch := (first | omega | (simp only [go_sem]; try omega))) only [go_sem, Nat.reduceAdd, Nat.reduceEqDiff, Nat.reduceLeDiff, Nat.reduceMul, Nat.reduceLT, reduceIte, Int.reduceToNat, w64_id, cast_succ]
  repeat (first | (with_reducible first | refine SW.seq ?_ | refine SW.block ?_ | refine SW.rowC ?_ | refine SW.skip ?_ | refine SW.exit ?_ | intro _ | refine And.intro (by omega) ?_) | simp (config := { maxSteps := 1000000 }) (disch := (first | omega | (simp only [go_sem]; try omega))) only [go_sem, Nat.reduceAdd, Nat.reduceEqDiff, Nat.reduceLeDiff, Nat.reduceMul, Nat.reduceLT, reduceIte, Int.reduceToNat, w64_id, cast_succ])
  refine (szGroup_ok _ n _ els _ rfl (rd_ilSS _ _) (by omega) (by omega)).mono ?_
  rintro r H' ⟨⟨z, rfl, g1, g2, g3⟩, rfl⟩
  repeat (first | (with_reducible first | refine SW.seq ?_ | refine SW.block ?_ | refine SW.rowC ?_ | refine SW.skip ?_ | refine SW.exit ?_ | intro _ | refine And.intro (by omega) ?_) | simp (config := { maxSteps := 1000000 }) (disch := (first | omega | (simp only [go_sem]; try omega))) only [go_sem, Nat.reduceAdd, Nat.reduceEqDiff, Nat.reduceLeDiff, Nat.reduceMul, Nat.reduceLT, reduceIte, Int.reduceToNat, w64_id, cast_succ])
  (first | refine SW.condD rfl (fun h2 => ?_) (fun h2 => ?_) | refine SW.condN rfl (fun h2 => ?_) (fun h2 => ?_) | refine SW.condNB rfl (fun h2 => ?_) (fun h2 => ?_) | refine SW.condB rfl (fun h2 => ?_) (fun h2 => ?_))
  · repeat (first | (with_reducible first | refine SW.seq ?_ | refine SW.block ?_ | refine SW.rowC ?_ | refine SW.skip ?_ | refine SW.exit ?_ | intro _ | refine And.intro (by omega) ?_) | simp (config := { maxSteps := 1000000 }) (disch := (first | omega | (simp only [go_sem]; try omega))) only [go_sem, Nat.reduceAdd, Nat.reduceEqDiff, Nat.reduceLeDiff, Nat.reduceMul, Nat.reduceLT, reduceIte, Int.reduceToNat, w64_id, cast_succ])
    refine SW.ret ?_; (try simp only [go_sem]); (first | refine FunPost.one ?_ | refine FunPost.two ?_ | refine FunPost.three ?_); (try simp (config := { maxSteps := 1000000 }) (disch := (first | omega | (simp only [go_sem]; try omega))) only [go_sem, Nat.reduceAdd, Nat.reduceEqDiff, Nat.reduceLeDiff, Nat.reduceMul, Nat.reduceLT, reduceIte, Int.reduceToNat, w64_id, cast_succ])
    exact GR.of rfl
  have hsx := small_rows (by omega) (g3 (by omega)) (by omega)
  have t1 := toGroup_fn n els hsx.1 hsx.2
  have hlx : ∀ x ∈ els, x.length ≤ 2000000 := fun x hx => by
    have h1 : x.length ≤ total els := total_geV hx
    have := g3 (by omega); omega
  have hl2 : els.length ≤ 2000000 := by have := g3 (by omega); omega
  have htot : total els ≤ 1073741824 := by have := g3 (by omega); omega
  have hs := specKM_fn n t k els
  have hi := implKM_fss n t k els hlx hl2
  obtain ⟨hlen, hto⟩ := kmV_len n t k els
  generalize kmV n els t k = zs at *
  generalize kmA n els t k = code at *
  repeat (first | (with_reducible first | refine SW.seq ?_ | refine SW.block ?_ | refine SW.rowC ?_ | refine SW.skip ?_ | refine SW.exit ?_ | intro _ | refine And.intro (by omega) ?_) | simp (config := { maxSteps := 1000000 }) (disch := (first | omega | (simp only [go_sem]; try omega))) only [go_sem, Nat.reduceAdd, Nat.reduceEqDiff, Nat.reduceLeDiff, Nat.reduceMul, Nat.reduceLT, reduceIte, Int.reduceToNat, w64_id, cast_succ])
  refine ACalls.fn (t1 _) ?_
  repeat (first | (with_reducible first | refine SW.seq ?_ | refine SW.block ?_ | refine SW.rowC ?_ | refine SW.skip ?_ | refine SW.exit ?_ | refine PFn.use (hs) ?_ | refine PFn.useq (hs) ?_ | intro _ | refine And.intro (by omega) ?_) | simp (config := { maxSteps := 1000000 }) (disch := (first | omega | (simp only [go_sem]; try omega))) only [go_sem, Nat.reduceAdd, Nat.reduceEqDiff, Nat.reduceLeDiff, Nat.reduceMul, Nat.reduceLT, reduceIte, Int.reduceToNat, w64_id, cast_succ])
  refine (toGroup_ok _ n _ els rfl (rd_ilSS _ _) hsx.1 hsx.2).mono ?_
  rintro r H1 ⟨ext, v, hH1, rfl, own⟩
  have pw := get_appB2 (show (H ++ [(⟨0, 26, 1, [I n, ilSS els]⟩ : Blk)])[H.length]? = some ⟨0, 26, 1, [I n, ilSS els]⟩ by simp) ext
  rw [← hH1] at pw
  have hb : (H ++ [(⟨0, 26, 1, [I n, ilSS els]⟩ : Blk)]).length = H.length + 1 := by simp
  rw [hb] at own
  have hlt : H.length < H1.length := (List.getElem?_eq_some_iff.1 pw).1
  clear hH1 hb
  repeat (first | (with_reducible first | refine SW.seq ?_ | refine SW.block ?_ | refine SW.rowC ?_ | refine SW.skip ?_ | refine SW.exit ?_ | intro _ | refine And.intro (by omega) ?_) | simp (config := { maxSteps := 1000000 }) (disch := (first | omega | (simp only [go_sem]; try omega))) only [go_sem, Nat.reduceAdd, Nat.reduceEqDiff, Nat.reduceLeDiff, Nat.reduceMul, Nat.reduceLT, reduceIte, Int.reduceToNat, w64_id, cast_succ, own.cell1B.1, own.cell1B.2])
  have px := (show (H1 ++ [(⟨0, tyG, 1, [I n, v]⟩ : Blk)])[H1.length]? = some ⟨0, tyG, 1, [I n, v]⟩ by simp)
  replace pw := get_appB2 pw [(⟨0, tyG, 1, [I n, v]⟩ : Blk)]
  replace own := own.append [(⟨0, tyG, 1, [I n, v]⟩ : Blk)]
  have hb2 : (H1 ++ [(⟨0, tyG, 1, [I n, v]⟩ : Blk)]).length = H1.length + 1 := by simp
  refine (hi.lend (.cons (froz_agg2 (froz_I' _) (own.froz (fun r _ => Nat.zero_le _))) (.cons (froz_I' _) (.cons (froz_I' _) .nil)))).mono ?_
  rintro r H3 ⟨ext2, gu, hH3, rfl, hu⟩
  generalize hH2 : H1 ++ [(⟨0, tyG, 1, [I n, v]⟩ : Blk)] = H2 at *
  replace pw := get_appB2 pw ext2
  replace px := get_appB2 px ext2
  replace own := own.append ext2
  have hl3 : H2.length ≤ H3.length := by rw [hH3]; simp
  rw [← hH3] at pw px own
  clear hH3 hH2
  generalize hg : H1.length = g at *
  have pxl : acells H3 2 (.pc g 0 0) = some [I n, v] := pc_lds px (by simp)
  repeat (first | (with_reducible first | refine SW.seq ?_ | refine SW.block ?_ | refine SW.rowC ?_ | refine SW.skip ?_ | refine SW.exit ?_ | intro _ | refine And.intro (by omega) ?_) | simp (config := { maxSteps := 1000000 }) (disch := (first | omega | (simp only [go_sem]; try omega))) only [go_sem, Nat.reduceAdd, Nat.reduceEqDiff, Nat.reduceLeDiff, Nat.reduceMul, Nat.reduceLT, reduceIte, Int.reduceToNat, w64_id, cast_succ, hu.cell1B.1, hu.cell1B.2])
  refine ACalls.fn (eqInt64SS_ok _ gu (ilSS zs) zs zs hu.rd (rd_ilSS _ _)) ?_
  rw [show decide (zs = zs) = true by simp]
  repeat (first | (with_reducible first | refine SW.seq ?_ | refine SW.block ?_ | refine SW.rowC ?_ | refine SW.skip ?_ | refine SW.exit ?_ | intro _ | refine And.intro (by omega) ?_) | simp (config := { maxSteps := 1000000 }) (disch := (first | omega | (simp only [go_sem]; try omega))) only [go_sem, Nat.reduceAdd, Nat.reduceEqDiff, Nat.reduceLeDiff, Nat.reduceMul, Nat.reduceLT, reduceIte, Int.reduceToNat, w64_id, cast_succ])
  refine SW.condF rfl ?_
  have pal : acells H3 2 (.pc H.length 0 0) = some [I n, ilSS els] := pc_lds pw (by simp)
  repeat (first | (with_reducible first | refine SW.seq ?_ | refine SW.block ?_ | refine SW.rowC ?_ | refine SW.skip ?_ | refine SW.exit ?_ | refine PFn.use (t1) ?_ | refine PFn.useq (t1) ?_ | intro _ | refine And.intro (by omega) ?_) | simp (config := { maxSteps := 1000000 }) (disch := (first | omega | (simp only [go_sem]; try omega))) only [go_sem, Nat.reduceAdd, Nat.reduceEqDiff, Nat.reduceLeDiff, Nat.reduceMul, Nat.reduceLT, reduceIte, Int.reduceToNat, w64_id, cast_succ, pc_alive px, pc_alive pw, pxl, pal, own.cell1B.1, own.cell1B.2, hu.cell1B.1, hu.cell1B.2])
  refine QcallW.of (fun ext => eqGroup_ok _ n n v (ilSS els) els els own.cell1B.1 rfl (own.append ext).rd (rd_ilSS _ _)) ?_
  rw [show (decide (n = n) && decide (els = els)) = true by simp]
  repeat (first | (with_reducible first | refine SW.seq ?_ | refine SW.block ?_ | refine SW.rowC ?_ | refine SW.skip ?_ | refine SW.exit ?_ | intro _ | refine And.intro (by omega) ?_) | simp (config := { maxSteps := 1000000 }) (disch := (first | omega | (simp only [go_sem]; try omega))) only [go_sem, Nat.reduceAdd, Nat.reduceEqDiff, Nat.reduceLeDiff, Nat.reduceMul, Nat.reduceLT, reduceIte, Int.reduceToNat, w64_id, cast_succ])
  refine SW.condF rfl ?_
  repeat (first | (with_reducible first | refine SW.seq ?_ | refine SW.block ?_ | refine SW.rowC ?_ | refine SW.skip ?_ | refine SW.exit ?_ | intro _ | refine And.intro (by omega) ?_) | simp (config := { maxSteps := 1000000 }) (disch := (first | omega | (simp only [go_sem]; try omega))) only [go_sem, Nat.reduceAdd, Nat.reduceEqDiff, Nat.reduceLeDiff, Nat.reduceMul, Nat.reduceLT, reduceIte, Int.reduceToNat, w64_id, cast_succ, pc_alive px, pxl, own.cell1B.1, own.cell1B.2])
  refine (markGroup_ok _ _ n 1 v els own.cell1B.1 own (by omega) (by omega)).mono ?_
  rintro r H4 ⟨rfl, -, m1, m2⟩
  have hlt3 := (List.getElem?_eq_some_iff.1 px).1
  replace pw := (m2 H.length (by unfold Btw; omega) (by omega)).trans pw
  replace hu := hu.same (H' := H4) (fun j b hj hb => by rw [m2 j (by unfold Btw at hj ⊢; omega) (by unfold Btw at hj; omega)]; exact hb)
  clear own px pxl pal
  have hneg1 : decide ((1 : Int) + total els < 0) = false := decide_eq_false (by omega)
  have hneg2 : decide ((1 : Int) + total zs < 0) = false := decide_eq_false (by omega)
  repeat (first | (with_reducible first | refine SW.seq ?_ | refine SW.block ?_ | refine SW.rowC ?_ | refine SW.skip ?_ | refine SW.exit ?_ | intro _ | refine And.intro (by omega) ?_) | simp (config := { maxSteps := 1000000 }) (disch := (first | omega | (simp only [go_sem]; try omega))) only [go_sem, Nat.reduceAdd, Nat.reduceEqDiff, Nat.reduceLeDiff, Nat.reduceMul, Nat.reduceLT, reduceIte, Int.reduceToNat, w64_id, cast_succ, hneg1])
  refine ACalls.fn (eqInt64SS_ok _ gu (ilSS zs) zs zs hu.rd (rd_ilSS _ _)) ?_
  rw [show decide (zs = zs) = true by simp]
  repeat (first | (with_reducible first | refine SW.seq ?_ | refine SW.block ?_ | refine SW.rowC ?_ | refine SW.skip ?_ | refine SW.exit ?_ | intro _ | refine And.intro (by omega) ?_) | simp (config := { maxSteps := 1000000 }) (disch := (first | omega | (simp only [go_sem]; try omega))) only [go_sem, Nat.reduceAdd, Nat.reduceEqDiff, Nat.reduceLeDiff, Nat.reduceMul, Nat.reduceLT, reduceIte, Int.reduceToNat, w64_id, cast_succ])
  refine SW.condF rfl ?_
  repeat (first | (with_reducible first | refine SW.seq ?_ | refine SW.block ?_ | refine SW.rowC ?_ | refine SW.skip ?_ | refine SW.exit ?_ | intro _ | refine And.intro (by omega) ?_) | simp (config := { maxSteps := 1000000 }) (disch := (first | omega | (simp only [go_sem]; try omega))) only [go_sem, Nat.reduceAdd, Nat.reduceEqDiff, Nat.reduceLeDiff, Nat.reduceMul, Nat.reduceLT, reduceIte, Int.reduceToNat, w64_id, cast_succ])
  refine (markInt64SS_ok _ _ _ _ 1 hu (by omega) (by omega)).mono ?_
  rintro r H8 ⟨rfl, hu8, q3, q4⟩
  replace pw := (q4 H.length (by unfold Btw; omega)).trans pw
  repeat (first | (with_reducible first | refine SW.seq ?_ | refine SW.block ?_ | refine SW.rowC ?_ | refine SW.skip ?_ | refine SW.exit ?_ | intro _ | refine And.intro (by omega) ?_) | simp (config := { maxSteps := 1000000 }) (disch := (first | omega | (simp only [go_sem]; try omega))) only [go_sem, Nat.reduceAdd, Nat.reduceEqDiff, Nat.reduceLeDiff, Nat.reduceMul, Nat.reduceLT, reduceIte, Int.reduceToNat, w64_id, cast_succ])
  refine ACalls.fn (heldInt64SS_ok _ _ zs 1 hu8.rd (by omega) (by omega)) ?_
  repeat (first | (with_reducible first | refine SW.seq ?_ | refine SW.block ?_ | refine SW.rowC ?_ | refine SW.skip ?_ | refine SW.exit ?_ | intro _ | refine And.intro (by omega) ?_) | simp (config := { maxSteps := 1000000 }) (disch := (first | omega | (simp only [go_sem]; try omega))) only [go_sem, Nat.reduceAdd, Nat.reduceEqDiff, Nat.reduceLeDiff, Nat.reduceMul, Nat.reduceLT, reduceIte, Int.reduceToNat, w64_id, cast_succ, hneg2])
  refine SW.condF rfl ?_
  repeat (first | (with_reducible first | refine SW.seq ?_ | refine SW.block ?_ | refine SW.rowC ?_ | refine SW.skip ?_ | refine SW.exit ?_ | intro _ | refine And.intro (by omega) ?_) | simp (config := { maxSteps := 1000000 }) (disch := (first | omega | (simp only [go_sem]; try omega))) only [go_sem, Nat.reduceAdd, Nat.reduceEqDiff, Nat.reduceLeDiff, Nat.reduceMul, Nat.reduceLT, reduceIte, Int.reduceToNat, w64_id, cast_succ])
  refine SW.condF rfl ?_
  repeat (first | (with_reducible first | refine SW.seq ?_ | refine SW.block ?_ | refine SW.rowC ?_ | refine SW.skip ?_ | refine SW.exit ?_ | refine PFn.use (t1) ?_ | refine PFn.useq (t1) ?_ | intro _ | refine And.intro (by omega) ?_) | simp (config := { maxSteps := 1000000 }) (disch := (first | omega | (simp only [go_sem]; try omega))) only [go_sem, Nat.reduceAdd, Nat.reduceEqDiff, Nat.reduceLeDiff, Nat.reduceMul, Nat.reduceLT, reduceIte, Int.reduceToNat, w64_id, cast_succ, pc_alive pw, show acells H8 2 (.pc H.length 0 0) = some [I n, ilSS els] from pc_lds pw (by simp)])
  refine (hi _).mono ?_
  rintro r H9 ⟨ext3, hw, rfl, rfl, ho9⟩
  repeat (first | (with_reducible first | refine SW.seq ?_ | refine SW.block ?_ | refine SW.rowC ?_ | refine SW.skip ?_ | refine SW.exit ?_ | intro _ | refine And.intro (by omega) ?_) | simp (config := { maxSteps := 1000000 }) (disch := (first | omega | (simp only [go_sem]; try omega))) only [go_sem, Nat.reduceAdd, Nat.reduceEqDiff, Nat.reduceLeDiff, Nat.reduceMul, Nat.reduceLT, reduceIte, Int.reduceToNat, w64_id, cast_succ])
  refine ACalls.fn (eqInt64SS_ok _ hw (ilSS zs) zs zs ho9.rd (rd_ilSS _ _)) ?_
  rw [show decide (zs = zs) = true by simp]
  repeat (first | (with_reducible first | refine SW.seq ?_ | refine SW.block ?_ | refine SW.rowC ?_ | refine SW.skip ?_ | refine SW.exit ?_ | intro _ | refine And.intro (by omega) ?_) | simp (config := { maxSteps := 1000000 }) (disch := (first | omega | (simp only [go_sem]; try omega))) only [go_sem, Nat.reduceAdd, Nat.reduceEqDiff, Nat.reduceLeDiff, Nat.reduceMul, Nat.reduceLT, reduceIte, Int.reduceToNat, w64_id, cast_succ])
  refine SW.condF rfl ?_
  repeat (first | (with_reducible first | refine SW.seq ?_ | refine SW.block ?_ | refine SW.rowC ?_ | refine SW.skip ?_ | refine SW.exit ?_ | intro _ | refine And.intro (by omega) ?_) | simp (config := { maxSteps := 1000000 }) (disch := (first | omega | (simp only [go_sem]; try omega))) only [go_sem, Nat.reduceAdd, Nat.reduceEqDiff, Nat.reduceLeDiff, Nat.reduceMul, Nat.reduceLT, reduceIte, Int.reduceToNat, w64_id, cast_succ])
  refine ACalls.fn (heldInt64SS_ok _ _ zs 1 (hu8.append _).rd (by omega) (by omega)) ?_
  repeat (first | (with_reducible first | refine SW.seq ?_ | refine SW.block ?_ | refine SW.rowC ?_ | refine SW.skip ?_ | refine SW.exit ?_ | intro _ | refine And.intro (by omega) ?_) | simp (config := { maxSteps := 1000000 }) (disch := (first | omega | (simp only [go_sem]; try omega))) only [go_sem, Nat.reduceAdd, Nat.reduceEqDiff, Nat.reduceLeDiff, Nat.reduceMul, Nat.reduceLT, reduceIte, Int.reduceToNat, w64_id, cast_succ, hneg2])
  refine SW.condF rfl ?_
  repeat (first | (with_reducible first | refine SW.seq ?_ | refine SW.block ?_ | refine SW.rowC ?_ | refine SW.skip ?_ | refine SW.exit ?_ | intro _ | refine And.intro (by omega) ?_) | simp (config := { maxSteps := 1000000 }) (disch := (first | omega | (simp only [go_sem]; try omega))) only [go_sem, Nat.reduceAdd, Nat.reduceEqDiff, Nat.reduceLeDiff, Nat.reduceMul, Nat.reduceLT, reduceIte, Int.reduceToNat, w64_id, cast_succ])
  refine SW.condF rfl ?_
  repeat (first | (with_reducible first | refine SW.seq ?_ | refine SW.block ?_ | refine SW.rowC ?_ | refine SW.skip ?_ | refine SW.exit ?_ | intro _ | refine And.intro (by omega) ?_) | simp (config := { maxSteps := 1000000 }) (disch := (first | omega | (simp only [go_sem]; try omega))) only [go_sem, Nat.reduceAdd, Nat.reduceEqDiff, Nat.reduceLeDiff, Nat.reduceMul, Nat.reduceLT, reduceIte, Int.reduceToNat, w64_id, cast_succ])
  refine SW.ret ?_; (try simp only [go_sem]); (first | refine FunPost.one ?_ | refine FunPost.two ?_ | refine FunPost.three ?_); (try simp (config := { maxSteps := 1000000 }) (disch := (first | omega | (simp only [go_sem]; try omega))) only [go_sem, Nat.reduceAdd, Nat.reduceEqDiff, Nat.reduceLeDiff, Nat.reduceMul, Nat.reduceLT, reduceIte, Int.reduceToNat, w64_id, cast_succ])
  exact GR.of rfl
end Go.Proofs.YtkifdjjnbplghaaGreat
