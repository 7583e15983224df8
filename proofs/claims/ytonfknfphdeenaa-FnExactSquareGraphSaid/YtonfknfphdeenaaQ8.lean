/- Graphs of squares: the law. -/
import Derived.Test.YtonfknfphdeenaaProg
import Derived.KernelRfl
import Derived.Test.YtonfknfphdeenaaQ6
import Derived.Test.YtonfknfphdeenaaQ7
import Derived.Test.YtonfknfphdeenaaM2
set_option linter.unusedSimpArgs false
set_option linter.unusedVariables false
set_option maxHeartbeats 4000000
set_option maxRecDepth 100000
namespace Go.Proofs.Ytonfknfphdeenaa
open Go.Av

/-! The abstract code of functions, printed by program and tied to the program by the kernel. -/
/-- loop.example/g00920/laws.FnExactSquareGraph -/
abbrev f_laws_FnExactSquareGraph : Nat := 7
def c_laws_FnExactSquareGraph : SC :=
 .seq (.reg [
     ⟨(some 4), .mv (.const (.bool false)), none⟩] [0, 1])
 (.seq (.reg [
     ⟨(some 5), .mv (.const (.int .i64 1048576)), none⟩] [0, 1, 5])
 (.seq (.reg [
     ⟨(some 16), .mv (.tmp 0), none⟩,
     ⟨(some 17), .mv (.tmp 5), none⟩,
     ⟨(some 18), .call 33 [(.tmp 16), (.tmp 17)], none⟩,
     ⟨(some 5), .mv (.tmp 18), none⟩] [0, 1, 5])
 (.seq (.seq (.reg [
     ⟨(some 19), .mv (.tmp 5), none⟩,
     ⟨(some 20), .bin .lss (.tmp 19) (.const (.int .i64 0)), none⟩] [0, 1, 20])
 (.cond (.tmp 20)
  (.seq (.reg [
      ⟨(some 4), .mv (.const (.bool true)), none⟩] [4])
  (.ret))
  (.skip)))
 (.seq (.reg [
     ⟨(some 22), .mv (.tmp 0), none⟩,
     ⟨(some 23), .call 35 [(.tmp 22)], none⟩,
     ⟨(some 24), .mv (.tmp 1), none⟩,
     ⟨(some 25), .call 34 [(.tmp 23), (.tmp 24)], none⟩,
     ⟨(some 21), .mv (.tmp 25), none⟩,
     ⟨(some 26), .ext (.tmp 21) 0, none⟩,
     ⟨(some 27), .ext (.tmp 21) 1, none⟩,
     ⟨(some 6), .alloc 38 [(.slice none 0 0), (.slice none 0 0)], none⟩,
     ⟨none, .store 2 (.tmp 6) (.tmp 26), none⟩,
     ⟨(some 7), .mv (.tmp 27), none⟩] [0, 1, 6, 7])
 (.seq (.reg [
     ⟨(some 28), .mv (.tmp 0), none⟩,
     ⟨(some 29), .call 35 [(.tmp 28)], none⟩,
     ⟨(some 8), .mv (.tmp 29), none⟩] [0, 1, 6, 7, 8])
 (.seq (.reg [
     ⟨(some 31), .mv (.tmp 8), none⟩,
     ⟨(some 32), .mv (.tmp 1), none⟩,
     ⟨(some 33), .call 36 [(.tmp 31), (.tmp 32)], none⟩,
     ⟨(some 30), .mv (.tmp 33), none⟩,
     ⟨(some 34), .ext (.tmp 30) 0, none⟩,
     ⟨(some 35), .ext (.tmp 30) 1, none⟩,
     ⟨(some 9), .alloc 38 [(.slice none 0 0), (.slice none 0 0)], none⟩,
     ⟨none, .store 2 (.tmp 9) (.tmp 34), none⟩,
     ⟨(some 10), .mv (.tmp 35), none⟩] [0, 1, 6, 7, 8, 9, 10])
 (.seq (.seq (.reg [
     ⟨(some 36), .load 2 true (.tmp 9), none⟩,
     ⟨(some 37), .load 2 true (.tmp 6), none⟩,
     ⟨(some 38), .call 22 [(.tmp 36), (.tmp 37)], none⟩,
     ⟨(some 39), .un .not (.tmp 38), none⟩,
     ⟨(some 40), .mv (.tmp 39), none⟩,
     ⟨(some 41), .mv (.tmp 10), (some (40, false))⟩,
     ⟨(some 42), .mv (.tmp 7), (some (40, false))⟩,
     ⟨(some 43), .bin .neq (.tmp 41) (.tmp 42), (some (40, false))⟩,
     ⟨(some 44), .pick (.tmp 40) (.const (.bool true)) (.tmp 43), none⟩] [0, 1, 6, 7, 8, 9, 10, 44])
 (.cond (.tmp 44)
  (.seq (.reg [
      ⟨(some 4), .mv (.const (.bool false)), none⟩] [4])
  (.ret))
  (.skip)))
 (.seq (.seq (.reg [
     ⟨(some 45), .mv (.tmp 8), none⟩,
     ⟨(some 46), .mv (.tmp 0), none⟩,
     ⟨(some 47), .call 35 [(.tmp 46)], none⟩,
     ⟨(some 48), .call 37 [(.tmp 45), (.tmp 47)], none⟩,
     ⟨(some 49), .un .not (.tmp 48), none⟩] [0, 1, 6, 7, 8, 9, 10, 49])
 (.cond (.tmp 49)
  (.seq (.reg [
      ⟨(some 4), .mv (.const (.bool false)), none⟩] [4])
  (.ret))
  (.skip)))
 (.seq (.reg [
     ⟨(some 11), .mv (.const (.int .i64 1)), none⟩] [0, 1, 6, 7, 8, 9, 10, 11])
 (.seq (.reg [
     ⟨(some 50), .mv (.tmp 8), none⟩,
     ⟨(some 51), .mv (.tmp 11), none⟩,
     ⟨(some 52), .call 38 [(.tmp 50), (.tmp 51)], none⟩,
     ⟨(some 11), .mv (.tmp 52), none⟩] [0, 1, 6, 7, 9, 10, 11])
 (.seq (.seq (.reg [
     ⟨(some 53), .mv (.tmp 11), none⟩,
     ⟨(some 54), .bin .lss (.tmp 53) (.const (.int .i64 0)), none⟩,
     ⟨(some 55), .mv (.tmp 54), none⟩,
     ⟨(some 56), .load 2 true (.tmp 9), (some (55, false))⟩,
     ⟨(some 57), .load 2 true (.tmp 6), (some (55, false))⟩,
     ⟨(some 58), .call 22 [(.tmp 56), (.tmp 57)], (some (55, false))⟩,
     ⟨(some 59), .un .not (.tmp 58), (some (55, false))⟩,
     ⟨(some 60), .pick (.tmp 55) (.const (.bool true)) (.tmp 59), none⟩,
     ⟨(some 61), .mv (.tmp 60), none⟩,
     ⟨(some 62), .mv (.tmp 10), (some (61, false))⟩,
     ⟨(some 63), .mv (.tmp 7), (some (61, false))⟩,
     ⟨(some 64), .bin .neq (.tmp 62) (.tmp 63), (some (61, false))⟩,
     ⟨(some 65), .pick (.tmp 61) (.const (.bool true)) (.tmp 64), none⟩] [0, 1, 6, 7, 9, 65])
 (.cond (.tmp 65)
  (.seq (.reg [
      ⟨(some 4), .mv (.const (.bool false)), none⟩] [4])
  (.ret))
  (.skip)))
 (.seq (.reg [
     ⟨(some 12), .mv (.const (.int .i64 1)), none⟩] [0, 1, 6, 7, 9, 12])
 (.seq (.reg [
     ⟨(some 66), .load 2 true (.tmp 9), none⟩,
     ⟨(some 67), .mv (.tmp 12), none⟩,
     ⟨(some 68), .call 25 [(.tmp 66), (.tmp 67)], none⟩,
     ⟨(some 12), .mv (.tmp 68), none⟩] [0, 1, 6, 7, 9, 12])
 (.seq (.reg [
     ⟨(some 13), .mv (.const (.int .i64 1)), none⟩] [0, 1, 6, 7, 9, 12, 13])
 (.seq (.reg [
     ⟨(some 69), .load 2 true (.tmp 9), none⟩,
     ⟨(some 70), .mv (.tmp 13), none⟩,
     ⟨(some 71), .call 26 [(.tmp 69), (.tmp 70)], none⟩,
     ⟨(some 13), .mv (.tmp 71), none⟩] [0, 1, 6, 7, 9, 12, 13])
 (.seq (.seq (.reg [
     ⟨(some 72), .mv (.tmp 13), none⟩,
     ⟨(some 73), .bin .lss (.tmp 72) (.const (.int .i64 0)), none⟩] [0, 1, 6, 7, 9, 12, 13, 73])
 (.cond (.tmp 73)
  (.seq (.reg [
      ⟨(some 4), .mv (.const (.bool false)), none⟩] [4])
  (.ret))
  (.skip)))
 (.seq (.seq (.reg [
     ⟨(some 74), .mv (.tmp 13), none⟩,
     ⟨(some 75), .mv (.tmp 12), none⟩,
     ⟨(some 76), .bin .neq (.tmp 74) (.tmp 75), none⟩] [0, 1, 6, 7, 9, 12, 76])
 (.cond (.tmp 76)
  (.seq (.reg [
      ⟨(some 4), .mv (.const (.bool false)), none⟩] [4])
  (.ret))
  (.skip)))
 (.seq (.reg [
     ⟨(some 78), .mv (.tmp 0), none⟩,
     ⟨(some 79), .call 35 [(.tmp 78)], none⟩,
     ⟨(some 80), .mv (.tmp 1), none⟩,
     ⟨(some 81), .call 36 [(.tmp 79), (.tmp 80)], none⟩,
     ⟨(some 77), .mv (.tmp 81), none⟩,
     ⟨(some 82), .ext (.tmp 77) 0, none⟩,
     ⟨(some 83), .ext (.tmp 77) 1, none⟩,
     ⟨(some 14), .alloc 38 [(.slice none 0 0), (.slice none 0 0)], none⟩,
     ⟨none, .store 2 (.tmp 14) (.tmp 82), none⟩,
     ⟨(some 15), .mv (.tmp 83), none⟩] [6, 7, 9, 12, 14, 15])
 (.seq (.seq (.reg [
     ⟨(some 84), .load 2 true (.tmp 14), none⟩,
     ⟨(some 85), .load 2 true (.tmp 6), none⟩,
     ⟨(some 86), .call 22 [(.tmp 84), (.tmp 85)], none⟩,
     ⟨(some 87), .un .not (.tmp 86), none⟩,
     ⟨(some 88), .mv (.tmp 87), none⟩,
     ⟨(some 89), .mv (.tmp 15), (some (88, false))⟩,
     ⟨(some 90), .mv (.tmp 7), (some (88, false))⟩,
     ⟨(some 91), .bin .neq (.tmp 89) (.tmp 90), (some (88, false))⟩,
     ⟨(some 92), .pick (.tmp 88) (.const (.bool true)) (.tmp 91), none⟩] [9, 12, 92])
 (.cond (.tmp 92)
  (.seq (.reg [
      ⟨(some 4), .mv (.const (.bool false)), none⟩] [4])
  (.ret))
  (.skip)))
 (.seq (.reg [
     ⟨(some 13), .mv (.const (.int .i64 1)), none⟩] [9, 12, 13])
 (.seq (.reg [
     ⟨(some 93), .load 2 true (.tmp 9), none⟩,
     ⟨(some 94), .mv (.tmp 13), none⟩,
     ⟨(some 95), .call 26 [(.tmp 93), (.tmp 94)], none⟩,
     ⟨(some 13), .mv (.tmp 95), none⟩] [12, 13])
 (.seq (.seq (.reg [
     ⟨(some 96), .mv (.tmp 13), none⟩,
     ⟨(some 97), .bin .lss (.tmp 96) (.const (.int .i64 0)), none⟩] [12, 13, 97])
 (.cond (.tmp 97)
  (.seq (.reg [
      ⟨(some 4), .mv (.const (.bool false)), none⟩] [4])
  (.ret))
  (.skip)))
 (.seq (.seq (.reg [
     ⟨(some 98), .mv (.tmp 13), none⟩,
     ⟨(some 99), .mv (.tmp 12), none⟩,
     ⟨(some 100), .bin .neq (.tmp 98) (.tmp 99), none⟩] [100])
 (.cond (.tmp 100)
  (.seq (.reg [
      ⟨(some 4), .mv (.const (.bool false)), none⟩] [4])
  (.ret))
  (.skip)))
 (.seq (.reg [
     ⟨(some 4), .mv (.const (.bool true)), none⟩] [4])
 (.ret)))))))))))))))))))))))))
theorem s_laws_FnExactSquareGraph : stripF Try.prog 7 [[0, 1], [0, 1, 5], [0, 1, 5], [0, 1, 20], [4], [0, 1, 6, 7], [0, 1, 6, 7, 8], [0, 1, 6, 7, 8, 9, 10], [0, 1, 6, 7, 8, 9, 10, 44], [4], [0, 1, 6, 7, 8, 9, 10, 49], [4], [0, 1, 6, 7, 8, 9, 10, 11], [0, 1, 6, 7, 9, 10, 11], [0, 1, 6, 7, 9, 65], [4], [0, 1, 6, 7, 9, 12], [0, 1, 6, 7, 9, 12], [0, 1, 6, 7, 9, 12, 13], [0, 1, 6, 7, 9, 12, 13], [0, 1, 6, 7, 9, 12, 13, 73], [4], [0, 1, 6, 7, 9, 12, 76], [4], [6, 7, 9, 12, 14, 15], [9, 12, 92], [4], [9, 12, 13], [12, 13], [12, 13, 97], [4], [100], [4], [4]] = some (c_laws_FnExactSquareGraph, [.tmp 4], 101) := by kernel_rfl


theorem total_ge {x : List Int} : ∀ {xss : List (List Int)}, x ∈ xss → x.length ≤ total xss
  | y :: r, h => by
    rw [total_cons]
    rcases List.mem_cons.1 h with rfl | h
    · omega
    · have := total_ge h; omega
theorem sqV_len (xss : List (List Int)) (cl : Bool) : (sqV xss cl).1.1.length ≤ 64 ∧ (sqV xss cl).1.2.length ≤ 512 := by
  unfold sqV
  split
  · split
    · simp
    · rename_i h
      have hnn : xss.length * xss.length ≤ 36 := Nat.mul_le_mul (show xss.length ≤ 6 by omega) (show xss.length ≤ 6 by omega)
      have e1 : (sqCol xss.length cl).length = 3 * xss.length + xss.length * xss.length := tab_length _ _
      have e2 := sortU_len (cf := cmpE) (sqEd xss.length xss xss.length)
      rw [sqEd_len] at e2
      have e3 : xss.length * (3 * xss.length) = 3 * (xss.length * xss.length) := by rw [← Nat.mul_assoc, Nat.mul_comm xss.length 3, Nat.mul_assoc]
      simp only
      omega
  · simp

theorem lawSquareGraph_ok (H : List Blk) (xss : List (List Int)) (cl : Bool) : ACalls Try.prog f_laws_FnExactSquareGraph [ilSS xss, Bv cl] H (fun r _ => r = Bv true) := by
  have hlen := sqV_len xss cl
  have hs := specSquareGraph_fn xss cl
  have hi0 := fun hl H => implSquareGraph_ok H xss cl hl
  have hi02 := fun hl H args hf => gr_lend (H := H) (args := args) (implSquareGraph_ok [] xss cl hl) hf
  generalize sqV xss cl = V at *
  obtain ⟨⟨cols, es⟩, code⟩ := V
  simp only at hs hlen
  obtain ⟨hlc, hle⟩ := hlen
  refine ACalls.introB s_laws_FnExactSquareGraph (by simp) ?_; intro hB hA; unfold c_laws_FnExactSquareGraph; simp (config := { maxSteps := 1000000 }) (disch := (first | omega | (simp only [go_sem]; try omega))) only [go_sem, Nat.reduceAdd, Nat.reduceEqDiff, Nat.reduceLeDiff, Nat.reduceMul, Nat.reduceLT, reduceIte, Int.reduceToNat, w64_id, cast_succ]
  repeat (first | (with_reducible first | refine SW.seq ?_ | refine SW.block ?_ | refine SW.rowC ?_ | refine SW.skip ?_ | refine SW.exit ?_ | intro _ | refine And.intro (by omega) ?_) | simp (config := { maxSteps := 1000000 }) (disch := (first | omega | (simp only [go_sem]; try omega))) only [go_sem, Nat.reduceAdd, Nat.reduceEqDiff, Nat.reduceLeDiff, Nat.reduceMul, Nat.reduceLT, reduceIte, Int.reduceToNat, w64_id, cast_succ])
  refine (szInt64SS_ok _ _ xss _ (rd_ilSS _ _) (by omega) (by omega)).mono ?_
  rintro r H' ⟨⟨z, rfl, g1, g2, g3⟩, rfl⟩
  repeat (first | (with_reducible first | refine SW.seq ?_ | refine SW.block ?_ | refine SW.rowC ?_ | refine SW.skip ?_ | refine SW.exit ?_ | intro _ | refine And.intro (by omega) ?_) | simp (config := { maxSteps := 1000000 }) (disch := (first | omega | (simp only [go_sem]; try omega))) only [go_sem, Nat.reduceAdd, Nat.reduceEqDiff, Nat.reduceLeDiff, Nat.reduceMul, Nat.reduceLT, reduceIte, Int.reduceToNat, w64_id, cast_succ])
  (first | refine SW.condD rfl (fun h2 => ?_) (fun h2 => ?_) | refine SW.condN rfl (fun h2 => ?_) (fun h2 => ?_) | refine SW.condNB rfl (fun h2 => ?_) (fun h2 => ?_) | refine SW.condB rfl (fun h2 => ?_) (fun h2 => ?_))
  · repeat (first | (with_reducible first | refine SW.seq ?_ | refine SW.block ?_ | refine SW.rowC ?_ | refine SW.skip ?_ | refine SW.exit ?_ | intro _ | refine And.intro (by omega) ?_) | simp (config := { maxSteps := 1000000 }) (disch := (first | omega | (simp only [go_sem]; try omega))) only [go_sem, Nat.reduceAdd, Nat.reduceEqDiff, Nat.reduceLeDiff, Nat.reduceMul, Nat.reduceLT, reduceIte, Int.reduceToNat, w64_id, cast_succ])
    refine SW.ret ?_; (try simp only [go_sem]); (first | refine FunPost.one ?_ | refine FunPost.two ?_ | refine FunPost.three ?_); (try simp (config := { maxSteps := 1000000 }) (disch := (first | omega | (simp only [go_sem]; try omega))) only [go_sem, Nat.reduceAdd, Nat.reduceEqDiff, Nat.reduceLeDiff, Nat.reduceMul, Nat.reduceLT, reduceIte, Int.reduceToNat, w64_id, cast_succ])
    exact GR.of rfl
  have hsx := small_rows (by omega) (g3 (by omega)) (by omega)
  have t1 := toInt64SS_fn xss hsx.1 hsx.2
  have htot : total xss ≤ 1073741824 := by have := g3 (by omega); omega
  have hlx : ∀ x ∈ xss, x.length ≤ 2000000 := fun x hx => by
    have h1 : x.length ≤ total xss := total_ge hx
    have := g3 (by omega); omega
  have hi := hi0 hlx
  have hi2 := hi02 hlx
  repeat (first | (with_reducible first | refine SW.seq ?_ | refine SW.block ?_ | refine SW.rowC ?_ | refine SW.skip ?_ | refine SW.exit ?_ | intro _ | refine And.intro (by omega) ?_) | simp (config := { maxSteps := 1000000 }) (disch := (first | omega | (simp only [go_sem]; try omega))) only [go_sem, Nat.reduceAdd, Nat.reduceEqDiff, Nat.reduceLeDiff, Nat.reduceMul, Nat.reduceLT, reduceIte, Int.reduceToNat, w64_id, cast_succ])
  refine ACalls.fn (t1 _) ?_
  have hcE : (ilE es).cell1 = true := rfl
  have hpE : partsOf (ilE es) = [ilE es] := rfl
  repeat (first | (with_reducible first | refine SW.seq ?_ | refine SW.block ?_ | refine SW.rowC ?_ | refine SW.skip ?_ | refine SW.exit ?_ | refine PFn.use (hs) ?_ | refine PFn.useq (hs) ?_ | intro _ | refine And.intro (by omega) ?_) | simp (config := { maxSteps := 1000000 }) (disch := (first | omega | (simp only [go_sem]; try omega))) only [go_sem, Nat.reduceAdd, Nat.reduceEqDiff, Nat.reduceLeDiff, Nat.reduceMul, Nat.reduceLT, reduceIte, Int.reduceToNat, w64_id, cast_succ, hcE, hpE])
  refine (toInt64SS_ok _ _ xss (rd_ilSS _ _) hsx.1 hsx.2).mono ?_
  rintro r H1 ⟨rfl, hH1⟩
  have e1 : (H' ++ [(⟨0, tyGr, 1, [ilS cols, ilE es]⟩ : Blk)])[H'.length]? = some ⟨0, tyGr, 1, [ilS cols, ilE es]⟩ := by simp
  have own := fss_own (H := H' ++ [(⟨0, tyGr, 1, [ilS cols, ilE es]⟩ : Blk)]) xss
  have pw := get_appB2 e1 (⟨0, tySS, 1, nmsB ((H' ++ [(⟨0, tyGr, 1, [ilS cols, ilE es]⟩ : Blk)]).length + 1) xss⟩ :: rowsB xss)
  rw [← hH1] at own pw
  have hb : (H' ++ [(⟨0, tyGr, 1, [ilS cols, ilE es]⟩ : Blk)]).length = H'.length + 1 := by simp
  rw [hb] at own
  rw [hb]
  have hlt : H'.length < H1.length := (List.getElem?_eq_some_iff.1 pw).1
  clear hH1 hb e1
  generalize (AV.nm (H'.length + 1) 0 0 xss.length) = v at *
  repeat (first | (with_reducible first | refine SW.seq ?_ | refine SW.block ?_ | refine SW.rowC ?_ | refine SW.skip ?_ | refine SW.exit ?_ | intro _ | refine And.intro (by omega) ?_) | simp (config := { maxSteps := 1000000 }) (disch := (first | omega | (simp only [go_sem]; try omega))) only [go_sem, Nat.reduceAdd, Nat.reduceEqDiff, Nat.reduceLeDiff, Nat.reduceMul, Nat.reduceLT, reduceIte, Int.reduceToNat, w64_id, cast_succ, own.oneU.1, own.oneU.2])
  generalize hg : H1.length = g at *
  refine (hi2 _ _ (.cons (own.froz (fun r _ => Nat.zero_le _)) (.cons (.old _ (.lit _)) .nil))).mono ?_
  rintro r H3 ⟨ext2, gv, gu, q, hH3, rfl, q1, q2, hc, he⟩
  replace pw := get_appB2 pw ext2
  replace own := own.append ext2
  replace hc : OwnS H3 (Btw H1.length q) H3.length gv cols := hc
  replace he : OwnE H3 (Btw q H3.length) gu es := he
  have hl3 : H1.length ≤ H3.length := by rw [hH3]; simp
  rw [← hH3] at pw own
  clear hH3
  repeat (first | (with_reducible first | refine SW.seq ?_ | refine SW.block ?_ | refine SW.rowC ?_ | refine SW.skip ?_ | refine SW.exit ?_ | intro _ | refine And.intro (by omega) ?_) | simp (config := { maxSteps := 1000000 }) (disch := (first | omega | (simp only [go_sem]; try omega))) only [go_sem, Nat.reduceAdd, Nat.reduceEqDiff, Nat.reduceLeDiff, Nat.reduceMul, Nat.reduceLT, reduceIte, Int.reduceToNat, w64_id, cast_succ, hc.oneG.1, hc.oneG.2, he.one.1, he.one.2])
  have pg := (show (H3 ++ [(⟨0, tyGr, 1, [gv, gu]⟩ : Blk)])[H3.length]? = some ⟨0, tyGr, 1, [gv, gu]⟩ by simp)
  replace pw := get_appB2 pw [(⟨0, tyGr, 1, [gv, gu]⟩ : Blk)]
  replace own := own.append [(⟨0, tyGr, 1, [gv, gu]⟩ : Blk)]
  replace hc := hc.appG [(⟨0, tyGr, 1, [gv, gu]⟩ : Blk)]
  replace he := he.append [(⟨0, tyGr, 1, [gv, gu]⟩ : Blk)]
  generalize hgg : H3.length = gg at *
  generalize H3 ++ [(⟨0, tyGr, 1, [gv, gu]⟩ : Blk)] = H4 at *
  have hgl : gg < H4.length := (List.getElem?_eq_some_iff.1 pg).1
  have pgl : acells H4 2 (.pc gg 0 0) = some [gv, gu] := pc_lds pg (by simp)
  have pwl : acells H4 2 (.pc H'.length 0 0) = some [ilS cols, ilE es] := pc_lds pw (by simp)
  repeat (first | (with_reducible first | refine SW.seq ?_ | refine SW.block ?_ | refine SW.rowC ?_ | refine SW.skip ?_ | refine SW.exit ?_ | intro _ | refine And.intro (by omega) ?_) | simp (config := { maxSteps := 1000000 }) (disch := (first | omega | (simp only [go_sem]; try omega))) only [go_sem, Nat.reduceAdd, Nat.reduceEqDiff, Nat.reduceLeDiff, Nat.reduceMul, Nat.reduceLT, reduceIte, Int.reduceToNat, w64_id, cast_succ, pc_alive pw, pc_alive pg, pwl, pgl])
  refine ACalls.fn (eqGraph_ok _ gv (ilS cols) gu (ilE es) cols cols es es hc.oneG.1 rfl he.one.1 rfl hc.rd (rd_ilS _ _) he.rd (rd_ilE _ _) (by omega)) ?_
  rw [show (decide (cols = cols) && decide (es = es)) = true by simp]
  repeat (first | (with_reducible first | refine SW.seq ?_ | refine SW.block ?_ | refine SW.rowC ?_ | refine SW.skip ?_ | refine SW.exit ?_ | intro _ | refine And.intro (by omega) ?_) | simp (config := { maxSteps := 1000000 }) (disch := (first | omega | (simp only [go_sem]; try omega))) only [go_sem, Nat.reduceAdd, Nat.reduceEqDiff, Nat.reduceLeDiff, Nat.reduceMul, Nat.reduceLT, reduceIte, Int.reduceToNat, w64_id, cast_succ])
  refine SW.condF rfl ?_
  repeat (first | (with_reducible first | refine SW.seq ?_ | refine SW.block ?_ | refine SW.rowC ?_ | refine SW.skip ?_ | refine SW.exit ?_ | intro _ | refine And.intro (by omega) ?_) | simp (config := { maxSteps := 1000000 }) (disch := (first | omega | (simp only [go_sem]; try omega))) only [go_sem, Nat.reduceAdd, Nat.reduceEqDiff, Nat.reduceLeDiff, Nat.reduceMul, Nat.reduceLT, reduceIte, Int.reduceToNat, w64_id, cast_succ])
  refine ACalls.fn (t1 _) ?_
  repeat (first | (with_reducible first | refine SW.seq ?_ | refine SW.block ?_ | refine SW.rowC ?_ | refine SW.skip ?_ | refine SW.exit ?_ | intro _ | refine And.intro (by omega) ?_) | simp (config := { maxSteps := 1000000 }) (disch := (first | omega | (simp only [go_sem]; try omega))) only [go_sem, Nat.reduceAdd, Nat.reduceEqDiff, Nat.reduceLeDiff, Nat.reduceMul, Nat.reduceLT, reduceIte, Int.reduceToNat, w64_id, cast_succ])
  refine ACalls.fn (eqInt64SS_ok _ _ _ xss xss own.rd (rd_ilSS _ _)) ?_
  rw [show decide (xss = xss) = true by simp]
  repeat (first | (with_reducible first | refine SW.seq ?_ | refine SW.block ?_ | refine SW.rowC ?_ | refine SW.skip ?_ | refine SW.exit ?_ | intro _ | refine And.intro (by omega) ?_) | simp (config := { maxSteps := 1000000 }) (disch := (first | omega | (simp only [go_sem]; try omega))) only [go_sem, Nat.reduceAdd, Nat.reduceEqDiff, Nat.reduceLeDiff, Nat.reduceMul, Nat.reduceLT, reduceIte, Int.reduceToNat, w64_id, cast_succ])
  refine SW.condF rfl ?_
  repeat (first | (with_reducible first | refine SW.seq ?_ | refine SW.block ?_ | refine SW.rowC ?_ | refine SW.skip ?_ | refine SW.exit ?_ | intro _ | refine And.intro (by omega) ?_) | simp (config := { maxSteps := 1000000 }) (disch := (first | omega | (simp only [go_sem]; try omega))) only [go_sem, Nat.reduceAdd, Nat.reduceEqDiff, Nat.reduceLeDiff, Nat.reduceMul, Nat.reduceLT, reduceIte, Int.reduceToNat, w64_id, cast_succ])
  refine (markInt64SS_ok _ _ _ xss 1 own (by omega) (by omega)).mono ?_
  rintro r H5 ⟨rfl, -, m0, m2⟩
  have hlt5 : ∀ j b, H4[j]? = some b → j < H4.length := fun j b h => (List.getElem?_eq_some_iff.1 h).1
  replace pw := (m2 H'.length (by unfold Btw; omega)).trans pw
  replace pg := (m2 gg (by unfold Btw; omega)).trans pg
  replace hc := hc.same (H' := H5) (fun j b hj _ hb => by rw [m2 j (by unfold Btw at hj ⊢; omega)]; exact hb)
  replace he := he.same (H' := H5) (fun j b hj hb => by rw [m2 j (by unfold Btw at hj ⊢; omega)]; exact hb)
  clear own pwl pgl
  have pgl : acells H5 2 (.pc gg 0 0) = some [gv, gu] := pc_lds pg (by simp)
  have pwl : acells H5 2 (.pc H'.length 0 0) = some [ilS cols, ilE es] := pc_lds pw (by simp)
  have hneg1 : decide ((1 : Int) + total xss < 0) = false := decide_eq_false (by omega)
  repeat (first | (with_reducible first | refine SW.seq ?_ | refine SW.block ?_ | refine SW.rowC ?_ | refine SW.skip ?_ | refine SW.exit ?_ | intro _ | refine And.intro (by omega) ?_) | simp (config := { maxSteps := 1000000 }) (disch := (first | omega | (simp only [go_sem]; try omega))) only [go_sem, Nat.reduceAdd, Nat.reduceEqDiff, Nat.reduceLeDiff, Nat.reduceMul, Nat.reduceLT, reduceIte, Int.reduceToNat, w64_id, cast_succ, hneg1, pc_alive pw, pc_alive pg, pwl, pgl])
  refine ACalls.fn (eqGraph_ok _ gv (ilS cols) gu (ilE es) cols cols es es hc.oneG.1 rfl he.one.1 rfl hc.rd (rd_ilS _ _) he.rd (rd_ilE _ _) (by omega)) ?_
  rw [show (decide (cols = cols) && decide (es = es)) = true by simp]
  repeat (first | (with_reducible first | refine SW.seq ?_ | refine SW.block ?_ | refine SW.rowC ?_ | refine SW.skip ?_ | refine SW.exit ?_ | intro _ | refine And.intro (by omega) ?_) | simp (config := { maxSteps := 1000000 }) (disch := (first | omega | (simp only [go_sem]; try omega))) only [go_sem, Nat.reduceAdd, Nat.reduceEqDiff, Nat.reduceLeDiff, Nat.reduceMul, Nat.reduceLT, reduceIte, Int.reduceToNat, w64_id, cast_succ])
  refine SW.condF rfl ?_
  repeat (first | (with_reducible first | refine SW.seq ?_ | refine SW.block ?_ | refine SW.rowC ?_ | refine SW.skip ?_ | refine SW.exit ?_ | intro _ | refine And.intro (by omega) ?_) | simp (config := { maxSteps := 1000000 }) (disch := (first | omega | (simp only [go_sem]; try omega))) only [go_sem, Nat.reduceAdd, Nat.reduceEqDiff, Nat.reduceLeDiff, Nat.reduceMul, Nat.reduceLT, reduceIte, Int.reduceToNat, w64_id, cast_succ, pc_alive pg, pgl, hc.oneG.1, hc.oneG.2, he.one.1, he.one.2])
  refine (markGraph_ok _ _ _ _ 1 gv gu cols es hc.oneG.1 he.one.1 hc he (fun j hj => by unfold Btw at hj ⊢; omega) (by unfold Btw; omega) (by omega) (by omega) (by omega) (by omega)).mono ?_
  rintro r H7 ⟨rfl, hc7, he7, p1, p2⟩
  have hlt7 : ∀ j b, H5[j]? = some b → j < H5.length := fun j b h => (List.getElem?_eq_some_iff.1 h).1
  replace pw := (p2 H'.length (by unfold Btw; omega) (by unfold Btw; omega) (hlt7 _ _ pw)).trans pw
  replace pg := (p2 gg (by unfold Btw; omega) (by unfold Btw; omega) (hlt7 _ _ pg)).trans pg
  clear hc he pgl pwl
  have pgl : acells H7 2 (.pc gg 0 0) = some [gv, gu] := pc_lds pg (by simp)
  repeat (first | (with_reducible first | refine SW.seq ?_ | refine SW.block ?_ | refine SW.rowC ?_ | refine SW.skip ?_ | refine SW.exit ?_ | intro _ | refine And.intro (by omega) ?_) | simp (config := { maxSteps := 1000000 }) (disch := (first | omega | (simp only [go_sem]; try omega))) only [go_sem, Nat.reduceAdd, Nat.reduceEqDiff, Nat.reduceLeDiff, Nat.reduceMul, Nat.reduceLT, reduceIte, Int.reduceToNat, w64_id, cast_succ, pc_alive pg, pgl, hc7.oneG.1, hc7.oneG.2, he7.one.1, he7.one.2])
  refine ACalls.fn (heldGraph_ok _ 1 gv gu cols.length es.length hc7.oneG.1 he7.one.1 hc7.rd he7.rd (by omega) (by omega) (by omega) (by omega)) ?_
  have hneg2 : decide ((1 : Int) + cols.length + 2 * es.length < 0) = false := decide_eq_false (by omega)
  repeat (first | (with_reducible first | refine SW.seq ?_ | refine SW.block ?_ | refine SW.rowC ?_ | refine SW.skip ?_ | refine SW.exit ?_ | intro _ | refine And.intro (by omega) ?_) | simp (config := { maxSteps := 1000000 }) (disch := (first | omega | (simp only [go_sem]; try omega))) only [go_sem, Nat.reduceAdd, Nat.reduceEqDiff, Nat.reduceLeDiff, Nat.reduceMul, Nat.reduceLT, reduceIte, Int.reduceToNat, w64_id, cast_succ, hneg2])
  refine SW.condF rfl ?_
  repeat (first | (with_reducible first | refine SW.seq ?_ | refine SW.block ?_ | refine SW.rowC ?_ | refine SW.skip ?_ | refine SW.exit ?_ | intro _ | refine And.intro (by omega) ?_) | simp (config := { maxSteps := 1000000 }) (disch := (first | omega | (simp only [go_sem]; try omega))) only [go_sem, Nat.reduceAdd, Nat.reduceEqDiff, Nat.reduceLeDiff, Nat.reduceMul, Nat.reduceLT, reduceIte, Int.reduceToNat, w64_id, cast_succ])
  refine SW.condF rfl ?_
  repeat (first | (with_reducible first | refine SW.seq ?_ | refine SW.block ?_ | refine SW.rowC ?_ | refine SW.skip ?_ | refine SW.exit ?_ | intro _ | refine And.intro (by omega) ?_) | simp (config := { maxSteps := 1000000 }) (disch := (first | omega | (simp only [go_sem]; try omega))) only [go_sem, Nat.reduceAdd, Nat.reduceEqDiff, Nat.reduceLeDiff, Nat.reduceMul, Nat.reduceLT, reduceIte, Int.reduceToNat, w64_id, cast_succ])
  refine ACalls.fn (t1 _) ?_
  repeat (first | (with_reducible first | refine SW.seq ?_ | refine SW.block ?_ | refine SW.rowC ?_ | refine SW.skip ?_ | refine SW.exit ?_ | intro _ | refine And.intro (by omega) ?_) | simp (config := { maxSteps := 1000000 }) (disch := (first | omega | (simp only [go_sem]; try omega))) only [go_sem, Nat.reduceAdd, Nat.reduceEqDiff, Nat.reduceLeDiff, Nat.reduceMul, Nat.reduceLT, reduceIte, Int.reduceToNat, w64_id, cast_succ])
  refine (hi _).mono ?_
  rintro r H9 ⟨ext3, hv, hw, q5, rfl, rfl, q6, q7, hc9, he9⟩
  replace hc9 : OwnS (H7 ++ ext3) (Btw H7.length q5) (H7 ++ ext3).length hv cols := hc9
  replace he9 : OwnE (H7 ++ ext3) (Btw q5 (H7 ++ ext3).length) hw es := he9
  have e9 : H7 ++ (ext3 ++ [(⟨0, tyGr, 1, [hv, hw]⟩ : Blk)]) = H7 ++ ext3 ++ [(⟨0, tyGr, 1, [hv, hw]⟩ : Blk)] := by simp
  replace pw := get_appB2 (get_appB2 pw ext3) [(⟨0, tyGr, 1, [hv, hw]⟩ : Blk)]
  replace pg := get_appB2 (get_appB2 pg ext3) [(⟨0, tyGr, 1, [hv, hw]⟩ : Blk)]
  replace hc7 := (hc7.appG ext3).appG [(⟨0, tyGr, 1, [hv, hw]⟩ : Blk)]
  replace he7 := (he7.append ext3).append [(⟨0, tyGr, 1, [hv, hw]⟩ : Blk)]
  have hc10 := hc9.appG [(⟨0, tyGr, 1, [hv, hw]⟩ : Blk)]
  have he10 := he9.append [(⟨0, tyGr, 1, [hv, hw]⟩ : Blk)]
  have ph : (H7 ++ ext3 ++ [(⟨0, tyGr, 1, [hv, hw]⟩ : Blk)])[H7.length + ext3.length]? = some ⟨0, tyGr, 1, [hv, hw]⟩ := by rw [List.getElem?_append_right (by simp)]; simp
  rw [← e9] at pw pg hc7 he7 hc10 he10 ph
  clear pgl e9
  repeat (first | (with_reducible first | refine SW.seq ?_ | refine SW.block ?_ | refine SW.rowC ?_ | refine SW.skip ?_ | refine SW.exit ?_ | intro _ | refine And.intro (by omega) ?_) | simp (config := { maxSteps := 1000000 }) (disch := (first | omega | (simp only [go_sem]; try omega))) only [go_sem, Nat.reduceAdd, Nat.reduceEqDiff, Nat.reduceLeDiff, Nat.reduceMul, Nat.reduceLT, reduceIte, Int.reduceToNat, w64_id, cast_succ, hc9.oneG.1, hc9.oneG.2, he9.one.1, he9.one.2])
  generalize H7 ++ (ext3 ++ [(⟨0, tyGr, 1, [hv, hw]⟩ : Blk)]) = H10 at *
  have pwl : acells H10 2 (.pc H'.length 0 0) = some [ilS cols, ilE es] := pc_lds pw (by simp)
  have phl : acells H10 2 (.pc (H7.length + ext3.length) 0 0) = some [hv, hw] := pc_lds ph (by simp)
  have pgl : acells H10 2 (.pc gg 0 0) = some [gv, gu] := pc_lds pg (by simp)
  repeat (first | (with_reducible first | refine SW.seq ?_ | refine SW.block ?_ | refine SW.rowC ?_ | refine SW.skip ?_ | refine SW.exit ?_ | intro _ | refine And.intro (by omega) ?_) | simp (config := { maxSteps := 1000000 }) (disch := (first | omega | (simp only [go_sem]; try omega))) only [go_sem, Nat.reduceAdd, Nat.reduceEqDiff, Nat.reduceLeDiff, Nat.reduceMul, Nat.reduceLT, reduceIte, Int.reduceToNat, w64_id, cast_succ, pwl, phl, pc_alive pw, pc_alive ph])
  refine ACalls.fn (eqGraph_ok _ hv (ilS cols) hw (ilE es) cols cols es es hc10.oneG.1 rfl he10.one.1 rfl hc10.rd (rd_ilS _ _) he10.rd (rd_ilE _ _) (by omega)) ?_
  rw [show (decide (cols = cols) && decide (es = es)) = true by simp]
  repeat (first | (with_reducible first | refine SW.seq ?_ | refine SW.block ?_ | refine SW.rowC ?_ | refine SW.skip ?_ | refine SW.exit ?_ | intro _ | refine And.intro (by omega) ?_) | simp (config := { maxSteps := 1000000 }) (disch := (first | omega | (simp only [go_sem]; try omega))) only [go_sem, Nat.reduceAdd, Nat.reduceEqDiff, Nat.reduceLeDiff, Nat.reduceMul, Nat.reduceLT, reduceIte, Int.reduceToNat, w64_id, cast_succ])
  refine SW.condF rfl ?_
  repeat (first | (with_reducible first | refine SW.seq ?_ | refine SW.block ?_ | refine SW.rowC ?_ | refine SW.skip ?_ | refine SW.exit ?_ | intro _ | refine And.intro (by omega) ?_) | simp (config := { maxSteps := 1000000 }) (disch := (first | omega | (simp only [go_sem]; try omega))) only [go_sem, Nat.reduceAdd, Nat.reduceEqDiff, Nat.reduceLeDiff, Nat.reduceMul, Nat.reduceLT, reduceIte, Int.reduceToNat, w64_id, cast_succ, pgl, pc_alive pg])
  refine ACalls.fn (heldGraph_ok _ 1 gv gu cols.length es.length hc7.oneG.1 he7.one.1 hc7.rd he7.rd (by omega) (by omega) (by omega) (by omega)) ?_
  repeat (first | (with_reducible first | refine SW.seq ?_ | refine SW.block ?_ | refine SW.rowC ?_ | refine SW.skip ?_ | refine SW.exit ?_ | intro _ | refine And.intro (by omega) ?_) | simp (config := { maxSteps := 1000000 }) (disch := (first | omega | (simp only [go_sem]; try omega))) only [go_sem, Nat.reduceAdd, Nat.reduceEqDiff, Nat.reduceLeDiff, Nat.reduceMul, Nat.reduceLT, reduceIte, Int.reduceToNat, w64_id, cast_succ, hneg2])
  refine SW.condF rfl ?_
  repeat (first | (with_reducible first | refine SW.seq ?_ | refine SW.block ?_ | refine SW.rowC ?_ | refine SW.skip ?_ | refine SW.exit ?_ | intro _ | refine And.intro (by omega) ?_) | simp (config := { maxSteps := 1000000 }) (disch := (first | omega | (simp only [go_sem]; try omega))) only [go_sem, Nat.reduceAdd, Nat.reduceEqDiff, Nat.reduceLeDiff, Nat.reduceMul, Nat.reduceLT, reduceIte, Int.reduceToNat, w64_id, cast_succ])
  refine SW.condF rfl ?_
  repeat (first | (with_reducible first | refine SW.seq ?_ | refine SW.block ?_ | refine SW.rowC ?_ | refine SW.skip ?_ | refine SW.exit ?_ | intro _ | refine And.intro (by omega) ?_) | simp (config := { maxSteps := 1000000 }) (disch := (first | omega | (simp only [go_sem]; try omega))) only [go_sem, Nat.reduceAdd, Nat.reduceEqDiff, Nat.reduceLeDiff, Nat.reduceMul, Nat.reduceLT, reduceIte, Int.reduceToNat, w64_id, cast_succ])
  refine SW.ret ?_; (try simp only [go_sem]); (first | refine FunPost.one ?_ | refine FunPost.two ?_ | refine FunPost.three ?_); (try simp (config := { maxSteps := 1000000 }) (disch := (first | omega | (simp only [go_sem]; try omega))) only [go_sem, Nat.reduceAdd, Nat.reduceEqDiff, Nat.reduceLeDiff, Nat.reduceMul, Nat.reduceLT, reduceIte, Int.reduceToNat, w64_id, cast_succ])
  exact GR.of rfl
end Go.Proofs.Ytonfknfphdeenaa
