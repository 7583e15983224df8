/- OrbitDesign: the law. -/
import Derived.Test.YtkifdjjnbplghaaGreatProg
import Derived.KernelRfl
import Derived.Test.YtkifdjjnbplghaaGreatzYI
import Derived.Test.YtkifdjjnbplghaaGreatzK52
import Derived.Test.YtkifdjjnbplghaaGreatzD1
import Derived.Test.YtkifdjjnbplghaaGreatzM1
import Derived.Test.YtkifdjjnbplghaaGreatzAv17
import Derived.Test.YtkifdjjnbplghaaGreatzK18
set_option linter.unusedSimpArgs false
set_option linter.unusedVariables false
set_option maxHeartbeats 4000000
set_option maxRecDepth 100000
namespace Go.Proofs.YtkifdjjnbplghaaGreat
open Go.Av
abbrev f_laws_FnExactOrbitDesign : Nat := 7
def c_laws_FnExactOrbitDesign : SC :=
 .seq (.reg [
     ⟨(some 3), .box 26 (.tmp 0), none⟩,
     ⟨(some 6), .mv (.const (.bool false)), none⟩] [1, 2, 3])
 (.seq (.seq (.reg [
     ⟨(some 19), .mv (.tmp 2), none⟩,
     ⟨(some 20), .len (.tmp 19), none⟩,
     ⟨(some 21), .bin .gtr (.tmp 20) (.const (.int .i64 1048576)), none⟩] [1, 2, 3, 21])
 (.cond (.tmp 21)
  (.seq (.reg [
      ⟨(some 6), .mv (.const (.bool true)), none⟩] [6])
  (.ret))
  (.skip)))
 (.seq (.reg [
     ⟨(some 7), .mv (.const (.int .i64 1048576)), none⟩] [1, 2, 3, 7])
 (.seq (.reg [
     ⟨(some 22), .load 2 true (.tmp 3), none⟩,
     ⟨(some 23), .mv (.tmp 7), none⟩,
     ⟨(some 24), .call 10 [(.tmp 22), (.tmp 23)], none⟩,
     ⟨(some 7), .mv (.tmp 24), none⟩] [1, 2, 3, 7])
 (.seq (.seq (.reg [
     ⟨(some 25), .mv (.tmp 7), none⟩,
     ⟨(some 26), .bin .lss (.tmp 25) (.const (.int .i64 0)), none⟩] [1, 2, 3, 26])
 (.cond (.tmp 26)
  (.seq (.reg [
      ⟨(some 6), .mv (.const (.bool true)), none⟩] [6])
  (.ret))
  (.skip)))
 (.seq (.reg [
     ⟨(some 28), .load 2 true (.tmp 3), none⟩,
     ⟨(some 29), .call 13 [(.tmp 28)], none⟩,
     ⟨(some 30), .mv (.tmp 1), none⟩,
     ⟨(some 31), .mv (.tmp 2), none⟩,
     ⟨(some 32), .call 31 [(.tmp 31)], none⟩,
     ⟨(some 33), .call 30 [(.tmp 29), (.tmp 30), (.tmp 32)], none⟩,
     ⟨(some 27), .mv (.tmp 33), none⟩,
     ⟨(some 34), .ext (.tmp 27) 0, none⟩,
     ⟨(some 35), .ext (.tmp 27) 1, none⟩,
     ⟨(some 8), .alloc 31 [(.int .i64 0), (.slice none 0 0)], none⟩,
     ⟨none, .store 2 (.tmp 8) (.tmp 34), none⟩,
     ⟨(some 9), .mv (.tmp 35), none⟩] [1, 2, 3, 8, 9])
 (.seq (.reg [
     ⟨(some 36), .load 2 true (.tmp 3), none⟩,
     ⟨(some 37), .call 13 [(.tmp 36)], none⟩,
     ⟨(some 10), .alloc 33 [(.int .i64 0), (.slice none 0 0)], none⟩,
     ⟨none, .store 2 (.tmp 10) (.tmp 37), none⟩] [1, 2, 3, 8, 9, 10])
 (.seq (.reg [
     ⟨(some 38), .mv (.tmp 2), none⟩,
     ⟨(some 39), .call 31 [(.tmp 38)], none⟩,
     ⟨(some 11), .mv (.tmp 39), none⟩] [1, 2, 3, 8, 9, 10, 11])
 (.seq (.reg [
     ⟨(some 41), .load 2 true (.tmp 10), none⟩,
     ⟨(some 42), .mv (.tmp 1), none⟩,
     ⟨(some 43), .mv (.tmp 11), none⟩,
     ⟨(some 44), .call 32 [(.tmp 41), (.tmp 42), (.tmp 43)], none⟩,
     ⟨(some 40), .mv (.tmp 44), none⟩,
     ⟨(some 45), .ext (.tmp 40) 0, none⟩,
     ⟨(some 46), .ext (.tmp 40) 1, none⟩,
     ⟨(some 12), .alloc 31 [(.int .i64 0), (.slice none 0 0)], none⟩,
     ⟨none, .store 2 (.tmp 12) (.tmp 45), none⟩,
     ⟨(some 13), .mv (.tmp 46), none⟩] [1, 2, 3, 8, 9, 10, 11, 12, 13])
 (.seq (.seq (.reg [
     ⟨(some 47), .load 2 true (.tmp 12), none⟩,
     ⟨(some 48), .load 2 true (.tmp 8), none⟩,
     ⟨(some 49), .call 15 [(.tmp 47), (.tmp 48)], none⟩,
     ⟨(some 50), .un .not (.tmp 49), none⟩,
     ⟨(some 51), .mv (.tmp 50), none⟩,
     ⟨(some 52), .mv (.tmp 13), (some (51, false))⟩,
     ⟨(some 53), .mv (.tmp 9), (some (51, false))⟩,
     ⟨(some 54), .bin .neq (.tmp 52) (.tmp 53), (some (51, false))⟩,
     ⟨(some 55), .pick (.tmp 51) (.const (.bool true)) (.tmp 54), none⟩] [1, 2, 3, 8, 9, 10, 11, 12, 13, 55])
 (.cond (.tmp 55)
  (.seq (.reg [
      ⟨(some 6), .mv (.const (.bool false)), none⟩] [6])
  (.ret))
  (.skip)))
 (.seq (.seq (.reg [
     ⟨(some 56), .load 2 true (.tmp 10), none⟩,
     ⟨(some 57), .load 2 true (.tmp 3), none⟩,
     ⟨(some 58), .qcall 13 [(.tmp 57)], none⟩,
     ⟨(some 59), .qcall 16 [(.tmp 56), (.tmp 58)], none⟩,
     ⟨(some 60), .un .not (.tmp 59), none⟩] [1, 2, 3, 8, 9, 10, 11, 12, 13, 60])
 (.cond (.tmp 60)
  (.seq (.reg [
      ⟨(some 6), .mv (.const (.bool false)), none⟩] [6])
  (.ret))
  (.skip)))
 (.seq (.seq (.reg [
     ⟨(some 61), .mv (.tmp 11), none⟩,
     ⟨(some 62), .mv (.tmp 2), none⟩,
     ⟨(some 63), .call 31 [(.tmp 62)], none⟩,
     ⟨(some 64), .call 33 [(.tmp 61), (.tmp 63)], none⟩,
     ⟨(some 65), .un .not (.tmp 64), none⟩] [1, 2, 3, 8, 9, 10, 11, 12, 13, 65])
 (.cond (.tmp 65)
  (.seq (.reg [
      ⟨(some 6), .mv (.const (.bool false)), none⟩] [6])
  (.ret))
  (.skip)))
 (.seq (.reg [
     ⟨(some 14), .mv (.const (.int .i64 1)), none⟩] [1, 2, 3, 8, 9, 10, 11, 12, 13, 14])
 (.seq (.reg [
     ⟨(some 66), .load 2 true (.tmp 10), none⟩,
     ⟨(some 67), .mv (.tmp 14), none⟩,
     ⟨(some 68), .call 20 [(.tmp 66), (.tmp 67)], none⟩,
     ⟨(some 14), .mv (.tmp 68), none⟩] [1, 2, 3, 8, 9, 11, 12, 13, 14])
 (.seq (.reg [
     ⟨(some 69), .mv (.tmp 11), none⟩,
     ⟨(some 70), .mv (.tmp 14), none⟩,
     ⟨(some 71), .call 34 [(.tmp 69), (.tmp 70)], none⟩,
     ⟨(some 14), .mv (.tmp 71), none⟩] [1, 2, 3, 8, 9, 12, 13, 14])
 (.seq (.seq (.reg [
     ⟨(some 72), .mv (.tmp 14), none⟩,
     ⟨(some 73), .bin .lss (.tmp 72) (.const (.int .i64 0)), none⟩,
     ⟨(some 74), .mv (.tmp 73), none⟩,
     ⟨(some 75), .load 2 true (.tmp 12), (some (74, false))⟩,
     ⟨(some 76), .load 2 true (.tmp 8), (some (74, false))⟩,
     ⟨(some 77), .call 15 [(.tmp 75), (.tmp 76)], (some (74, false))⟩,
     ⟨(some 78), .un .not (.tmp 77), (some (74, false))⟩,
     ⟨(some 79), .pick (.tmp 74) (.const (.bool true)) (.tmp 78), none⟩,
     ⟨(some 80), .mv (.tmp 79), none⟩,
     ⟨(some 81), .mv (.tmp 13), (some (80, false))⟩,
     ⟨(some 82), .mv (.tmp 9), (some (80, false))⟩,
     ⟨(some 83), .bin .neq (.tmp 81) (.tmp 82), (some (80, false))⟩,
     ⟨(some 84), .pick (.tmp 80) (.const (.bool true)) (.tmp 83), none⟩] [1, 2, 3, 8, 9, 12, 84])
 (.cond (.tmp 84)
  (.seq (.reg [
      ⟨(some 6), .mv (.const (.bool false)), none⟩] [6])
  (.ret))
  (.skip)))
 (.seq (.reg [
     ⟨(some 15), .mv (.const (.int .i64 1)), none⟩] [1, 2, 3, 8, 9, 12, 15])
 (.seq (.reg [
     ⟨(some 85), .load 2 true (.tmp 12), none⟩,
     ⟨(some 86), .mv (.tmp 15), none⟩,
     ⟨(some 87), .call 35 [(.tmp 85), (.tmp 86)], none⟩,
     ⟨(some 15), .mv (.tmp 87), none⟩] [1, 2, 3, 8, 9, 12, 15])
 (.seq (.reg [
     ⟨(some 16), .mv (.const (.int .i64 1)), none⟩] [1, 2, 3, 8, 9, 12, 15, 16])
 (.seq (.reg [
     ⟨(some 88), .load 2 true (.tmp 12), none⟩,
     ⟨(some 89), .mv (.tmp 16), none⟩,
     ⟨(some 90), .call 36 [(.tmp 88), (.tmp 89)], none⟩,
     ⟨(some 16), .mv (.tmp 90), none⟩] [1, 2, 3, 8, 9, 12, 15, 16])
 (.seq (.seq (.reg [
     ⟨(some 91), .mv (.tmp 16), none⟩,
     ⟨(some 92), .bin .lss (.tmp 91) (.const (.int .i64 0)), none⟩] [1, 2, 3, 8, 9, 12, 15, 16, 92])
 (.cond (.tmp 92)
  (.seq (.reg [
      ⟨(some 6), .mv (.const (.bool false)), none⟩] [6])
  (.ret))
  (.skip)))
 (.seq (.seq (.reg [
     ⟨(some 93), .mv (.tmp 16), none⟩,
     ⟨(some 94), .mv (.tmp 15), none⟩,
     ⟨(some 95), .bin .neq (.tmp 93) (.tmp 94), none⟩] [1, 2, 3, 8, 9, 12, 15, 95])
 (.cond (.tmp 95)
  (.seq (.reg [
      ⟨(some 6), .mv (.const (.bool false)), none⟩] [6])
  (.ret))
  (.skip)))
 (.seq (.reg [
     ⟨(some 97), .load 2 true (.tmp 3), none⟩,
     ⟨(some 98), .call 13 [(.tmp 97)], none⟩,
     ⟨(some 99), .mv (.tmp 1), none⟩,
     ⟨(some 100), .mv (.tmp 2), none⟩,
     ⟨(some 101), .call 31 [(.tmp 100)], none⟩,
     ⟨(some 102), .call 32 [(.tmp 98), (.tmp 99), (.tmp 101)], none⟩,
     ⟨(some 96), .mv (.tmp 102), none⟩,
     ⟨(some 103), .ext (.tmp 96) 0, none⟩,
     ⟨(some 104), .ext (.tmp 96) 1, none⟩,
     ⟨(some 17), .alloc 31 [(.int .i64 0), (.slice none 0 0)], none⟩,
     ⟨none, .store 2 (.tmp 17) (.tmp 103), none⟩,
     ⟨(some 18), .mv (.tmp 104), none⟩] [8, 9, 12, 15, 17, 18])
 (.seq (.seq (.reg [
     ⟨(some 105), .load 2 true (.tmp 17), none⟩,
     ⟨(some 106), .load 2 true (.tmp 8), none⟩,
     ⟨(some 107), .call 15 [(.tmp 105), (.tmp 106)], none⟩,
     ⟨(some 108), .un .not (.tmp 107), none⟩,
     ⟨(some 109), .mv (.tmp 108), none⟩,
     ⟨(some 110), .mv (.tmp 18), (some (109, false))⟩,
     ⟨(some 111), .mv (.tmp 9), (some (109, false))⟩,
     ⟨(some 112), .bin .neq (.tmp 110) (.tmp 111), (some (109, false))⟩,
     ⟨(some 113), .pick (.tmp 109) (.const (.bool true)) (.tmp 112), none⟩] [12, 15, 113])
 (.cond (.tmp 113)
  (.seq (.reg [
      ⟨(some 6), .mv (.const (.bool false)), none⟩] [6])
  (.ret))
  (.skip)))
 (.seq (.reg [
     ⟨(some 16), .mv (.const (.int .i64 1)), none⟩] [12, 15, 16])
 (.seq (.reg [
     ⟨(some 114), .load 2 true (.tmp 12), none⟩,
     ⟨(some 115), .mv (.tmp 16), none⟩,
     ⟨(some 116), .call 36 [(.tmp 114), (.tmp 115)], none⟩,
     ⟨(some 16), .mv (.tmp 116), none⟩] [15, 16])
 (.seq (.seq (.reg [
     ⟨(some 117), .mv (.tmp 16), none⟩,
     ⟨(some 118), .bin .lss (.tmp 117) (.const (.int .i64 0)), none⟩] [15, 16, 118])
 (.cond (.tmp 118)
  (.seq (.reg [
      ⟨(some 6), .mv (.const (.bool false)), none⟩] [6])
  (.ret))
  (.skip)))
 (.seq (.seq (.reg [
     ⟨(some 119), .mv (.tmp 16), none⟩,
     ⟨(some 120), .mv (.tmp 15), none⟩,
     ⟨(some 121), .bin .neq (.tmp 119) (.tmp 120), none⟩] [121])
 (.cond (.tmp 121)
  (.seq (.reg [
      ⟨(some 6), .mv (.const (.bool false)), none⟩] [6])
  (.ret))
  (.skip)))
 (.seq (.reg [
     ⟨(some 6), .mv (.const (.bool true)), none⟩] [6])
 (.ret)))))))))))))))))))))))))))))
theorem s_laws_FnExactOrbitDesign : stripF Tryz.prog 7 [[1, 2, 3], [1, 2, 3, 21], [6], [1, 2, 3, 7], [1, 2, 3, 7], [1, 2, 3, 26], [6], [1, 2, 3, 8, 9], [1, 2, 3, 8, 9, 10], [1, 2, 3, 8, 9, 10, 11], [1, 2, 3, 8, 9, 10, 11, 12, 13], [1, 2, 3, 8, 9, 10, 11, 12, 13, 55], [6], [1, 2, 3, 8, 9, 10, 11, 12, 13, 60], [6], [1, 2, 3, 8, 9, 10, 11, 12, 13, 65], [6], [1, 2, 3, 8, 9, 10, 11, 12, 13, 14], [1, 2, 3, 8, 9, 11, 12, 13, 14], [1, 2, 3, 8, 9, 12, 13, 14], [1, 2, 3, 8, 9, 12, 84], [6], [1, 2, 3, 8, 9, 12, 15], [1, 2, 3, 8, 9, 12, 15], [1, 2, 3, 8, 9, 12, 15, 16], [1, 2, 3, 8, 9, 12, 15, 16], [1, 2, 3, 8, 9, 12, 15, 16, 92], [6], [1, 2, 3, 8, 9, 12, 15, 95], [6], [8, 9, 12, 15, 17, 18], [12, 15, 113], [6], [12, 15, 16], [15, 16], [15, 16, 118], [6], [121], [6], [6]] = some (c_laws_FnExactOrbitDesign, [.tmp 6], 122) := by kernel_rfl
theorem OwnS.appendV {H : List Blk} {N : Nat → Prop} {t : Nat} {c : AV} {xs : List Int} (h : OwnS H N t c xs) (ext : List Blk) : OwnS (H ++ ext) N t c xs :=
  h.same (fun j b _ _ hb => by rw [List.getElem?_append_left (List.getElem?_eq_some_iff.1 hb).1]; exact hb)
theorem lawOD_ok (H : List Blk) (n : Int) (els : List (List Int)) (k : Int) (os : List Int) (hx : ∀ x ∈ os, (Lit.int .i64 x).wf = true) : ACalls Tryz.prog f_laws_FnExactOrbitDesign [.agg [I n, ilSS els], I k, ilS os] H (fun r _ => r = Bv true) := by
  refine ACalls.introB s_laws_FnExactOrbitDesign (by simp) ?_; intro hB hA; unfold c_laws_FnExactOrbitDesign; simp (config := { maxSteps := 1000000 }) (disch := (first | omega | (simp only [go_sem]; try omega))) only [go_sem, Nat.reduceAdd, Nat.reduceEqDiff, Nat.reduceLeDiff, Nat.reduceMul, Nat.reduceLT, reduceIte, Int.reduceToNat, w64_id, cast_succ]
  repeat (first | (with_reducible first | refine SW.seq ?_ | refine SW.block ?_ | refine SW.rowC ?_ | refine SW.skip ?_ | refine SW.exit ?_ | intro _ | refine And.intro (by omega) ?_) | simp (config := { maxSteps := 1000000 }) (disch := (first | omega | (simp only [go_sem]; try omega))) only [go_sem, Nat.reduceAdd, Nat.reduceEqDiff, Nat.reduceLeDiff, Nat.reduceMul, Nat.reduceLT, reduceIte, Int.reduceToNat, w64_id, cast_succ])
  (first | refine SW.condD rfl (fun h1 => ?_) (fun h1 => ?_) | refine SW.condN rfl (fun h1 => ?_) (fun h1 => ?_) | refine SW.condNB rfl (fun h1 => ?_) (fun h1 => ?_) | refine SW.condB rfl (fun h1 => ?_) (fun h1 => ?_))
  · repeat (first | (with_reducible first | refine SW.seq ?_ | refine SW.block ?_ | refine SW.rowC ?_ | refine SW.skip ?_ | refine SW.exit ?_ | intro _ | refine And.intro (by omega) ?_) | simp (config := { maxSteps := 1000000 }) (disch := (first | omega | (simp only [go_sem]; try omega))) only [go_sem, Nat.reduceAdd, Nat.reduceEqDiff, Nat.reduceLeDiff, Nat.reduceMul, Nat.reduceLT, reduceIte, Int.reduceToNat, w64_id, cast_succ])
    refine SW.ret ?_; (try simp only [go_sem]); (first | refine FunPost.one ?_ | refine FunPost.two ?_ | refine FunPost.three ?_); (try simp (config := { maxSteps := 1000000 }) (disch := (first | omega | (simp only [go_sem]; try omega))) only [go_sem, Nat.reduceAdd, Nat.reduceEqDiff, Nat.reduceLeDiff, Nat.reduceMul, Nat.reduceLT, reduceIte, Int.reduceToNat, w64_id, cast_succ])
    exact GR.of rfl
  repeat (first | (with_reducible first | refine SW.seq ?_ | refine SW.block ?_ | refine SW.rowC ?_ | refine SW.skip ?_ | refine SW.exit ?_ | intro _ | refine And.intro (by omega) ?_) | simp (config := { maxSteps := 1000000 }) (disch := (first | omega | (simp only [go_sem]; try omega))) only [go_sem, Nat.reduceAdd, Nat.reduceEqDiff, Nat.reduceLeDiff, Nat.reduceMul, Nat.reduceLT, reduceIte, Int.reduceToNat, w64_id, cast_succ])
  refine (szGroup_ok _ n _ els _ rfl (rd_ilSS _ _) (by omega) (by omega)).mono ?_
  rintro r H' ⟨⟨z, rfl, g1, g2, g3⟩, rfl⟩
  repeat (first | (with_reducible first | refine SW.seq ?_ | refine SW.block ?_ | refine SW.rowC ?_ | refine SW.skip ?_ | refine SW.exit ?_ | intro _ | refine And.intro (by omega) ?_) | simp (config := { maxSteps := 1000000 }) (disch := (first | omega | (simp only [go_sem]; try omega))) only [go_sem, Nat.reduceAdd, Nat.reduceEqDiff, Nat.reduceLeDiff, Nat.reduceMul, Nat.reduceLT, reduceIte, Int.reduceToNat, w64_id, cast_succ])
  (first | refine SW.condD rfl (fun h2 => ?_) (fun h2 => ?_) | refine SW.condN rfl (fun h2 => ?_) (fun h2 => ?_) | refine SW.condNB rfl (fun h2 => ?_) (fun h2 => ?_) | refine SW.condB rfl (fun h2 => ?_) (fun h2 => ?_))
  · repeat (first | (with_reducible first | refine SW.seq ?_ | refine SW.block ?_ | refine SW.rowC ?_ | refine SW.skip ?_ | refine SW.exit ?_ | intro _ | refine And.intro (by omega) ?_) | simp (config := { maxSteps := 1000000 }) (disch := (first | omega | (simp only [go_sem]; try omega))) only [go_sem, Nat.reduceAdd, Nat.reduceEqDiff, Nat.reduceLeDiff, Nat.reduceMul, Nat.reduceLT, reduceIte, Int.reduceToNat, w64_id, cast_succ])
    refine SW.ret ?_; (try simp only [go_sem]); (first | refine FunPost.one ?_ | refine FunPost.two ?_ | refine FunPost.three ?_); (try simp (config := { maxSteps := 1000000 }) (disch := (first | omega | (simp only [go_sem]; try omega))) only [go_sem, Nat.reduceAdd, Nat.reduceEqDiff, Nat.reduceLeDiff, Nat.reduceMul, Nat.reduceLT, reduceIte, Int.reduceToNat, w64_id, cast_succ])
    exact GR.of rfl
  have hsx := small_rows (by omega) (g3 (by omega)) (by omega)
  have t1 := toGroup_fn n els hsx.1 hsx.2
  have t2 := toInt64S_fnV os (by omega)
  have hlx : ∀ x ∈ els, x.length ≤ 2000000 := fun x hx => by
    have h1 : x.length ≤ total els := total_geV hx
    have := g3 (by omega); omega
  have hl2 : els.length ≤ 2000000 := by have := g3 (by omega); omega
  have htot : total els ≤ 1073741824 := by have := g3 (by omega); omega
  have hs := specOD_fn n k els os hx
  have hi := implOD_fds n k els os hlx hl2 hx
  obtain ⟨hlen, hto⟩ := odV_len n k els os
  generalize odV n els k os = zs at *
  generalize odN n els k os = zn at *
  generalize odA n els k os = code at *
  repeat (first | (with_reducible first | refine SW.seq ?_ | refine SW.block ?_ | refine SW.rowC ?_ | refine SW.skip ?_ | refine SW.exit ?_ | intro _ | refine And.intro (by omega) ?_) | simp (config := { maxSteps := 1000000 }) (disch := (first | omega | (simp only [go_sem]; try omega))) only [go_sem, Nat.reduceAdd, Nat.reduceEqDiff, Nat.reduceLeDiff, Nat.reduceMul, Nat.reduceLT, reduceIte, Int.reduceToNat, w64_id, cast_succ])
  refine ACalls.fn (t1 _) ?_
  repeat (first | (with_reducible first | refine SW.seq ?_ | refine SW.block ?_ | refine SW.rowC ?_ | refine SW.skip ?_ | refine SW.exit ?_ | refine PFn.use (t2) ?_ | refine PFn.useq (t2) ?_ | refine PFn.use (hs) ?_ | refine PFn.useq (hs) ?_ | intro _ | refine And.intro (by omega) ?_) | simp (config := { maxSteps := 1000000 }) (disch := (first | omega | (simp only [go_sem]; try omega))) only [go_sem, Nat.reduceAdd, Nat.reduceEqDiff, Nat.reduceLeDiff, Nat.reduceMul, Nat.reduceLT, reduceIte, Int.reduceToNat, w64_id, cast_succ])
  refine (toGroup_ok _ n _ els rfl (rd_ilSS _ _) hsx.1 hsx.2).mono ?_
  rintro r H1 ⟨ext, v, hH1, rfl, own⟩
  have pw := get_appB2 (show (H ++ [(⟨0, 26, 1, [I n, ilSS els]⟩ : Blk), ⟨0, 31, 1, [I zn, ilSS zs]⟩])[H.length]? = some ⟨0, 26, 1, [I n, ilSS els]⟩ by simp) ext
  have pz := get_appB2 (show (H ++ [(⟨0, 26, 1, [I n, ilSS els]⟩ : Blk), ⟨0, 31, 1, [I zn, ilSS zs]⟩])[H.length + 1]? = some ⟨0, 31, 1, [I zn, ilSS zs]⟩ by simp) ext
  rw [← hH1] at pw pz
  have hb : (H ++ [(⟨0, 26, 1, [I n, ilSS els]⟩ : Blk), ⟨0, 31, 1, [I zn, ilSS zs]⟩]).length = H.length + 2 := by simp
  rw [hb] at own
  have hlt : H.length + 1 < H1.length := (List.getElem?_eq_some_iff.1 pz).1
  clear hH1 hb
  repeat (first | (with_reducible first | refine SW.seq ?_ | refine SW.block ?_ | refine SW.rowC ?_ | refine SW.skip ?_ | refine SW.exit ?_ | intro _ | refine And.intro (by omega) ?_) | simp (config := { maxSteps := 1000000 }) (disch := (first | omega | (simp only [go_sem]; try omega))) only [go_sem, Nat.reduceAdd, Nat.reduceEqDiff, Nat.reduceLeDiff, Nat.reduceMul, Nat.reduceLT, reduceIte, Int.reduceToNat, w64_id, cast_succ, own.cell1B.1, own.cell1B.2])
  refine (toInt64S_ok _ _ os (rd_ilS _ _) (by omega)).mono ?_
  rintro r H2 ⟨rfl, hH2⟩
  have px := get_appB2 (show (H1 ++ [(⟨0, tyG, 1, [I n, v]⟩ : Blk)])[H1.length]? = some ⟨0, tyG, 1, [I n, v]⟩ by simp) [⟨0, 2, 1, os.map I⟩]
  have own1 : OwnS H2 (Btw (H1.length + 1) (H1.length + 2)) H2.length (.nm (H1 ++ [(⟨0, tyG, 1, [I n, v]⟩ : Blk)]).length 0 0 os.length) os := .inl ⟨_, 0, 2, rfl, ⟨by simp, by simp⟩, by rw [hH2]; simp, by rw [hH2]; simp⟩
  replace pw := get_appB2 (get_appB2 pw [(⟨0, tyG, 1, [I n, v]⟩ : Blk)]) [⟨0, 2, 1, os.map I⟩]
  replace pz := get_appB2 (get_appB2 pz [(⟨0, tyG, 1, [I n, v]⟩ : Blk)]) [⟨0, 2, 1, os.map I⟩]
  replace own := (own.append [(⟨0, tyG, 1, [I n, v]⟩ : Blk)]).append [⟨0, 2, 1, os.map I⟩]
  have hl2' : H2.length = H1.length + 2 := by rw [hH2]; simp
  rw [← hH2] at pw pz px own
  generalize (AV.nm (H1 ++ [(⟨0, tyG, 1, [I n, v]⟩ : Blk)]).length 0 0 os.length) = u1 at *
  clear hH2
  generalize hg : H1.length = g at *
  have pxl : acells H2 2 (.pc g 0 0) = some [I n, v] := pc_lds px (by simp)
  repeat (first | (with_reducible first | refine SW.seq ?_ | refine SW.block ?_ | refine SW.rowC ?_ | refine SW.skip ?_ | refine SW.exit ?_ | intro _ | refine And.intro (by omega) ?_) | simp (config := { maxSteps := 1000000 }) (disch := (first | omega | (simp only [go_sem]; try omega))) only [go_sem, Nat.reduceAdd, Nat.reduceEqDiff, Nat.reduceLeDiff, Nat.reduceMul, Nat.reduceLT, reduceIte, Int.reduceToNat, w64_id, cast_succ, pc_alive px, pxl, own.cell1B.1, own.cell1B.2])
  refine (hi.lend (.cons (froz_agg2 (froz_I' _) (own.froz (fun r _ => Nat.zero_le _))) (.cons (froz_I' _) (.cons (own1.froz (fun r _ => Nat.zero_le _)) .nil)))).mono ?_
  rintro r H3 ⟨ext2, gu, hH3, rfl, hu⟩
  replace pw := get_appB2 pw ext2
  replace pz := get_appB2 pz ext2
  replace px := get_appB2 px ext2
  replace own := own.append ext2
  replace own1 := own1.appendV ext2
  have hl3 : H2.length ≤ H3.length := by rw [hH3]; simp
  rw [← hH3] at pw pz px own own1
  clear hH3 pxl
  repeat (first | (with_reducible first | refine SW.seq ?_ | refine SW.block ?_ | refine SW.rowC ?_ | refine SW.skip ?_ | refine SW.exit ?_ | intro _ | refine And.intro (by omega) ?_) | simp (config := { maxSteps := 1000000 }) (disch := (first | omega | (simp only [go_sem]; try omega))) only [go_sem, Nat.reduceAdd, Nat.reduceEqDiff, Nat.reduceLeDiff, Nat.reduceMul, Nat.reduceLT, reduceIte, Int.reduceToNat, w64_id, cast_succ, hu.cell1B.1, hu.cell1B.2])
  have pg := (show (H3 ++ [(⟨0, tyDX, 1, [I zn, gu]⟩ : Blk)])[H3.length]? = some ⟨0, tyDX, 1, [I zn, gu]⟩ by simp)
  replace pw := get_appB2 pw [(⟨0, tyDX, 1, [I zn, gu]⟩ : Blk)]
  replace pz := get_appB2 pz [(⟨0, tyDX, 1, [I zn, gu]⟩ : Blk)]
  replace px := get_appB2 px [(⟨0, tyDX, 1, [I zn, gu]⟩ : Blk)]
  replace own := own.append [(⟨0, tyDX, 1, [I zn, gu]⟩ : Blk)]
  replace own1 := own1.appendV [(⟨0, tyDX, 1, [I zn, gu]⟩ : Blk)]
  replace hu := hu.append [(⟨0, tyDX, 1, [I zn, gu]⟩ : Blk)]
  generalize hH4 : H3 ++ [(⟨0, tyDX, 1, [I zn, gu]⟩ : Blk)] = H4 at *
  have hl4 : H3.length < H4.length := (List.getElem?_eq_some_iff.1 pg).1
  clear hH4
  generalize hq3 : H3.length = p3 at *
  have pzl : acells H4 2 (.pc (H.length + 1) 0 0) = some [I zn, ilSS zs] := pc_lds pz (by simp)
  have pgl : acells H4 2 (.pc p3 0 0) = some [I zn, gu] := pc_lds pg (by simp)
  have pxl : acells H4 2 (.pc g 0 0) = some [I n, v] := pc_lds px (by simp)
  have pal : acells H4 2 (.pc H.length 0 0) = some [I n, ilSS els] := pc_lds pw (by simp)
  repeat (first | (with_reducible first | refine SW.seq ?_ | refine SW.block ?_ | refine SW.rowC ?_ | refine SW.skip ?_ | refine SW.exit ?_ | intro _ | refine And.intro (by omega) ?_) | simp (config := { maxSteps := 1000000 }) (disch := (first | omega | (simp only [go_sem]; try omega))) only [go_sem, Nat.reduceAdd, Nat.reduceEqDiff, Nat.reduceLeDiff, Nat.reduceMul, Nat.reduceLT, reduceIte, Int.reduceToNat, w64_id, cast_succ, pzl, pc_alive pz])
  refine ACalls.fn (eqDesign_ok _ zn zn gu (ilSS zs) zs zs hu.cell1B.1 rfl hu.rd (rd_ilSS _ _)) ?_
  rw [show (decide (zn = zn) && decide (zs = zs)) = true by simp]
  repeat (first | (with_reducible first | refine SW.seq ?_ | refine SW.block ?_ | refine SW.rowC ?_ | refine SW.skip ?_ | refine SW.exit ?_ | intro _ | refine And.intro (by omega) ?_) | simp (config := { maxSteps := 1000000 }) (disch := (first | omega | (simp only [go_sem]; try omega))) only [go_sem, Nat.reduceAdd, Nat.reduceEqDiff, Nat.reduceLeDiff, Nat.reduceMul, Nat.reduceLT, reduceIte, Int.reduceToNat, w64_id, cast_succ])
  refine SW.condF rfl ?_
  repeat (first | (with_reducible first | refine SW.seq ?_ | refine SW.block ?_ | refine SW.rowC ?_ | refine SW.skip ?_ | refine SW.exit ?_ | refine PFn.use (t1) ?_ | refine PFn.useq (t1) ?_ | intro _ | refine And.intro (by omega) ?_) | simp (config := { maxSteps := 1000000 }) (disch := (first | omega | (simp only [go_sem]; try omega))) only [go_sem, Nat.reduceAdd, Nat.reduceEqDiff, Nat.reduceLeDiff, Nat.reduceMul, Nat.reduceLT, reduceIte, Int.reduceToNat, w64_id, cast_succ, pc_alive px, pc_alive pw, pxl, pal, own.cell1B.1, own.cell1B.2])
  refine QcallW.of (fun ext => eqGroup_ok _ n n v (ilSS els) els els own.cell1B.1 rfl (own.append ext).rd (rd_ilSS _ _)) ?_
  rw [show (decide (n = n) && decide (els = els)) = true by simp]
  repeat (first | (with_reducible first | refine SW.seq ?_ | refine SW.block ?_ | refine SW.rowC ?_ | refine SW.skip ?_ | refine SW.exit ?_ | intro _ | refine And.intro (by omega) ?_) | simp (config := { maxSteps := 1000000 }) (disch := (first | omega | (simp only [go_sem]; try omega))) only [go_sem, Nat.reduceAdd, Nat.reduceEqDiff, Nat.reduceLeDiff, Nat.reduceMul, Nat.reduceLT, reduceIte, Int.reduceToNat, w64_id, cast_succ])
  refine SW.condF rfl ?_
  repeat (first | (with_reducible first | refine SW.seq ?_ | refine SW.block ?_ | refine SW.rowC ?_ | refine SW.skip ?_ | refine SW.exit ?_ | refine PFn.use (t2) ?_ | refine PFn.useq (t2) ?_ | intro _ | refine And.intro (by omega) ?_) | simp (config := { maxSteps := 1000000 }) (disch := (first | omega | (simp only [go_sem]; try omega))) only [go_sem, Nat.reduceAdd, Nat.reduceEqDiff, Nat.reduceLeDiff, Nat.reduceMul, Nat.reduceLT, reduceIte, Int.reduceToNat, w64_id, cast_succ])
  refine ACalls.fn (eqInt64S_ok _ u1 (ilS os) os os own1.rd (rd_ilS _ _)) ?_
  rw [show decide (os = os) = true by simp]
  repeat (first | (with_reducible first | refine SW.seq ?_ | refine SW.block ?_ | refine SW.rowC ?_ | refine SW.skip ?_ | refine SW.exit ?_ | intro _ | refine And.intro (by omega) ?_) | simp (config := { maxSteps := 1000000 }) (disch := (first | omega | (simp only [go_sem]; try omega))) only [go_sem, Nat.reduceAdd, Nat.reduceEqDiff, Nat.reduceLeDiff, Nat.reduceMul, Nat.reduceLT, reduceIte, Int.reduceToNat, w64_id, cast_succ])
  refine SW.condF rfl ?_
  repeat (first | (with_reducible first | refine SW.seq ?_ | refine SW.block ?_ | refine SW.rowC ?_ | refine SW.skip ?_ | refine SW.exit ?_ | intro _ | refine And.intro (by omega) ?_) | simp (config := { maxSteps := 1000000 }) (disch := (first | omega | (simp only [go_sem]; try omega))) only [go_sem, Nat.reduceAdd, Nat.reduceEqDiff, Nat.reduceLeDiff, Nat.reduceMul, Nat.reduceLT, reduceIte, Int.reduceToNat, w64_id, cast_succ, pc_alive px, pxl, own.cell1B.1, own.cell1B.2])
  refine (markGroup_ok _ _ n 1 v els own.cell1B.1 own (by omega) (by omega)).mono ?_
  rintro r H5 ⟨rfl, -, m1, m2⟩
  have hlx3 := (List.getElem?_eq_some_iff.1 px).1
  replace pw := (m2 H.length (by unfold Btw; omega) (by omega)).trans pw
  replace pz := (m2 (H.length + 1) (by unfold Btw; omega) (by omega)).trans pz
  replace pg := (m2 p3 (by unfold Btw; omega) (by omega)).trans pg
  replace hu := hu.same (H' := H5) (fun j b hj hb => by rw [m2 j (by unfold Btw at hj ⊢; omega) (List.getElem?_eq_some_iff.1 hb).1]; exact hb)
  replace own1 := own1.same (H' := H5) (fun j b hj _ hb => by rw [m2 j (by unfold Btw at hj ⊢; omega) (List.getElem?_eq_some_iff.1 hb).1]; exact hb)
  have hl5 := (List.getElem?_eq_some_iff.1 pg).1
  clear own px pxl pal pzl pgl m1 m2
  repeat (first | (with_reducible first | refine SW.seq ?_ | refine SW.block ?_ | refine SW.rowC ?_ | refine SW.skip ?_ | refine SW.exit ?_ | intro _ | refine And.intro (by omega) ?_) | simp (config := { maxSteps := 1000000 }) (disch := (first | omega | (simp only [go_sem]; try omega))) only [go_sem, Nat.reduceAdd, Nat.reduceEqDiff, Nat.reduceLeDiff, Nat.reduceMul, Nat.reduceLT, reduceIte, Int.reduceToNat, w64_id, cast_succ])
  refine (markS_ok _ _ _ _ _ (1 + total els) own1 (by omega) (by omega)).mono ?_
  rintro r H6 ⟨rfl, -, k1, k2⟩
  replace pw := (k2 H.length (by unfold Btw; omega)).trans pw
  replace pz := (k2 (H.length + 1) (by unfold Btw; omega)).trans pz
  replace pg := (k2 p3 (by unfold Btw; omega)).trans pg
  replace hu := hu.same (H' := H6) (fun j b hj hb => by rw [k2 j (by unfold Btw at hj ⊢; omega)]; exact hb)
  clear own1 k1 k2
  have hneg1 : decide ((1 : Int) + total els + os.length < 0) = false := decide_eq_false (by omega)
  have hneg2 : decide ((1 : Int) + total zs < 0) = false := decide_eq_false (by omega)
  have pzl : acells H6 2 (.pc (H.length + 1) 0 0) = some [I zn, ilSS zs] := pc_lds pz (by simp)
  have pgl : acells H6 2 (.pc p3 0 0) = some [I zn, gu] := pc_lds pg (by simp)
  repeat (first | (with_reducible first | refine SW.seq ?_ | refine SW.block ?_ | refine SW.rowC ?_ | refine SW.skip ?_ | refine SW.exit ?_ | intro _ | refine And.intro (by omega) ?_) | simp (config := { maxSteps := 1000000 }) (disch := (first | omega | (simp only [go_sem]; try omega))) only [go_sem, Nat.reduceAdd, Nat.reduceEqDiff, Nat.reduceLeDiff, Nat.reduceMul, Nat.reduceLT, reduceIte, Int.reduceToNat, w64_id, cast_succ, hneg1, pgl, pc_alive pg, pzl, pc_alive pz, hu.cell1B.1, hu.cell1B.2])
  refine ACalls.fn (eqDesign_ok _ zn zn gu (ilSS zs) zs zs hu.cell1B.1 rfl hu.rd (rd_ilSS _ _)) ?_
  rw [show (decide (zn = zn) && decide (zs = zs)) = true by simp]
  repeat (first | (with_reducible first | refine SW.seq ?_ | refine SW.block ?_ | refine SW.rowC ?_ | refine SW.skip ?_ | refine SW.exit ?_ | intro _ | refine And.intro (by omega) ?_) | simp (config := { maxSteps := 1000000 }) (disch := (first | omega | (simp only [go_sem]; try omega))) only [go_sem, Nat.reduceAdd, Nat.reduceEqDiff, Nat.reduceLeDiff, Nat.reduceMul, Nat.reduceLT, reduceIte, Int.reduceToNat, w64_id, cast_succ])
  refine SW.condF rfl ?_
  repeat (first | (with_reducible first | refine SW.seq ?_ | refine SW.block ?_ | refine SW.rowC ?_ | refine SW.skip ?_ | refine SW.exit ?_ | intro _ | refine And.intro (by omega) ?_) | simp (config := { maxSteps := 1000000 }) (disch := (first | omega | (simp only [go_sem]; try omega))) only [go_sem, Nat.reduceAdd, Nat.reduceEqDiff, Nat.reduceLeDiff, Nat.reduceMul, Nat.reduceLT, reduceIte, Int.reduceToNat, w64_id, cast_succ, pgl, pc_alive pg, hu.cell1B.1, hu.cell1B.2])
  refine (markDesign_ok _ _ zn 1 gu zs hu.cell1B.1 hu (by omega) (by omega)).mono ?_
  rintro r H7 ⟨rfl, hu7, q3, q4⟩
  have hl6 := (List.getElem?_eq_some_iff.1 pg).1
  replace pw := (q4 H.length (by unfold Btw; omega) (by omega)).trans pw
  replace pz := (q4 (H.length + 1) (by unfold Btw; omega) (by omega)).trans pz
  replace pg := (q4 p3 (by unfold Btw; omega) (by omega)).trans pg
  clear hu pzl pgl q3 q4
  have pgl : acells H7 2 (.pc p3 0 0) = some [I zn, gu] := pc_lds pg (by simp)
  repeat (first | (with_reducible first | refine SW.seq ?_ | refine SW.block ?_ | refine SW.rowC ?_ | refine SW.skip ?_ | refine SW.exit ?_ | intro _ | refine And.intro (by omega) ?_) | simp (config := { maxSteps := 1000000 }) (disch := (first | omega | (simp only [go_sem]; try omega))) only [go_sem, Nat.reduceAdd, Nat.reduceEqDiff, Nat.reduceLeDiff, Nat.reduceMul, Nat.reduceLT, reduceIte, Int.reduceToNat, w64_id, cast_succ, pgl, pc_alive pg, hu7.cell1B.1, hu7.cell1B.2])
  refine ACalls.fn (heldDesign_ok _ zn 1 gu zs hu7.cell1B.1 hu7.rd (by omega) (by omega)) ?_
  repeat (first | (with_reducible first | refine SW.seq ?_ | refine SW.block ?_ | refine SW.rowC ?_ | refine SW.skip ?_ | refine SW.exit ?_ | intro _ | refine And.intro (by omega) ?_) | simp (config := { maxSteps := 1000000 }) (disch := (first | omega | (simp only [go_sem]; try omega))) only [go_sem, Nat.reduceAdd, Nat.reduceEqDiff, Nat.reduceLeDiff, Nat.reduceMul, Nat.reduceLT, reduceIte, Int.reduceToNat, w64_id, cast_succ, hneg2])
  refine SW.condF rfl ?_
  repeat (first | (with_reducible first | refine SW.seq ?_ | refine SW.block ?_ | refine SW.rowC ?_ | refine SW.skip ?_ | refine SW.exit ?_ | intro _ | refine And.intro (by omega) ?_) | simp (config := { maxSteps := 1000000 }) (disch := (first | omega | (simp only [go_sem]; try omega))) only [go_sem, Nat.reduceAdd, Nat.reduceEqDiff, Nat.reduceLeDiff, Nat.reduceMul, Nat.reduceLT, reduceIte, Int.reduceToNat, w64_id, cast_succ])
  refine SW.condF rfl ?_
  repeat (first | (with_reducible first | refine SW.seq ?_ | refine SW.block ?_ | refine SW.rowC ?_ | refine SW.skip ?_ | refine SW.exit ?_ | refine PFn.use (t1) ?_ | refine PFn.useq (t1) ?_ | refine PFn.use (t2) ?_ | refine PFn.useq (t2) ?_ | intro _ | refine And.intro (by omega) ?_) | simp (config := { maxSteps := 1000000 }) (disch := (first | omega | (simp only [go_sem]; try omega))) only [go_sem, Nat.reduceAdd, Nat.reduceEqDiff, Nat.reduceLeDiff, Nat.reduceMul, Nat.reduceLT, reduceIte, Int.reduceToNat, w64_id, cast_succ, pc_alive pw, show acells H7 2 (.pc H.length 0 0) = some [I n, ilSS els] from pc_lds pw (by simp)])
  refine (hi _).mono ?_
  rintro r H9 ⟨ext3, hw, hH9, rfl, ho9⟩
  replace pz := get_appB2 pz ext3
  replace pg := get_appB2 pg ext3
  replace hu7 := hu7.append ext3
  rw [← hH9] at pz pg hu7
  clear hH9
  have pzl : acells H9 2 (.pc (H.length + 1) 0 0) = some [I zn, ilSS zs] := pc_lds pz (by simp)
  repeat (first | (with_reducible first | refine SW.seq ?_ | refine SW.block ?_ | refine SW.rowC ?_ | refine SW.skip ?_ | refine SW.exit ?_ | intro _ | refine And.intro (by omega) ?_) | simp (config := { maxSteps := 1000000 }) (disch := (first | omega | (simp only [go_sem]; try omega))) only [go_sem, Nat.reduceAdd, Nat.reduceEqDiff, Nat.reduceLeDiff, Nat.reduceMul, Nat.reduceLT, reduceIte, Int.reduceToNat, w64_id, cast_succ, ho9.cell1B.1, ho9.cell1B.2])
  replace pz := get_appB2 pz [(⟨0, tyDX, 1, [I zn, hw]⟩ : Blk)]
  replace pg := get_appB2 pg [(⟨0, tyDX, 1, [I zn, hw]⟩ : Blk)]
  replace hu7 := hu7.append [(⟨0, tyDX, 1, [I zn, hw]⟩ : Blk)]
  replace ho9 := ho9.append [(⟨0, tyDX, 1, [I zn, hw]⟩ : Blk)]
  replace pzl : acells (H9 ++ [(⟨0, tyDX, 1, [I zn, hw]⟩ : Blk)]) 2 (.pc (H.length + 1) 0 0) = some [I zn, ilSS zs] := pc_lds pz (by simp)
  have pgl : acells (H9 ++ [(⟨0, tyDX, 1, [I zn, hw]⟩ : Blk)]) 2 (.pc p3 0 0) = some [I zn, gu] := pc_lds pg (by simp)
  repeat (first | (with_reducible first | refine SW.seq ?_ | refine SW.block ?_ | refine SW.rowC ?_ | refine SW.skip ?_ | refine SW.exit ?_ | intro _ | refine And.intro (by omega) ?_) | simp (config := { maxSteps := 1000000 }) (disch := (first | omega | (simp only [go_sem]; try omega))) only [go_sem, Nat.reduceAdd, Nat.reduceEqDiff, Nat.reduceLeDiff, Nat.reduceMul, Nat.reduceLT, reduceIte, Int.reduceToNat, w64_id, cast_succ, pzl, pc_alive pz, ho9.cell1B.1, ho9.cell1B.2])
  refine ACalls.fn (eqDesign_ok _ zn zn hw (ilSS zs) zs zs ho9.cell1B.1 rfl ho9.rd (rd_ilSS _ _)) ?_
  rw [show (decide (zn = zn) && decide (zs = zs)) = true by simp]
  repeat (first | (with_reducible first | refine SW.seq ?_ | refine SW.block ?_ | refine SW.rowC ?_ | refine SW.skip ?_ | refine SW.exit ?_ | intro _ | refine And.intro (by omega) ?_) | simp (config := { maxSteps := 1000000 }) (disch := (first | omega | (simp only [go_sem]; try omega))) only [go_sem, Nat.reduceAdd, Nat.reduceEqDiff, Nat.reduceLeDiff, Nat.reduceMul, Nat.reduceLT, reduceIte, Int.reduceToNat, w64_id, cast_succ])
  refine SW.condF rfl ?_
  repeat (first | (with_reducible first | refine SW.seq ?_ | refine SW.block ?_ | refine SW.rowC ?_ | refine SW.skip ?_ | refine SW.exit ?_ | intro _ | refine And.intro (by omega) ?_) | simp (config := { maxSteps := 1000000 }) (disch := (first | omega | (simp only [go_sem]; try omega))) only [go_sem, Nat.reduceAdd, Nat.reduceEqDiff, Nat.reduceLeDiff, Nat.reduceMul, Nat.reduceLT, reduceIte, Int.reduceToNat, w64_id, cast_succ, pgl, pc_alive pg, hu7.cell1B.1, hu7.cell1B.2])
  refine ACalls.fn (heldDesign_ok _ zn 1 gu zs hu7.cell1B.1 hu7.rd (by omega) (by omega)) ?_
  repeat (first | (with_reducible first | refine SW.seq ?_ | refine SW.block ?_ | refine SW.rowC ?_ | refine SW.skip ?_ | refine SW.exit ?_ | intro _ | refine And.intro (by omega) ?_) | simp (config := { maxSteps := 1000000 }) (disch := (first | omega | (simp only [go_sem]; try omega))) only [go_sem, Nat.reduceAdd, Nat.reduceEqDiff, Nat.reduceLeDiff, Nat.reduceMul, Nat.reduceLT, reduceIte, Int.reduceToNat, w64_id, cast_succ, hneg2])
  refine SW.condF rfl ?_
  repeat (first | (with_reducible first | refine SW.seq ?_ | refine SW.block ?_ | refine SW.rowC ?_ | refine SW.skip ?_ | refine SW.exit ?_ | intro _ | refine And.intro (by omega) ?_) | simp (config := { maxSteps := 1000000 }) (disch := (first | omega | (simp only [go_sem]; try omega))) only [go_sem, Nat.reduceAdd, Nat.reduceEqDiff, Nat.reduceLeDiff, Nat.reduceMul, Nat.reduceLT, reduceIte, Int.reduceToNat, w64_id, cast_succ])
  refine SW.condF rfl ?_
  repeat (first | (with_reducible first | refine SW.seq ?_ | refine SW.block ?_ | refine SW.rowC ?_ | refine SW.skip ?_ | refine SW.exit ?_ | intro _ | refine And.intro (by omega) ?_) | simp (config := { maxSteps := 1000000 }) (disch := (first | omega | (simp only [go_sem]; try omega))) only [go_sem, Nat.reduceAdd, Nat.reduceEqDiff, Nat.reduceLeDiff, Nat.reduceMul, Nat.reduceLT, reduceIte, Int.reduceToNat, w64_id, cast_succ])
  refine SW.ret ?_; (try simp only [go_sem]); (first | refine FunPost.one ?_ | refine FunPost.two ?_ | refine FunPost.three ?_); (try simp (config := { maxSteps := 1000000 }) (disch := (first | omega | (simp only [go_sem]; try omega))) only [go_sem, Nat.reduceAdd, Nat.reduceEqDiff, Nat.reduceLeDiff, Nat.reduceMul, Nat.reduceLT, reduceIte, Int.reduceToNat, w64_id, cast_succ])
  exact GR.of rfl
end Go.Proofs.YtkifdjjnbplghaaGreat
