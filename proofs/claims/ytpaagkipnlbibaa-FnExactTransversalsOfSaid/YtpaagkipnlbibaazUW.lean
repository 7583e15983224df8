/- Transversals: the law. -/
import Derived.Test.YtpaagkipnlbibaaProg
import Derived.KernelRfl
import Derived.Test.YtpaagkipnlbibaazUT
import Derived.Test.YtpaagkipnlbibaazUH
set_option linter.unusedSimpArgs false
set_option linter.unusedVariables false
set_option maxHeartbeats 4000000
set_option maxRecDepth 100000
namespace Go.Proofs.Ytpaagkipnlbibaa
open Go.Av
abbrev f_laws_FnExactTransversalsOf : Nat := 4
def c_laws_FnExactTransversalsOf : SC :=
 .seq (.reg [
     ⟨(some 6), .mv (.const (.bool false)), none⟩] [0, 1, 2])
 (.seq (.reg [
     ⟨(some 7), .mv (.const (.int .i64 1048576)), none⟩] [0, 1, 2, 7])
 (.seq (.reg [
     ⟨(some 18), .mv (.tmp 0), none⟩,
     ⟨(some 19), .mv (.tmp 7), none⟩,
     ⟨(some 20), .call 11 [(.tmp 18), (.tmp 19)], none⟩,
     ⟨(some 7), .mv (.tmp 20), none⟩] [0, 1, 2, 7])
 (.seq (.seq (.reg [
     ⟨(some 21), .mv (.tmp 7), none⟩,
     ⟨(some 22), .bin .lss (.tmp 21) (.const (.int .i64 0)), none⟩] [0, 1, 2, 22])
 (.cond (.tmp 22)
  (.seq (.reg [
      ⟨(some 6), .mv (.const (.bool true)), none⟩] [6])
  (.ret))
  (.skip)))
 (.seq (.reg [
     ⟨(some 24), .mv (.tmp 0), none⟩,
     ⟨(some 25), .call 13 [(.tmp 24)], none⟩,
     ⟨(some 26), .mv (.tmp 1), none⟩,
     ⟨(some 27), .mv (.tmp 2), none⟩,
     ⟨(some 28), .call 12 [(.tmp 25), (.tmp 26), (.tmp 27)], none⟩,
     ⟨(some 23), .mv (.tmp 28), none⟩,
     ⟨(some 29), .ext (.tmp 23) 0, none⟩,
     ⟨(some 30), .ext (.tmp 23) 1, none⟩,
     ⟨(some 8), .mv (.tmp 29), none⟩,
     ⟨(some 9), .mv (.tmp 30), none⟩] [0, 1, 2, 8, 9])
 (.seq (.reg [
     ⟨(some 31), .mv (.tmp 0), none⟩,
     ⟨(some 32), .call 13 [(.tmp 31)], none⟩,
     ⟨(some 10), .mv (.tmp 32), none⟩] [0, 1, 2, 8, 9, 10])
 (.seq (.reg [
     ⟨(some 34), .mv (.tmp 10), none⟩,
     ⟨(some 35), .mv (.tmp 1), none⟩,
     ⟨(some 36), .mv (.tmp 2), none⟩,
     ⟨(some 37), .call 14 [(.tmp 34), (.tmp 35), (.tmp 36)], none⟩,
     ⟨(some 33), .mv (.tmp 37), none⟩,
     ⟨(some 38), .ext (.tmp 33) 0, none⟩,
     ⟨(some 39), .ext (.tmp 33) 1, none⟩,
     ⟨(some 11), .mv (.tmp 38), none⟩,
     ⟨(some 12), .mv (.tmp 39), none⟩] [0, 1, 2, 8, 9, 10, 11, 12])
 (.seq (.seq (.reg [
     ⟨(some 40), .mv (.tmp 11), none⟩,
     ⟨(some 41), .mv (.tmp 8), none⟩,
     ⟨(some 42), .call 15 [(.tmp 40), (.tmp 41)], none⟩,
     ⟨(some 43), .un .not (.tmp 42), none⟩,
     ⟨(some 44), .mv (.tmp 43), none⟩,
     ⟨(some 45), .mv (.tmp 12), (some (44, false))⟩,
     ⟨(some 46), .mv (.tmp 9), (some (44, false))⟩,
     ⟨(some 47), .bin .neq (.tmp 45) (.tmp 46), (some (44, false))⟩,
     ⟨(some 48), .pick (.tmp 44) (.const (.bool true)) (.tmp 47), none⟩] [0, 1, 2, 8, 9, 10, 11, 12, 48])
 (.cond (.tmp 48)
  (.seq (.reg [
      ⟨(some 6), .mv (.const (.bool false)), none⟩] [6])
  (.ret))
  (.skip)))
 (.seq (.seq (.reg [
     ⟨(some 49), .mv (.tmp 10), none⟩,
     ⟨(some 50), .mv (.tmp 0), none⟩,
     ⟨(some 51), .call 13 [(.tmp 50)], none⟩,
     ⟨(some 52), .call 15 [(.tmp 49), (.tmp 51)], none⟩,
     ⟨(some 53), .un .not (.tmp 52), none⟩] [0, 1, 2, 8, 9, 10, 11, 12, 53])
 (.cond (.tmp 53)
  (.seq (.reg [
      ⟨(some 6), .mv (.const (.bool false)), none⟩] [6])
  (.ret))
  (.skip)))
 (.seq (.reg [
     ⟨(some 13), .mv (.const (.int .i64 1)), none⟩] [0, 1, 2, 8, 9, 10, 11, 12, 13])
 (.seq (.reg [
     ⟨(some 54), .mv (.tmp 10), none⟩,
     ⟨(some 55), .mv (.tmp 13), none⟩,
     ⟨(some 56), .call 16 [(.tmp 54), (.tmp 55)], none⟩,
     ⟨(some 13), .mv (.tmp 56), none⟩] [0, 1, 2, 8, 9, 11, 12, 13])
 (.seq (.seq (.reg [
     ⟨(some 57), .mv (.tmp 13), none⟩,
     ⟨(some 58), .bin .lss (.tmp 57) (.const (.int .i64 0)), none⟩,
     ⟨(some 59), .mv (.tmp 58), none⟩,
     ⟨(some 60), .mv (.tmp 11), (some (59, false))⟩,
     ⟨(some 61), .mv (.tmp 8), (some (59, false))⟩,
     ⟨(some 62), .call 15 [(.tmp 60), (.tmp 61)], (some (59, false))⟩,
     ⟨(some 63), .un .not (.tmp 62), (some (59, false))⟩,
     ⟨(some 64), .pick (.tmp 59) (.const (.bool true)) (.tmp 63), none⟩,
     ⟨(some 65), .mv (.tmp 64), none⟩,
     ⟨(some 66), .mv (.tmp 12), (some (65, false))⟩,
     ⟨(some 67), .mv (.tmp 9), (some (65, false))⟩,
     ⟨(some 68), .bin .neq (.tmp 66) (.tmp 67), (some (65, false))⟩,
     ⟨(some 69), .pick (.tmp 65) (.const (.bool true)) (.tmp 68), none⟩] [0, 1, 2, 8, 9, 11, 69])
 (.cond (.tmp 69)
  (.seq (.reg [
      ⟨(some 6), .mv (.const (.bool false)), none⟩] [6])
  (.ret))
  (.skip)))
 (.seq (.reg [
     ⟨(some 14), .mv (.const (.int .i64 1)), none⟩] [0, 1, 2, 8, 9, 11, 14])
 (.seq (.reg [
     ⟨(some 70), .mv (.tmp 11), none⟩,
     ⟨(some 71), .mv (.tmp 14), none⟩,
     ⟨(some 72), .call 16 [(.tmp 70), (.tmp 71)], none⟩,
     ⟨(some 14), .mv (.tmp 72), none⟩] [0, 1, 2, 8, 9, 11, 14])
 (.seq (.reg [
     ⟨(some 15), .mv (.const (.int .i64 1)), none⟩] [0, 1, 2, 8, 9, 11, 14, 15])
 (.seq (.reg [
     ⟨(some 73), .mv (.tmp 11), none⟩,
     ⟨(some 74), .mv (.tmp 15), none⟩,
     ⟨(some 75), .call 17 [(.tmp 73), (.tmp 74)], none⟩,
     ⟨(some 15), .mv (.tmp 75), none⟩] [0, 1, 2, 8, 9, 11, 14, 15])
 (.seq (.seq (.reg [
     ⟨(some 76), .mv (.tmp 15), none⟩,
     ⟨(some 77), .bin .lss (.tmp 76) (.const (.int .i64 0)), none⟩] [0, 1, 2, 8, 9, 11, 14, 15, 77])
 (.cond (.tmp 77)
  (.seq (.reg [
      ⟨(some 6), .mv (.const (.bool false)), none⟩] [6])
  (.ret))
  (.skip)))
 (.seq (.seq (.reg [
     ⟨(some 78), .mv (.tmp 15), none⟩,
     ⟨(some 79), .mv (.tmp 14), none⟩,
     ⟨(some 80), .bin .neq (.tmp 78) (.tmp 79), none⟩] [0, 1, 2, 8, 9, 11, 14, 80])
 (.cond (.tmp 80)
  (.seq (.reg [
      ⟨(some 6), .mv (.const (.bool false)), none⟩] [6])
  (.ret))
  (.skip)))
 (.seq (.reg [
     ⟨(some 82), .mv (.tmp 0), none⟩,
     ⟨(some 83), .call 13 [(.tmp 82)], none⟩,
     ⟨(some 84), .mv (.tmp 1), none⟩,
     ⟨(some 85), .mv (.tmp 2), none⟩,
     ⟨(some 86), .call 14 [(.tmp 83), (.tmp 84), (.tmp 85)], none⟩,
     ⟨(some 81), .mv (.tmp 86), none⟩,
     ⟨(some 87), .ext (.tmp 81) 0, none⟩,
     ⟨(some 88), .ext (.tmp 81) 1, none⟩,
     ⟨(some 16), .mv (.tmp 87), none⟩,
     ⟨(some 17), .mv (.tmp 88), none⟩] [8, 9, 11, 14, 16, 17])
 (.seq (.seq (.reg [
     ⟨(some 89), .mv (.tmp 16), none⟩,
     ⟨(some 90), .mv (.tmp 8), none⟩,
     ⟨(some 91), .call 15 [(.tmp 89), (.tmp 90)], none⟩,
     ⟨(some 92), .un .not (.tmp 91), none⟩,
     ⟨(some 93), .mv (.tmp 92), none⟩,
     ⟨(some 94), .mv (.tmp 17), (some (93, false))⟩,
     ⟨(some 95), .mv (.tmp 9), (some (93, false))⟩,
     ⟨(some 96), .bin .neq (.tmp 94) (.tmp 95), (some (93, false))⟩,
     ⟨(some 97), .pick (.tmp 93) (.const (.bool true)) (.tmp 96), none⟩] [11, 14, 97])
 (.cond (.tmp 97)
  (.seq (.reg [
      ⟨(some 6), .mv (.const (.bool false)), none⟩] [6])
  (.ret))
  (.skip)))
 (.seq (.reg [
     ⟨(some 15), .mv (.const (.int .i64 1)), none⟩] [11, 14, 15])
 (.seq (.reg [
     ⟨(some 98), .mv (.tmp 11), none⟩,
     ⟨(some 99), .mv (.tmp 15), none⟩,
     ⟨(some 100), .call 17 [(.tmp 98), (.tmp 99)], none⟩,
     ⟨(some 15), .mv (.tmp 100), none⟩] [14, 15])
 (.seq (.seq (.reg [
     ⟨(some 101), .mv (.tmp 15), none⟩,
     ⟨(some 102), .bin .lss (.tmp 101) (.const (.int .i64 0)), none⟩] [14, 15, 102])
 (.cond (.tmp 102)
  (.seq (.reg [
      ⟨(some 6), .mv (.const (.bool false)), none⟩] [6])
  (.ret))
  (.skip)))
 (.seq (.seq (.reg [
     ⟨(some 103), .mv (.tmp 15), none⟩,
     ⟨(some 104), .mv (.tmp 14), none⟩,
     ⟨(some 105), .bin .neq (.tmp 103) (.tmp 104), none⟩] [105])
 (.cond (.tmp 105)
  (.seq (.reg [
      ⟨(some 6), .mv (.const (.bool false)), none⟩] [6])
  (.ret))
  (.skip)))
 (.seq (.reg [
     ⟨(some 6), .mv (.const (.bool true)), none⟩] [6])
 (.ret)))))))))))))))))))))))))
theorem s_laws_FnExactTransversalsOf : stripF Try.prog 4 [[0, 1, 2], [0, 1, 2, 7], [0, 1, 2, 7], [0, 1, 2, 22], [6], [0, 1, 2, 8, 9], [0, 1, 2, 8, 9, 10], [0, 1, 2, 8, 9, 10, 11, 12], [0, 1, 2, 8, 9, 10, 11, 12, 48], [6], [0, 1, 2, 8, 9, 10, 11, 12, 53], [6], [0, 1, 2, 8, 9, 10, 11, 12, 13], [0, 1, 2, 8, 9, 11, 12, 13], [0, 1, 2, 8, 9, 11, 69], [6], [0, 1, 2, 8, 9, 11, 14], [0, 1, 2, 8, 9, 11, 14], [0, 1, 2, 8, 9, 11, 14, 15], [0, 1, 2, 8, 9, 11, 14, 15], [0, 1, 2, 8, 9, 11, 14, 15, 77], [6], [0, 1, 2, 8, 9, 11, 14, 80], [6], [8, 9, 11, 14, 16, 17], [11, 14, 97], [6], [11, 14, 15], [14, 15], [14, 15, 102], [6], [105], [6], [6]] = some (c_laws_FnExactTransversalsOf, [.tmp 6], 106) := by kernel_rfl
theorem total_geT {x : List Int} : ∀ {xss : List (List Int)}, x ∈ xss → x.length ≤ total xss
  | y :: r, h => by
    rw [total_cons]
    rcases List.mem_cons.1 h with rfl | h
    · omega
    · have := total_geT h; omega
theorem total_small {n : Nat} : ∀ {xss : List (List Int)}, (∀ r ∈ xss, r.length ≤ n) → total xss ≤ xss.length * n
  | [], _ => by simp [total]
  | y :: r, h => by
    have h1 := total_small (xss := r) (fun z hz => h z (by simp [hz]))
    have h2 := h y (by simp)
    rw [total_cons, List.length_cons, Nat.add_mul]
    omega
theorem trV_total (a : List (List Int)) (lim b : Int) : total (trV a lim b).1 ≤ 1000 := by
  have h := trV_small a lim b
  have h1 := total_small h.2
  have := Nat.mul_le_mul_right 10 h.1
  omega
theorem lawTransversalsOf_ok (H : List Blk) (xss : List (List Int)) (lim : Int) (b : Int) (hx : ∀ xs ∈ xss, ∀ x ∈ xs, (Lit.int .i64 x).wf = true) : ACalls Try.prog f_laws_FnExactTransversalsOf [ilSS xss, I lim, I b] H (fun r _ => r = Bv true) := by
  have hs := specTr_fn xss lim b
  have hi0 := implTr_fss xss lim b
  have hlen := trV_total xss lim b
  generalize (trV xss lim b).1 = zss at *
  generalize (trV xss lim b).2 = code at *
  refine ACalls.introB s_laws_FnExactTransversalsOf (by simp) ?_; intro hB hA; unfold c_laws_FnExactTransversalsOf; simp (config := { maxSteps := 1000000 }) (disch := (first | omega | (simp only [go_sem]; try omega))) only [go_sem, Nat.reduceAdd, Nat.reduceEqDiff, Nat.reduceLeDiff, Nat.reduceMul, Nat.reduceLT, reduceIte, Int.reduceToNat, w64_id, cast_succ]
  repeat (first | (with_reducible first | refine SW.seq ?_ | refine SW.block ?_ | refine SW.rowC ?_ | refine SW.skip ?_ | refine SW.exit ?_ | intro _ | refine And.intro (by omega) ?_) | simp (config := { maxSteps := 1000000 }) (disch := (first | omega | (simp only [go_sem]; try omega))) only [go_sem, Nat.reduceAdd, Nat.reduceEqDiff, Nat.reduceLeDiff, Nat.reduceMul, Nat.reduceLT, reduceIte, Int.reduceToNat, w64_id, cast_succ])
  refine (szInt64SS_ok _ _ xss _ (rd_ilSS _ _) (by omega) (by omega)).mono ?_
  rintro r H' ⟨⟨z, rfl, g1, g2, g3⟩, rfl⟩
  repeat (first | (with_reducible first | refine SW.seq ?_ | refine SW.block ?_ | refine SW.rowC ?_ | refine SW.skip ?_ | refine SW.exit ?_ | intro _ | refine And.intro (by omega) ?_) | simp (config := { maxSteps := 1000000 }) (disch := (first | omega | (simp only [go_sem]; try omega))) only [go_sem, Nat.reduceAdd, Nat.reduceEqDiff, Nat.reduceLeDiff, Nat.reduceMul, Nat.reduceLT, reduceIte, Int.reduceToNat, w64_id, cast_succ])
  (first | refine SW.condD rfl (fun h2 => ?_) (fun h2 => ?_) | refine SW.condN rfl (fun h2 => ?_) (fun h2 => ?_) | refine SW.condNB rfl (fun h2 => ?_) (fun h2 => ?_) | refine SW.condB rfl (fun h2 => ?_) (fun h2 => ?_))
  · repeat (first | (with_reducible first | refine SW.seq ?_ | refine SW.block ?_ | refine SW.rowC ?_ | refine SW.skip ?_ | refine SW.exit ?_ | intro _ | refine And.intro (by omega) ?_) | simp (config := { maxSteps := 1000000 }) (disch := (first | omega | (simp only [go_sem]; try omega))) only [go_sem, Nat.reduceAdd, Nat.reduceEqDiff, Nat.reduceLeDiff, Nat.reduceMul, Nat.reduceLT, reduceIte, Int.reduceToNat, w64_id, cast_succ])
    refine SW.ret ?_; (try simp only [go_sem]); (first | refine FunPost.one ?_ | refine FunPost.two ?_ | refine FunPost.three ?_); (try simp (config := { maxSteps := 1000000 }) (disch := (first | omega | (simp only [go_sem]; try omega))) only [go_sem, Nat.reduceAdd, Nat.reduceEqDiff, Nat.reduceLeDiff, Nat.reduceMul, Nat.reduceLT, reduceIte, Int.reduceToNat, w64_id, cast_succ])
    exact GR.of rfl
  have hsx := small_rows (by omega) (g3 (by omega)) (by omega)
  have t1 := toInt64SS_fn xss hsx.1 hsx.2
  have htot : total xss ≤ 1073741824 := by have := g3 (by omega); omega
  have hi := hi0 (fun x hx => by
    have h1 : x.length ≤ total xss := total_geT hx
    have := g3 (by omega); omega)
  repeat (first | (with_reducible first | refine SW.seq ?_ | refine SW.block ?_ | refine SW.rowC ?_ | refine SW.skip ?_ | refine SW.exit ?_ | intro _ | refine And.intro (by omega) ?_) | simp (config := { maxSteps := 1000000 }) (disch := (first | omega | (simp only [go_sem]; try omega))) only [go_sem, Nat.reduceAdd, Nat.reduceEqDiff, Nat.reduceLeDiff, Nat.reduceMul, Nat.reduceLT, reduceIte, Int.reduceToNat, w64_id, cast_succ])
  refine ACalls.fn (t1 _) ?_
  repeat (first | (with_reducible first | refine SW.seq ?_ | refine SW.block ?_ | refine SW.rowC ?_ | refine SW.skip ?_ | refine SW.exit ?_ | refine PFn.use (hs) ?_ | refine PFn.useq (hs) ?_ | intro _ | refine And.intro (by omega) ?_) | simp (config := { maxSteps := 1000000 }) (disch := (first | omega | (simp only [go_sem]; try omega))) only [go_sem, Nat.reduceAdd, Nat.reduceEqDiff, Nat.reduceLeDiff, Nat.reduceMul, Nat.reduceLT, reduceIte, Int.reduceToNat, w64_id, cast_succ])
  refine (toInt64SS_ok _ _ xss (rd_ilSS _ _) hsx.1 hsx.2).mono ?_
  rintro r H1 ⟨rfl, hH1⟩
  have own := fss_own (H := H') xss
  rw [← hH1] at own
  have hlt : H'.length ≤ H1.length := by rw [hH1]; simp
  clear hH1
  generalize (AV.nm H'.length 0 0 xss.length) = v0 at *
  repeat (first | (with_reducible first | refine SW.seq ?_ | refine SW.block ?_ | refine SW.rowC ?_ | refine SW.skip ?_ | refine SW.exit ?_ | intro _ | refine And.intro (by omega) ?_) | simp (config := { maxSteps := 1000000 }) (disch := (first | omega | (simp only [go_sem]; try omega))) only [go_sem, Nat.reduceAdd, Nat.reduceEqDiff, Nat.reduceLeDiff, Nat.reduceMul, Nat.reduceLT, reduceIte, Int.reduceToNat, w64_id, cast_succ, own.oneU.1, own.oneU.2])
  refine (hi.lend (.cons (own.froz (fun r _ => Nat.zero_le _)) (.cons (froz_I' _) (.cons (froz_I' _) .nil)))).mono ?_
  rintro r H3 ⟨ext2, u, hH3, rfl, ho⟩
  replace own := own.append ext2
  rw [← hH3] at own
  have hl3 : H1.length ≤ H3.length := by rw [hH3]; simp
  clear hH3
  repeat (first | (with_reducible first | refine SW.seq ?_ | refine SW.block ?_ | refine SW.rowC ?_ | refine SW.skip ?_ | refine SW.exit ?_ | intro _ | refine And.intro (by omega) ?_) | simp (config := { maxSteps := 1000000 }) (disch := (first | omega | (simp only [go_sem]; try omega))) only [go_sem, Nat.reduceAdd, Nat.reduceEqDiff, Nat.reduceLeDiff, Nat.reduceMul, Nat.reduceLT, reduceIte, Int.reduceToNat, w64_id, cast_succ])
  refine ACalls.fn (eqInt64SS_ok _ _ _ _ _ ho.rd (rd_ilSS _ _)) ?_
  repeat (first | (with_reducible first | refine SW.seq ?_ | refine SW.block ?_ | refine SW.rowC ?_ | refine SW.skip ?_ | refine SW.exit ?_ | intro _ | refine And.intro (by omega) ?_) | simp (config := { maxSteps := 1000000 }) (disch := (first | omega | (simp only [go_sem]; try omega))) only [go_sem, Nat.reduceAdd, Nat.reduceEqDiff, Nat.reduceLeDiff, Nat.reduceMul, Nat.reduceLT, reduceIte, Int.reduceToNat, w64_id, cast_succ])
  refine SW.condF rfl ?_
  repeat (first | (with_reducible first | refine SW.seq ?_ | refine SW.block ?_ | refine SW.rowC ?_ | refine SW.skip ?_ | refine SW.exit ?_ | intro _ | refine And.intro (by omega) ?_) | simp (config := { maxSteps := 1000000 }) (disch := (first | omega | (simp only [go_sem]; try omega))) only [go_sem, Nat.reduceAdd, Nat.reduceEqDiff, Nat.reduceLeDiff, Nat.reduceMul, Nat.reduceLT, reduceIte, Int.reduceToNat, w64_id, cast_succ])
  refine ACalls.fn (t1 _) ?_
  repeat (first | (with_reducible first | refine SW.seq ?_ | refine SW.block ?_ | refine SW.rowC ?_ | refine SW.skip ?_ | refine SW.exit ?_ | intro _ | refine And.intro (by omega) ?_) | simp (config := { maxSteps := 1000000 }) (disch := (first | omega | (simp only [go_sem]; try omega))) only [go_sem, Nat.reduceAdd, Nat.reduceEqDiff, Nat.reduceLeDiff, Nat.reduceMul, Nat.reduceLT, reduceIte, Int.reduceToNat, w64_id, cast_succ])
  refine ACalls.fn (eqInt64SS_ok _ _ _ xss xss own.rd (rd_ilSS _ _)) ?_
  rw [show decide (xss = xss) = true by simp]
  repeat (first | (with_reducible first | refine SW.seq ?_ | refine SW.block ?_ | refine SW.rowC ?_ | refine SW.skip ?_ | refine SW.exit ?_ | intro _ | refine And.intro (by omega) ?_) | simp (config := { maxSteps := 1000000 }) (disch := (first | omega | (simp only [go_sem]; try omega))) only [go_sem, Nat.reduceAdd, Nat.reduceEqDiff, Nat.reduceLeDiff, Nat.reduceMul, Nat.reduceLT, reduceIte, Int.reduceToNat, w64_id, cast_succ])
  refine SW.condF rfl ?_
  repeat (first | (with_reducible first | refine SW.seq ?_ | refine SW.block ?_ | refine SW.rowC ?_ | refine SW.skip ?_ | refine SW.exit ?_ | intro _ | refine And.intro (by omega) ?_) | simp (config := { maxSteps := 1000000 }) (disch := (first | omega | (simp only [go_sem]; try omega))) only [go_sem, Nat.reduceAdd, Nat.reduceEqDiff, Nat.reduceLeDiff, Nat.reduceMul, Nat.reduceLT, reduceIte, Int.reduceToNat, w64_id, cast_succ])
  refine (markInt64SS_ok _ _ _ xss 1 own (by omega) (by omega)).mono ?_
  rintro r H4 ⟨rfl, -, m0, m2⟩
  replace ho := ho.same (H' := H4) (fun j b hj hb => by rw [m2 j (by unfold Btw at hj ⊢; omega)]; exact hb)
  have hneg1 : decide ((1 : Int) + total xss < 0) = false := decide_eq_false (by omega)
  have hneg2 : decide ((1 : Int) + total zss < 0) = false := decide_eq_false (by omega)
  repeat (first | (with_reducible first | refine SW.seq ?_ | refine SW.block ?_ | refine SW.rowC ?_ | refine SW.skip ?_ | refine SW.exit ?_ | intro _ | refine And.intro (by omega) ?_) | simp (config := { maxSteps := 1000000 }) (disch := (first | omega | (simp only [go_sem]; try omega))) only [go_sem, Nat.reduceAdd, Nat.reduceEqDiff, Nat.reduceLeDiff, Nat.reduceMul, Nat.reduceLT, reduceIte, Int.reduceToNat, w64_id, cast_succ, hneg1])
  refine ACalls.fn (eqInt64SS_ok _ _ _ _ _ ho.rd (rd_ilSS _ _)) ?_
  repeat (first | (with_reducible first | refine SW.seq ?_ | refine SW.block ?_ | refine SW.rowC ?_ | refine SW.skip ?_ | refine SW.exit ?_ | intro _ | refine And.intro (by omega) ?_) | simp (config := { maxSteps := 1000000 }) (disch := (first | omega | (simp only [go_sem]; try omega))) only [go_sem, Nat.reduceAdd, Nat.reduceEqDiff, Nat.reduceLeDiff, Nat.reduceMul, Nat.reduceLT, reduceIte, Int.reduceToNat, w64_id, cast_succ])
  refine SW.condF rfl ?_
  repeat (first | (with_reducible first | refine SW.seq ?_ | refine SW.block ?_ | refine SW.rowC ?_ | refine SW.skip ?_ | refine SW.exit ?_ | intro _ | refine And.intro (by omega) ?_) | simp (config := { maxSteps := 1000000 }) (disch := (first | omega | (simp only [go_sem]; try omega))) only [go_sem, Nat.reduceAdd, Nat.reduceEqDiff, Nat.reduceLeDiff, Nat.reduceMul, Nat.reduceLT, reduceIte, Int.reduceToNat, w64_id, cast_succ])
  refine (markInt64SS_ok _ _ _ zss 1 ho (by omega) (by omega)).mono ?_
  rintro r H5 ⟨rfl, ho5, n1, n2⟩
  repeat (first | (with_reducible first | refine SW.seq ?_ | refine SW.block ?_ | refine SW.rowC ?_ | refine SW.skip ?_ | refine SW.exit ?_ | intro _ | refine And.intro (by omega) ?_) | simp (config := { maxSteps := 1000000 }) (disch := (first | omega | (simp only [go_sem]; try omega))) only [go_sem, Nat.reduceAdd, Nat.reduceEqDiff, Nat.reduceLeDiff, Nat.reduceMul, Nat.reduceLT, reduceIte, Int.reduceToNat, w64_id, cast_succ])
  refine ACalls.fn (heldInt64SS_ok _ _ zss 1 ho5.rd (by omega) (by omega)) ?_
  repeat (first | (with_reducible first | refine SW.seq ?_ | refine SW.block ?_ | refine SW.rowC ?_ | refine SW.skip ?_ | refine SW.exit ?_ | intro _ | refine And.intro (by omega) ?_) | simp (config := { maxSteps := 1000000 }) (disch := (first | omega | (simp only [go_sem]; try omega))) only [go_sem, Nat.reduceAdd, Nat.reduceEqDiff, Nat.reduceLeDiff, Nat.reduceMul, Nat.reduceLT, reduceIte, Int.reduceToNat, w64_id, cast_succ, hneg2])
  refine SW.condF rfl ?_
  repeat (first | (with_reducible first | refine SW.seq ?_ | refine SW.block ?_ | refine SW.rowC ?_ | refine SW.skip ?_ | refine SW.exit ?_ | intro _ | refine And.intro (by omega) ?_) | simp (config := { maxSteps := 1000000 }) (disch := (first | omega | (simp only [go_sem]; try omega))) only [go_sem, Nat.reduceAdd, Nat.reduceEqDiff, Nat.reduceLeDiff, Nat.reduceMul, Nat.reduceLT, reduceIte, Int.reduceToNat, w64_id, cast_succ])
  refine SW.condF rfl ?_
  repeat (first | (with_reducible first | refine SW.seq ?_ | refine SW.block ?_ | refine SW.rowC ?_ | refine SW.skip ?_ | refine SW.exit ?_ | intro _ | refine And.intro (by omega) ?_) | simp (config := { maxSteps := 1000000 }) (disch := (first | omega | (simp only [go_sem]; try omega))) only [go_sem, Nat.reduceAdd, Nat.reduceEqDiff, Nat.reduceLeDiff, Nat.reduceMul, Nat.reduceLT, reduceIte, Int.reduceToNat, w64_id, cast_succ])
  refine ACalls.fn (t1 _) ?_
  repeat (first | (with_reducible first | refine SW.seq ?_ | refine SW.block ?_ | refine SW.rowC ?_ | refine SW.skip ?_ | refine SW.exit ?_ | intro _ | refine And.intro (by omega) ?_) | simp (config := { maxSteps := 1000000 }) (disch := (first | omega | (simp only [go_sem]; try omega))) only [go_sem, Nat.reduceAdd, Nat.reduceEqDiff, Nat.reduceLeDiff, Nat.reduceMul, Nat.reduceLT, reduceIte, Int.reduceToNat, w64_id, cast_succ])
  refine (hi _).mono ?_
  rintro r H6 ⟨ext3, u3, rfl, rfl, ho6⟩
  repeat (first | (with_reducible first | refine SW.seq ?_ | refine SW.block ?_ | refine SW.rowC ?_ | refine SW.skip ?_ | refine SW.exit ?_ | intro _ | refine And.intro (by omega) ?_) | simp (config := { maxSteps := 1000000 }) (disch := (first | omega | (simp only [go_sem]; try omega))) only [go_sem, Nat.reduceAdd, Nat.reduceEqDiff, Nat.reduceLeDiff, Nat.reduceMul, Nat.reduceLT, reduceIte, Int.reduceToNat, w64_id, cast_succ])
  refine ACalls.fn (eqInt64SS_ok _ _ _ _ _ ho6.rd (rd_ilSS _ _)) ?_
  repeat (first | (with_reducible first | refine SW.seq ?_ | refine SW.block ?_ | refine SW.rowC ?_ | refine SW.skip ?_ | refine SW.exit ?_ | intro _ | refine And.intro (by omega) ?_) | simp (config := { maxSteps := 1000000 }) (disch := (first | omega | (simp only [go_sem]; try omega))) only [go_sem, Nat.reduceAdd, Nat.reduceEqDiff, Nat.reduceLeDiff, Nat.reduceMul, Nat.reduceLT, reduceIte, Int.reduceToNat, w64_id, cast_succ])
  refine SW.condF rfl ?_
  repeat (first | (with_reducible first | refine SW.seq ?_ | refine SW.block ?_ | refine SW.rowC ?_ | refine SW.skip ?_ | refine SW.exit ?_ | intro _ | refine And.intro (by omega) ?_) | simp (config := { maxSteps := 1000000 }) (disch := (first | omega | (simp only [go_sem]; try omega))) only [go_sem, Nat.reduceAdd, Nat.reduceEqDiff, Nat.reduceLeDiff, Nat.reduceMul, Nat.reduceLT, reduceIte, Int.reduceToNat, w64_id, cast_succ])
  refine ACalls.fn (heldInt64SS_ok _ _ zss 1 (ho5.append _).rd (by omega) (by omega)) ?_
  repeat (first | (with_reducible first | refine SW.seq ?_ | refine SW.block ?_ | refine SW.rowC ?_ | refine SW.skip ?_ | refine SW.exit ?_ | intro _ | refine And.intro (by omega) ?_) | simp (config := { maxSteps := 1000000 }) (disch := (first | omega | (simp only [go_sem]; try omega))) only [go_sem, Nat.reduceAdd, Nat.reduceEqDiff, Nat.reduceLeDiff, Nat.reduceMul, Nat.reduceLT, reduceIte, Int.reduceToNat, w64_id, cast_succ, hneg2])
  refine SW.condF rfl ?_
  repeat (first | (with_reducible first | refine SW.seq ?_ | refine SW.block ?_ | refine SW.rowC ?_ | refine SW.skip ?_ | refine SW.exit ?_ | intro _ | refine And.intro (by omega) ?_) | simp (config := { maxSteps := 1000000 }) (disch := (first | omega | (simp only [go_sem]; try omega))) only [go_sem, Nat.reduceAdd, Nat.reduceEqDiff, Nat.reduceLeDiff, Nat.reduceMul, Nat.reduceLT, reduceIte, Int.reduceToNat, w64_id, cast_succ])
  refine SW.condF rfl ?_
  repeat (first | (with_reducible first | refine SW.seq ?_ | refine SW.block ?_ | refine SW.rowC ?_ | refine SW.skip ?_ | refine SW.exit ?_ | intro _ | refine And.intro (by omega) ?_) | simp (config := { maxSteps := 1000000 }) (disch := (first | omega | (simp only [go_sem]; try omega))) only [go_sem, Nat.reduceAdd, Nat.reduceEqDiff, Nat.reduceLeDiff, Nat.reduceMul, Nat.reduceLT, reduceIte, Int.reduceToNat, w64_id, cast_succ])
  refine SW.ret ?_; (try simp only [go_sem]); (first | refine FunPost.one ?_ | refine FunPost.two ?_ | refine FunPost.three ?_); (try simp (config := { maxSteps := 1000000 }) (disch := (first | omega | (simp only [go_sem]; try omega))) only [go_sem, Nat.reduceAdd, Nat.reduceEqDiff, Nat.reduceLeDiff, Nat.reduceMul, Nat.reduceLT, reduceIte, Int.reduceToNat, w64_id, cast_succ])
  exact GR.of rfl
end Go.Proofs.Ytpaagkipnlbibaa
