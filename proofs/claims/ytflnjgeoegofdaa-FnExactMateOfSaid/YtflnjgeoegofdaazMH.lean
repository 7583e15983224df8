/- Mates: the law. -/
import Derived.Test.YtflnjgeoegofdaaProg
import Derived.KernelRfl
import Derived.Test.YtflnjgeoegofdaazMG
import Derived.Test.YtflnjgeoegofdaazL7
import Derived.Test.YtflnjgeoegofdaazK4
set_option linter.unusedSimpArgs false
set_option linter.unusedVariables false
set_option maxHeartbeats 4000000
set_option maxRecDepth 100000
namespace Go.Proofs.Ytflnjgeoegofdaa
open Go.Av
abbrev f_laws_FnExactMateOf : Nat := 3
def c_laws_FnExactMateOf : SC :=
 .seq (.reg [
     ⟨(some 4), .mv (.const (.bool false)), none⟩] [0, 1])
 (.seq (.reg [
     ⟨(some 5), .mv (.const (.int .i64 1048576)), none⟩] [0, 1, 5])
 (.seq (.reg [
     ⟨(some 16), .mv (.tmp 0), none⟩,
     ⟨(some 17), .mv (.tmp 5), none⟩,
     ⟨(some 18), .call 4 [(.tmp 16), (.tmp 17)], none⟩,
     ⟨(some 5), .mv (.tmp 18), none⟩] [0, 1, 5])
 (.seq (.seq (.reg [
     ⟨(some 19), .mv (.tmp 5), none⟩,
     ⟨(some 20), .bin .lss (.tmp 19) (.const (.int .i64 0)), none⟩] [0, 1, 20])
 (.cond (.tmp 20)
  (.seq (.reg [
      ⟨(some 4), .mv (.const (.bool true)), none⟩] [4])
  (.ret))
  (.skip)))
 (.seq (.reg [
     ⟨(some 22), .mv (.tmp 0), none⟩,
     ⟨(some 23), .call 6 [(.tmp 22)], none⟩,
     ⟨(some 24), .mv (.tmp 1), none⟩,
     ⟨(some 25), .call 5 [(.tmp 23), (.tmp 24)], none⟩,
     ⟨(some 21), .mv (.tmp 25), none⟩,
     ⟨(some 26), .ext (.tmp 21) 0, none⟩,
     ⟨(some 27), .ext (.tmp 21) 1, none⟩,
     ⟨(some 6), .mv (.tmp 26), none⟩,
     ⟨(some 7), .mv (.tmp 27), none⟩] [0, 1, 6, 7])
 (.seq (.reg [
     ⟨(some 28), .mv (.tmp 0), none⟩,
     ⟨(some 29), .call 6 [(.tmp 28)], none⟩,
     ⟨(some 8), .mv (.tmp 29), none⟩] [0, 1, 6, 7, 8])
 (.seq (.reg [
     ⟨(some 31), .mv (.tmp 8), none⟩,
     ⟨(some 32), .mv (.tmp 1), none⟩,
     ⟨(some 33), .call 7 [(.tmp 31), (.tmp 32)], none⟩,
     ⟨(some 30), .mv (.tmp 33), none⟩,
     ⟨(some 34), .ext (.tmp 30) 0, none⟩,
     ⟨(some 35), .ext (.tmp 30) 1, none⟩,
     ⟨(some 9), .mv (.tmp 34), none⟩,
     ⟨(some 10), .mv (.tmp 35), none⟩] [0, 1, 6, 7, 8, 9, 10])
 (.seq (.seq (.reg [
     ⟨(some 36), .mv (.tmp 9), none⟩,
     ⟨(some 37), .mv (.tmp 6), none⟩,
     ⟨(some 38), .call 8 [(.tmp 36), (.tmp 37)], none⟩,
     ⟨(some 39), .un .not (.tmp 38), none⟩,
     ⟨(some 40), .mv (.tmp 39), none⟩,
     ⟨(some 41), .mv (.tmp 10), (some (40, false))⟩,
     ⟨(some 42), .mv (.tmp 7), (some (40, false))⟩,
     ⟨(some 43), .bin .neq (.tmp 41) (.tmp 42), (some (40, false))⟩,
     ⟨(some 44), .pick (.tmp 40) (.const (.bool true)) (.tmp 43), none⟩] [0, 1, 6, 7, 8, 9, 10, 44])
 (.cond (.tmp 44)
  (.seq (.reg [
      ⟨(some 4), .mv (.const (.bool false)), none⟩] [4])
  (.ret))
  (.skip)))
 (.seq (.seq (.reg [
     ⟨(some 45), .mv (.tmp 8), none⟩,
     ⟨(some 46), .mv (.tmp 0), none⟩,
     ⟨(some 47), .call 6 [(.tmp 46)], none⟩,
     ⟨(some 48), .call 8 [(.tmp 45), (.tmp 47)], none⟩,
     ⟨(some 49), .un .not (.tmp 48), none⟩] [0, 1, 6, 7, 8, 9, 10, 49])
 (.cond (.tmp 49)
  (.seq (.reg [
      ⟨(some 4), .mv (.const (.bool false)), none⟩] [4])
  (.ret))
  (.skip)))
 (.seq (.reg [
     ⟨(some 11), .mv (.const (.int .i64 1)), none⟩] [0, 1, 6, 7, 8, 9, 10, 11])
 (.seq (.reg [
     ⟨(some 50), .mv (.tmp 8), none⟩,
     ⟨(some 51), .mv (.tmp 11), none⟩,
     ⟨(some 52), .call 9 [(.tmp 50), (.tmp 51)], none⟩,
     ⟨(some 11), .mv (.tmp 52), none⟩] [0, 1, 6, 7, 9, 10, 11])
 (.seq (.seq (.reg [
     ⟨(some 53), .mv (.tmp 11), none⟩,
     ⟨(some 54), .bin .lss (.tmp 53) (.const (.int .i64 0)), none⟩,
     ⟨(some 55), .mv (.tmp 54), none⟩,
     ⟨(some 56), .mv (.tmp 9), (some (55, false))⟩,
     ⟨(some 57), .mv (.tmp 6), (some (55, false))⟩,
     ⟨(some 58), .call 8 [(.tmp 56), (.tmp 57)], (some (55, false))⟩,
     ⟨(some 59), .un .not (.tmp 58), (some (55, false))⟩,
     ⟨(some 60), .pick (.tmp 55) (.const (.bool true)) (.tmp 59), none⟩,
     ⟨(some 61), .mv (.tmp 60), none⟩,
     ⟨(some 62), .mv (.tmp 10), (some (61, false))⟩,
     ⟨(some 63), .mv (.tmp 7), (some (61, false))⟩,
     ⟨(some 64), .bin .neq (.tmp 62) (.tmp 63), (some (61, false))⟩,
     ⟨(some 65), .pick (.tmp 61) (.const (.bool true)) (.tmp 64), none⟩] [0, 1, 6, 7, 9, 65])
 (.cond (.tmp 65)
  (.seq (.reg [
      ⟨(some 4), .mv (.const (.bool false)), none⟩] [4])
  (.ret))
  (.skip)))
 (.seq (.reg [
     ⟨(some 12), .mv (.const (.int .i64 1)), none⟩] [0, 1, 6, 7, 9, 12])
 (.seq (.reg [
     ⟨(some 66), .mv (.tmp 9), none⟩,
     ⟨(some 67), .mv (.tmp 12), none⟩,
     ⟨(some 68), .call 9 [(.tmp 66), (.tmp 67)], none⟩,
     ⟨(some 12), .mv (.tmp 68), none⟩] [0, 1, 6, 7, 9, 12])
 (.seq (.reg [
     ⟨(some 13), .mv (.const (.int .i64 1)), none⟩] [0, 1, 6, 7, 9, 12, 13])
 (.seq (.reg [
     ⟨(some 69), .mv (.tmp 9), none⟩,
     ⟨(some 70), .mv (.tmp 13), none⟩,
     ⟨(some 71), .call 10 [(.tmp 69), (.tmp 70)], none⟩,
     ⟨(some 13), .mv (.tmp 71), none⟩] [0, 1, 6, 7, 9, 12, 13])
 (.seq (.seq (.reg [
     ⟨(some 72), .mv (.tmp 13), none⟩,
     ⟨(some 73), .bin .lss (.tmp 72) (.const (.int .i64 0)), none⟩] [0, 1, 6, 7, 9, 12, 13, 73])
 (.cond (.tmp 73)
  (.seq (.reg [
      ⟨(some 4), .mv (.const (.bool false)), none⟩] [4])
  (.ret))
  (.skip)))
 (.seq (.seq (.reg [
     ⟨(some 74), .mv (.tmp 13), none⟩,
     ⟨(some 75), .mv (.tmp 12), none⟩,
     ⟨(some 76), .bin .neq (.tmp 74) (.tmp 75), none⟩] [0, 1, 6, 7, 9, 12, 76])
 (.cond (.tmp 76)
  (.seq (.reg [
      ⟨(some 4), .mv (.const (.bool false)), none⟩] [4])
  (.ret))
  (.skip)))
 (.seq (.reg [
     ⟨(some 78), .mv (.tmp 0), none⟩,
     ⟨(some 79), .call 6 [(.tmp 78)], none⟩,
     ⟨(some 80), .mv (.tmp 1), none⟩,
     ⟨(some 81), .call 7 [(.tmp 79), (.tmp 80)], none⟩,
     ⟨(some 77), .mv (.tmp 81), none⟩,
     ⟨(some 82), .ext (.tmp 77) 0, none⟩,
     ⟨(some 83), .ext (.tmp 77) 1, none⟩,
     ⟨(some 14), .mv (.tmp 82), none⟩,
     ⟨(some 15), .mv (.tmp 83), none⟩] [6, 7, 9, 12, 14, 15])
 (.seq (.seq (.reg [
     ⟨(some 84), .mv (.tmp 14), none⟩,
     ⟨(some 85), .mv (.tmp 6), none⟩,
     ⟨(some 86), .call 8 [(.tmp 84), (.tmp 85)], none⟩,
     ⟨(some 87), .un .not (.tmp 86), none⟩,
     ⟨(some 88), .mv (.tmp 87), none⟩,
     ⟨(some 89), .mv (.tmp 15), (some (88, false))⟩,
     ⟨(some 90), .mv (.tmp 7), (some (88, false))⟩,
     ⟨(some 91), .bin .neq (.tmp 89) (.tmp 90), (some (88, false))⟩,
     ⟨(some 92), .pick (.tmp 88) (.const (.bool true)) (.tmp 91), none⟩] [9, 12, 92])
 (.cond (.tmp 92)
  (.seq (.reg [
      ⟨(some 4), .mv (.const (.bool false)), none⟩] [4])
  (.ret))
  (.skip)))
 (.seq (.reg [
     ⟨(some 13), .mv (.const (.int .i64 1)), none⟩] [9, 12, 13])
 (.seq (.reg [
     ⟨(some 93), .mv (.tmp 9), none⟩,
     ⟨(some 94), .mv (.tmp 13), none⟩,
     ⟨(some 95), .call 10 [(.tmp 93), (.tmp 94)], none⟩,
     ⟨(some 13), .mv (.tmp 95), none⟩] [12, 13])
 (.seq (.seq (.reg [
     ⟨(some 96), .mv (.tmp 13), none⟩,
     ⟨(some 97), .bin .lss (.tmp 96) (.const (.int .i64 0)), none⟩] [12, 13, 97])
 (.cond (.tmp 97)
  (.seq (.reg [
      ⟨(some 4), .mv (.const (.bool false)), none⟩] [4])
  (.ret))
  (.skip)))
 (.seq (.seq (.reg [
     ⟨(some 98), .mv (.tmp 13), none⟩,
     ⟨(some 99), .mv (.tmp 12), none⟩,
     ⟨(some 100), .bin .neq (.tmp 98) (.tmp 99), none⟩] [100])
 (.cond (.tmp 100)
  (.seq (.reg [
      ⟨(some 4), .mv (.const (.bool false)), none⟩] [4])
  (.ret))
  (.skip)))
 (.seq (.reg [
     ⟨(some 4), .mv (.const (.bool true)), none⟩] [4])
 (.ret)))))))))))))))))))))))))
theorem s_laws_FnExactMateOf : stripF Try.prog 3 [[0, 1], [0, 1, 5], [0, 1, 5], [0, 1, 20], [4], [0, 1, 6, 7], [0, 1, 6, 7, 8], [0, 1, 6, 7, 8, 9, 10], [0, 1, 6, 7, 8, 9, 10, 44], [4], [0, 1, 6, 7, 8, 9, 10, 49], [4], [0, 1, 6, 7, 8, 9, 10, 11], [0, 1, 6, 7, 9, 10, 11], [0, 1, 6, 7, 9, 65], [4], [0, 1, 6, 7, 9, 12], [0, 1, 6, 7, 9, 12], [0, 1, 6, 7, 9, 12, 13], [0, 1, 6, 7, 9, 12, 13], [0, 1, 6, 7, 9, 12, 13, 73], [4], [0, 1, 6, 7, 9, 12, 76], [4], [6, 7, 9, 12, 14, 15], [9, 12, 92], [4], [9, 12, 13], [12, 13], [12, 13, 97], [4], [100], [4], [4]] = some (c_laws_FnExactMateOf, [.tmp 4], 101) := by kernel_rfl
theorem total_geM {x : List Int} : ∀ {xss : List (List Int)}, x ∈ xss → x.length ≤ total xss
  | y :: r, h => by
    rw [total_cons]
    rcases List.mem_cons.1 h with rfl | h
    · omega
    · have := total_geM h; omega
theorem total_smallM {n : Nat} : ∀ {xss : List (List Int)}, (∀ r ∈ xss, r.length ≤ n) → total xss ≤ xss.length * n
  | [], _ => by simp [total]
  | y :: r, h => by
    have h1 := total_smallM (xss := r) (fun z hz => h z (by simp [hz]))
    have h2 := h y (by simp)
    rw [total_cons, List.length_cons, Nat.add_mul]
    omega
theorem mtV_total (a : List (List Int)) (b : Int) : total (mtV a b).1 ≤ 1000 := by
  unfold mtV
  split
  · simp [total]
  · rename_i h
    split
    · simp [total]
    · have hl : latB a = true := by simpa using h
      have hf := latB_facts hl
      have hq := matR_sq a a.length (a.length * (a.length - 1)) (topM a.length a.length) ⟨b.toNat, false, none⟩ (topM_ok _) (fun q h => by cases h)
      have hm : mtS a b.toNat = matR a a.length (a.length * (a.length - 1)) (topM a.length a.length) ⟨b.toNat, false, none⟩ := rfl
      rw [hm]
      cases hr : (matR a a.length (a.length * (a.length - 1)) (topM a.length a.length) ⟨b.toNat, false, none⟩).res with
      | some q =>
        have h1 := hq q hr
        have h2 := total_smallM (n := 10) (xss := q) (fun r hr => by rw [h1.2 r hr]; exact hf.1.2)
        show total q ≤ 1000
        have h3 := hf.1.2
        omega
      | none =>
        show total (if _ then (([] : List (List Int)), (5 : Int)) else ([], 3)).1 ≤ 1000
        split <;> simp [total]
theorem lawMateOf_ok (H : List Blk) (xss : List (List Int)) (b : Int) (hx : ∀ xs ∈ xss, ∀ x ∈ xs, (Lit.int .i64 x).wf = true) : ACalls Try.prog f_laws_FnExactMateOf [ilSS xss, I b] H (fun r _ => r = Bv true) := by
  have hs := specMate_fn xss b
  have hi0 := implMate_fss xss b
  have hlen := mtV_total xss b
  generalize (mtV xss b).1 = zss at *
  generalize (mtV xss b).2 = code at *
  refine ACalls.introB s_laws_FnExactMateOf (by simp) ?_; intro hB hA; unfold c_laws_FnExactMateOf; simp (config := { maxSteps := 1000000 }) (disch := (first | omega | (simp only [go_sem]; try omega))) only [go_sem, Nat.reduceAdd, Nat.reduceEqDiff, Nat.reduceLeDiff, Nat.reduceMul, Nat.reduceLT, reduceIte, Int.reduceToNat, w64_id, cast_succ]
  repeat (first | (with_reducible first | refine SW.seq ?_ | refine SW.block ?_ | refine SW.rowC ?_ | refine SW.skip ?_ | refine SW.exit ?_ | intro _ | refine And.intro (by omega) ?_) | simp (config := { maxSteps := 1000000 }) (disch := (first | omega | (simp only [go_sem]; try omega))) only [go_sem, Nat.reduceAdd, Nat.reduceEqDiff, Nat.reduceLeDiff, Nat.reduceMul, Nat.reduceLT, reduceIte, Int.reduceToNat, w64_id, cast_succ])
  refine (szInt64SS_ok _ _ xss _ (rd_ilSS _ _) (by omega) (by omega)).mono ?_
  rintro r H' ⟨⟨z, rfl, g1, g2, g3⟩, rfl⟩
  repeat (first | (with_reducible first | refine SW.seq ?_ | refine SW.block ?_ | refine SW.rowC ?_ | refine SW.skip ?_ | refine SW.exit ?_ | intro _ | refine And.intro (by omega) ?_) | simp (config := { maxSteps := 1000000 }) (disch := (first | omega | (simp only [go_sem]; try omega))) only [go_sem, Nat.reduceAdd, Nat.reduceEqDiff, Nat.reduceLeDiff, Nat.reduceMul, Nat.reduceLT, reduceIte, Int.reduceToNat, w64_id, cast_succ])
  (first | refine SW.condD rfl (fun h2 => ?_) (fun h2 => ?_) | refine SW.condN rfl (fun h2 => ?_) (fun h2 => ?_) | refine SW.condNB rfl (fun h2 => ?_) (fun h2 => ?_) | refine SW.condB rfl (fun h2 => ?_) (fun h2 => ?_))
  · repeat (first | (with_reducible first | refine SW.seq ?_ | refine SW.block ?_ | refine SW.rowC ?_ | refine SW.skip ?_ | refine SW.exit ?_ | intro _ | refine And.intro (by omega) ?_) | simp (config := { maxSteps := 1000000 }) (disch := (first | omega | (simp only [go_sem]; try omega))) only [go_sem, Nat.reduceAdd, Nat.reduceEqDiff, Nat.reduceLeDiff, Nat.reduceMul, Nat.reduceLT, reduceIte, Int.reduceToNat, w64_id, cast_succ])
    refine SW.ret ?_; (try simp only [go_sem]); (first | refine FunPost.one ?_ | refine FunPost.two ?_ | refine FunPost.three ?_); (try simp (config := { maxSteps := 1000000 }) (disch := (first | omega | (simp only [go_sem]; try omega))) only [go_sem, Nat.reduceAdd, Nat.reduceEqDiff, Nat.reduceLeDiff, Nat.reduceMul, Nat.reduceLT, reduceIte, Int.reduceToNat, w64_id, cast_succ])
    exact GR.of rfl
  have hsx := small_rows (by omega) (g3 (by omega)) (by omega)
  have t1 := toInt64SS_fn xss hsx.1 hsx.2
  have htot : total xss ≤ 1073741824 := by have := g3 (by omega); omega
  have hi := hi0 (fun x hx => by
    have h1 : x.length ≤ total xss := total_geM hx
    have := g3 (by omega); omega)
  repeat (first | (with_reducible first | refine SW.seq ?_ | refine SW.block ?_ | refine SW.rowC ?_ | refine SW.skip ?_ | refine SW.exit ?_ | intro _ | refine And.intro (by omega) ?_) | simp (config := { maxSteps := 1000000 }) (disch := (first | omega | (simp only [go_sem]; try omega))) only [go_sem, Nat.reduceAdd, Nat.reduceEqDiff, Nat.reduceLeDiff, Nat.reduceMul, Nat.reduceLT, reduceIte, Int.reduceToNat, w64_id, cast_succ])
  refine ACalls.fn (t1 _) ?_
  repeat (first | (with_reducible first | refine SW.seq ?_ | refine SW.block ?_ | refine SW.rowC ?_ | refine SW.skip ?_ | refine SW.exit ?_ | refine PFn.use (hs) ?_ | refine PFn.useq (hs) ?_ | intro _ | refine And.intro (by omega) ?_) | simp (config := { maxSteps := 1000000 }) (disch := (first | omega | (simp only [go_sem]; try omega))) only [go_sem, Nat.reduceAdd, Nat.reduceEqDiff, Nat.reduceLeDiff, Nat.reduceMul, Nat.reduceLT, reduceIte, Int.reduceToNat, w64_id, cast_succ])
  refine (toInt64SS_ok _ _ xss (rd_ilSS _ _) hsx.1 hsx.2).mono ?_
  rintro r H1 ⟨rfl, hH1⟩
  have own := fss_own (H := H') xss
  rw [← hH1] at own
  have hlt : H'.length ≤ H1.length := by rw [hH1]; simp
  clear hH1
  generalize (AV.nm H'.length 0 0 xss.length) = v0 at *
  repeat (first | (with_reducible first | refine SW.seq ?_ | refine SW.block ?_ | refine SW.rowC ?_ | refine SW.skip ?_ | refine SW.exit ?_ | intro _ | refine And.intro (by omega) ?_) | simp (config := { maxSteps := 1000000 }) (disch := (first | omega | (simp only [go_sem]; try omega))) only [go_sem, Nat.reduceAdd, Nat.reduceEqDiff, Nat.reduceLeDiff, Nat.reduceMul, Nat.reduceLT, reduceIte, Int.reduceToNat, w64_id, cast_succ, own.oneU.1, own.oneU.2])
  refine (hi.lend (.cons (own.froz (fun r _ => Nat.zero_le _)) (.cons (froz_I' _) .nil))).mono ?_
  rintro r H3 ⟨ext2, u, hH3, rfl, ho⟩
  replace own := own.append ext2
  rw [← hH3] at own
  have hl3 : H1.length ≤ H3.length := by rw [hH3]; simp
  clear hH3
  repeat (first | (with_reducible first | refine SW.seq ?_ | refine SW.block ?_ | refine SW.rowC ?_ | refine SW.skip ?_ | refine SW.exit ?_ | intro _ | refine And.intro (by omega) ?_) | simp (config := { maxSteps := 1000000 }) (disch := (first | omega | (simp only [go_sem]; try omega))) only [go_sem, Nat.reduceAdd, Nat.reduceEqDiff, Nat.reduceLeDiff, Nat.reduceMul, Nat.reduceLT, reduceIte, Int.reduceToNat, w64_id, cast_succ])
  refine ACalls.fn (eqInt64SS_ok _ _ _ _ _ ho.rd (rd_ilSS _ _)) ?_
  repeat (first | (with_reducible first | refine SW.seq ?_ | refine SW.block ?_ | refine SW.rowC ?_ | refine SW.skip ?_ | refine SW.exit ?_ | intro _ | refine And.intro (by omega) ?_) | simp (config := { maxSteps := 1000000 }) (disch := (first | omega | (simp only [go_sem]; try omega))) only [go_sem, Nat.reduceAdd, Nat.reduceEqDiff, Nat.reduceLeDiff, Nat.reduceMul, Nat.reduceLT, reduceIte, Int.reduceToNat, w64_id, cast_succ])
  refine SW.condF rfl ?_
  repeat (first | (with_reducible first | refine SW.seq ?_ | refine SW.block ?_ | refine SW.rowC ?_ | refine SW.skip ?_ | refine SW.exit ?_ | intro _ | refine And.intro (by omega) ?_) | simp (config := { maxSteps := 1000000 }) (disch := (first | omega | (simp only [go_sem]; try omega))) only [go_sem, Nat.reduceAdd, Nat.reduceEqDiff, Nat.reduceLeDiff, Nat.reduceMul, Nat.reduceLT, reduceIte, Int.reduceToNat, w64_id, cast_succ])
  refine ACalls.fn (t1 _) ?_
  repeat (first | (with_reducible first | refine SW.seq ?_ | refine SW.block ?_ | refine SW.rowC ?_ | refine SW.skip ?_ | refine SW.exit ?_ | intro _ | refine And.intro (by omega) ?_) | simp (config := { maxSteps := 1000000 }) (disch := (first | omega | (simp only [go_sem]; try omega))) only [go_sem, Nat.reduceAdd, Nat.reduceEqDiff, Nat.reduceLeDiff, Nat.reduceMul, Nat.reduceLT, reduceIte, Int.reduceToNat, w64_id, cast_succ])
  refine ACalls.fn (eqInt64SS_ok _ _ _ xss xss own.rd (rd_ilSS _ _)) ?_
  rw [show decide (xss = xss) = true by simp]
  repeat (first | (with_reducible first | refine SW.seq ?_ | refine SW.block ?_ | refine SW.rowC ?_ | refine SW.skip ?_ | refine SW.exit ?_ | intro _ | refine And.intro (by omega) ?_) | simp (config := { maxSteps := 1000000 }) (disch := (first | omega | (simp only [go_sem]; try omega))) only [go_sem, Nat.reduceAdd, Nat.reduceEqDiff, Nat.reduceLeDiff, Nat.reduceMul, Nat.reduceLT, reduceIte, Int.reduceToNat, w64_id, cast_succ])
  refine SW.condF rfl ?_
  repeat (first | (with_reducible first | refine SW.seq ?_ | refine SW.block ?_ | refine SW.rowC ?_ | refine SW.skip ?_ | refine SW.exit ?_ | intro _ | refine And.intro (by omega) ?_) | simp (config := { maxSteps := 1000000 }) (disch := (first | omega | (simp only [go_sem]; try omega))) only [go_sem, Nat.reduceAdd, Nat.reduceEqDiff, Nat.reduceLeDiff, Nat.reduceMul, Nat.reduceLT, reduceIte, Int.reduceToNat, w64_id, cast_succ])
  refine (markInt64SS_ok _ _ _ xss 1 own (by omega) (by omega)).mono ?_
  rintro r H4 ⟨rfl, -, m0, m2⟩
  replace ho := ho.same (H' := H4) (fun j b hj hb => by rw [m2 j (by unfold Btw at hj ⊢; omega)]; exact hb)
  have hneg1 : decide ((1 : Int) + total xss < 0) = false := decide_eq_false (by omega)
  have hneg2 : decide ((1 : Int) + total zss < 0) = false := decide_eq_false (by omega)
  repeat (first | (with_reducible first | refine SW.seq ?_ | refine SW.block ?_ | refine SW.rowC ?_ | refine SW.skip ?_ | refine SW.exit ?_ | intro _ | refine And.intro (by omega) ?_) | simp (config := { maxSteps := 1000000 }) (disch := (first | omega | (simp only [go_sem]; try omega))) only [go_sem, Nat.reduceAdd, Nat.reduceEqDiff, Nat.reduceLeDiff, Nat.reduceMul, Nat.reduceLT, reduceIte, Int.reduceToNat, w64_id, cast_succ, hneg1])
  refine ACalls.fn (eqInt64SS_ok _ _ _ _ _ ho.rd (rd_ilSS _ _)) ?_
  repeat (first | (with_reducible first | refine SW.seq ?_ | refine SW.block ?_ | refine SW.rowC ?_ | refine SW.skip ?_ | refine SW.exit ?_ | intro _ | refine And.intro (by omega) ?_) | simp (config := { maxSteps := 1000000 }) (disch := (first | omega | (simp only [go_sem]; try omega))) only [go_sem, Nat.reduceAdd, Nat.reduceEqDiff, Nat.reduceLeDiff, Nat.reduceMul, Nat.reduceLT, reduceIte, Int.reduceToNat, w64_id, cast_succ])
  refine SW.condF rfl ?_
  repeat (first | (with_reducible first | refine SW.seq ?_ | refine SW.block ?_ | refine SW.rowC ?_ | refine SW.skip ?_ | refine SW.exit ?_ | intro _ | refine And.intro (by omega) ?_) | simp (config := { maxSteps := 1000000 }) (disch := (first | omega | (simp only [go_sem]; try omega))) only [go_sem, Nat.reduceAdd, Nat.reduceEqDiff, Nat.reduceLeDiff, Nat.reduceMul, Nat.reduceLT, reduceIte, Int.reduceToNat, w64_id, cast_succ])
  refine (markInt64SS_ok _ _ _ zss 1 ho (by omega) (by omega)).mono ?_
  rintro r H5 ⟨rfl, ho5, n1, n2⟩
  repeat (first | (with_reducible first | refine SW.seq ?_ | refine SW.block ?_ | refine SW.rowC ?_ | refine SW.skip ?_ | refine SW.exit ?_ | intro _ | refine And.intro (by omega) ?_) | simp (config := { maxSteps := 1000000 }) (disch := (first | omega | (simp only [go_sem]; try omega))) only [go_sem, Nat.reduceAdd, Nat.reduceEqDiff, Nat.reduceLeDiff, Nat.reduceMul, Nat.reduceLT, reduceIte, Int.reduceToNat, w64_id, cast_succ])
  refine ACalls.fn (heldInt64SS_ok _ _ zss 1 ho5.rd (by omega) (by omega)) ?_
  repeat (first | (with_reducible first | refine SW.seq ?_ | refine SW.block ?_ | refine SW.rowC ?_ | refine SW.skip ?_ | refine SW.exit ?_ | intro _ | refine And.intro (by omega) ?_) | simp (config := { maxSteps := 1000000 }) (disch := (first | omega | (simp only [go_sem]; try omega))) only [go_sem, Nat.reduceAdd, Nat.reduceEqDiff, Nat.reduceLeDiff, Nat.reduceMul, Nat.reduceLT, reduceIte, Int.reduceToNat, w64_id, cast_succ, hneg2])
  refine SW.condF rfl ?_
  repeat (first | (with_reducible first | refine SW.seq ?_ | refine SW.block ?_ | refine SW.rowC ?_ | refine SW.skip ?_ | refine SW.exit ?_ | intro _ | refine And.intro (by omega) ?_) | simp (config := { maxSteps := 1000000 }) (disch := (first | omega | (simp only [go_sem]; try omega))) only [go_sem, Nat.reduceAdd, Nat.reduceEqDiff, Nat.reduceLeDiff, Nat.reduceMul, Nat.reduceLT, reduceIte, Int.reduceToNat, w64_id, cast_succ])
  refine SW.condF rfl ?_
  repeat (first | (with_reducible first | refine SW.seq ?_ | refine SW.block ?_ | refine SW.rowC ?_ | refine SW.skip ?_ | refine SW.exit ?_ | intro _ | refine And.intro (by omega) ?_) | simp (config := { maxSteps := 1000000 }) (disch := (first | omega | (simp only [go_sem]; try omega))) only [go_sem, Nat.reduceAdd, Nat.reduceEqDiff, Nat.reduceLeDiff, Nat.reduceMul, Nat.reduceLT, reduceIte, Int.reduceToNat, w64_id, cast_succ])
  refine ACalls.fn (t1 _) ?_
  repeat (first | (with_reducible first | refine SW.seq ?_ | refine SW.block ?_ | refine SW.rowC ?_ | refine SW.skip ?_ | refine SW.exit ?_ | intro _ | refine And.intro (by omega) ?_) | simp (config := { maxSteps := 1000000 }) (disch := (first | omega | (simp only [go_sem]; try omega))) only [go_sem, Nat.reduceAdd, Nat.reduceEqDiff, Nat.reduceLeDiff, Nat.reduceMul, Nat.reduceLT, reduceIte, Int.reduceToNat, w64_id, cast_succ])
  refine (hi _).mono ?_
  rintro r H6 ⟨ext3, u3, rfl, rfl, ho6⟩
  repeat (first | (with_reducible first | refine SW.seq ?_ | refine SW.block ?_ | refine SW.rowC ?_ | refine SW.skip ?_ | refine SW.exit ?_ | intro _ | refine And.intro (by omega) ?_) | simp (config := { maxSteps := 1000000 }) (disch := (first | omega | (simp only [go_sem]; try omega))) only [go_sem, Nat.reduceAdd, Nat.reduceEqDiff, Nat.reduceLeDiff, Nat.reduceMul, Nat.reduceLT, reduceIte, Int.reduceToNat, w64_id, cast_succ])
  refine ACalls.fn (eqInt64SS_ok _ _ _ _ _ ho6.rd (rd_ilSS _ _)) ?_
  repeat (first | (with_reducible first | refine SW.seq ?_ | refine SW.block ?_ | refine SW.rowC ?_ | refine SW.skip ?_ | refine SW.exit ?_ | intro _ | refine And.intro (by omega) ?_) | simp (config := { maxSteps := 1000000 }) (disch := (first | omega | (simp only [go_sem]; try omega))) only [go_sem, Nat.reduceAdd, Nat.reduceEqDiff, Nat.reduceLeDiff, Nat.reduceMul, Nat.reduceLT, reduceIte, Int.reduceToNat, w64_id, cast_succ])
  refine SW.condF rfl ?_
  repeat (first | (with_reducible first | refine SW.seq ?_ | refine SW.block ?_ | refine SW.rowC ?_ | refine SW.skip ?_ | refine SW.exit ?_ | intro _ | refine And.intro (by omega) ?_) | simp (config := { maxSteps := 1000000 }) (disch := (first | omega | (simp only [go_sem]; try omega))) only [go_sem, Nat.reduceAdd, Nat.reduceEqDiff, Nat.reduceLeDiff, Nat.reduceMul, Nat.reduceLT, reduceIte, Int.reduceToNat, w64_id, cast_succ])
  refine ACalls.fn (heldInt64SS_ok _ _ zss 1 (ho5.append _).rd (by omega) (by omega)) ?_
  repeat (first | (with_reducible first | refine SW.seq ?_ | refine SW.block ?_ | refine SW.rowC ?_ | refine SW.skip ?_ | refine SW.exit ?_ | intro _ | refine And.intro (by omega) ?_) | simp (config := { maxSteps := 1000000 }) (disch := (first | omega | (simp only [go_sem]; try omega))) only [go_sem, Nat.reduceAdd, Nat.reduceEqDiff, Nat.reduceLeDiff, Nat.reduceMul, Nat.reduceLT, reduceIte, Int.reduceToNat, w64_id, cast_succ, hneg2])
  refine SW.condF rfl ?_
  repeat (first | (with_reducible first | refine SW.seq ?_ | refine SW.block ?_ | refine SW.rowC ?_ | refine SW.skip ?_ | refine SW.exit ?_ | intro _ | refine And.intro (by omega) ?_) | simp (config := { maxSteps := 1000000 }) (disch := (first | omega | (simp only [go_sem]; try omega))) only [go_sem, Nat.reduceAdd, Nat.reduceEqDiff, Nat.reduceLeDiff, Nat.reduceMul, Nat.reduceLT, reduceIte, Int.reduceToNat, w64_id, cast_succ])
  refine SW.condF rfl ?_
  repeat (first | (with_reducible first | refine SW.seq ?_ | refine SW.block ?_ | refine SW.rowC ?_ | refine SW.skip ?_ | refine SW.exit ?_ | intro _ | refine And.intro (by omega) ?_) | simp (config := { maxSteps := 1000000 }) (disch := (first | omega | (simp only [go_sem]; try omega))) only [go_sem, Nat.reduceAdd, Nat.reduceEqDiff, Nat.reduceLeDiff, Nat.reduceMul, Nat.reduceLT, reduceIte, Int.reduceToNat, w64_id, cast_succ])
  refine SW.ret ?_; (try simp only [go_sem]); (first | refine FunPost.one ?_ | refine FunPost.two ?_ | refine FunPost.three ?_); (try simp (config := { maxSteps := 1000000 }) (disch := (first | omega | (simp only [go_sem]; try omega))) only [go_sem, Nat.reduceAdd, Nat.reduceEqDiff, Nat.reduceLeDiff, Nat.reduceMul, Nat.reduceLT, reduceIte, Int.reduceToNat, w64_id, cast_succ])
  exact GR.of rfl
end Go.Proofs.Ytflnjgeoegofdaa
