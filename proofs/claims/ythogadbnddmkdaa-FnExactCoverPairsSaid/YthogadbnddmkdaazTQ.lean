/- Covering pairs: the law. -/
import Derived.Test.YthogadbnddmkdaaProg
import Derived.KernelRfl
import Derived.Test.YthogadbnddmkdaazTP
set_option linter.unusedSimpArgs false
set_option linter.unusedVariables false
set_option maxHeartbeats 4000000
set_option maxRecDepth 100000
namespace Go.Proofs.Ythogadbnddmkdaa
open Go.Av
abbrev f_laws_FnExactCoverPairs : Nat := 4
def c_laws_FnExactCoverPairs : SC :=
 .seq (.reg [
     ⟨(some 4), .mv (.const (.bool false)), none⟩] [0, 1])
 (.seq (.reg [
     ⟨(some 14), .mv (.tmp 0), none⟩,
     ⟨(some 15), .mv (.tmp 1), none⟩,
     ⟨(some 16), .call 11 [(.tmp 14), (.tmp 15)], none⟩,
     ⟨(some 13), .mv (.tmp 16), none⟩,
     ⟨(some 17), .ext (.tmp 13) 0, none⟩,
     ⟨(some 18), .ext (.tmp 13) 1, none⟩,
     ⟨(some 5), .alloc 27 [(.int .i64 0), (.int .i64 0), (.slice none 0 0)], none⟩,
     ⟨none, .store 3 (.tmp 5) (.tmp 17), none⟩,
     ⟨(some 6), .mv (.tmp 18), none⟩] [0, 1, 5, 6])
 (.seq (.reg [
     ⟨(some 20), .mv (.tmp 0), none⟩,
     ⟨(some 21), .mv (.tmp 1), none⟩,
     ⟨(some 22), .call 12 [(.tmp 20), (.tmp 21)], none⟩,
     ⟨(some 19), .mv (.tmp 22), none⟩,
     ⟨(some 23), .ext (.tmp 19) 0, none⟩,
     ⟨(some 24), .ext (.tmp 19) 1, none⟩,
     ⟨(some 7), .alloc 27 [(.int .i64 0), (.int .i64 0), (.slice none 0 0)], none⟩,
     ⟨none, .store 3 (.tmp 7) (.tmp 23), none⟩,
     ⟨(some 8), .mv (.tmp 24), none⟩] [0, 1, 5, 6, 7, 8])
 (.seq (.seq (.reg [
     ⟨(some 25), .load 3 true (.tmp 7), none⟩,
     ⟨(some 26), .load 3 true (.tmp 5), none⟩,
     ⟨(some 27), .call 13 [(.tmp 25), (.tmp 26)], none⟩,
     ⟨(some 28), .un .not (.tmp 27), none⟩,
     ⟨(some 29), .mv (.tmp 28), none⟩,
     ⟨(some 30), .mv (.tmp 8), (some (29, false))⟩,
     ⟨(some 31), .mv (.tmp 6), (some (29, false))⟩,
     ⟨(some 32), .bin .neq (.tmp 30) (.tmp 31), (some (29, false))⟩,
     ⟨(some 33), .pick (.tmp 29) (.const (.bool true)) (.tmp 32), none⟩] [0, 1, 5, 6, 7, 33])
 (.cond (.tmp 33)
  (.seq (.reg [
      ⟨(some 4), .mv (.const (.bool false)), none⟩] [4])
  (.ret))
  (.skip)))
 (.seq (.reg [
     ⟨(some 9), .mv (.const (.int .i64 1)), none⟩] [0, 1, 5, 6, 7, 9])
 (.seq (.reg [
     ⟨(some 34), .load 3 true (.tmp 7), none⟩,
     ⟨(some 35), .mv (.tmp 9), none⟩,
     ⟨(some 36), .call 14 [(.tmp 34), (.tmp 35)], none⟩,
     ⟨(some 9), .mv (.tmp 36), none⟩] [0, 1, 5, 6, 7, 9])
 (.seq (.reg [
     ⟨(some 10), .mv (.const (.int .i64 1)), none⟩] [0, 1, 5, 6, 7, 9, 10])
 (.seq (.reg [
     ⟨(some 37), .load 3 true (.tmp 7), none⟩,
     ⟨(some 38), .mv (.tmp 10), none⟩,
     ⟨(some 39), .call 15 [(.tmp 37), (.tmp 38)], none⟩,
     ⟨(some 10), .mv (.tmp 39), none⟩] [0, 1, 5, 6, 7, 9, 10])
 (.seq (.seq (.reg [
     ⟨(some 40), .mv (.tmp 10), none⟩,
     ⟨(some 41), .bin .lss (.tmp 40) (.const (.int .i64 0)), none⟩] [0, 1, 5, 6, 7, 9, 10, 41])
 (.cond (.tmp 41)
  (.seq (.reg [
      ⟨(some 4), .mv (.const (.bool false)), none⟩] [4])
  (.ret))
  (.skip)))
 (.seq (.seq (.reg [
     ⟨(some 42), .mv (.tmp 10), none⟩,
     ⟨(some 43), .mv (.tmp 9), none⟩,
     ⟨(some 44), .bin .neq (.tmp 42) (.tmp 43), none⟩] [0, 1, 5, 6, 7, 9, 44])
 (.cond (.tmp 44)
  (.seq (.reg [
      ⟨(some 4), .mv (.const (.bool false)), none⟩] [4])
  (.ret))
  (.skip)))
 (.seq (.reg [
     ⟨(some 46), .mv (.tmp 0), none⟩,
     ⟨(some 47), .mv (.tmp 1), none⟩,
     ⟨(some 48), .call 12 [(.tmp 46), (.tmp 47)], none⟩,
     ⟨(some 45), .mv (.tmp 48), none⟩,
     ⟨(some 49), .ext (.tmp 45) 0, none⟩,
     ⟨(some 50), .ext (.tmp 45) 1, none⟩,
     ⟨(some 11), .alloc 27 [(.int .i64 0), (.int .i64 0), (.slice none 0 0)], none⟩,
     ⟨none, .store 3 (.tmp 11) (.tmp 49), none⟩,
     ⟨(some 12), .mv (.tmp 50), none⟩] [5, 6, 7, 9, 11, 12])
 (.seq (.seq (.reg [
     ⟨(some 51), .load 3 true (.tmp 11), none⟩,
     ⟨(some 52), .load 3 true (.tmp 5), none⟩,
     ⟨(some 53), .call 13 [(.tmp 51), (.tmp 52)], none⟩,
     ⟨(some 54), .un .not (.tmp 53), none⟩,
     ⟨(some 55), .mv (.tmp 54), none⟩,
     ⟨(some 56), .mv (.tmp 12), (some (55, false))⟩,
     ⟨(some 57), .mv (.tmp 6), (some (55, false))⟩,
     ⟨(some 58), .bin .neq (.tmp 56) (.tmp 57), (some (55, false))⟩,
     ⟨(some 59), .pick (.tmp 55) (.const (.bool true)) (.tmp 58), none⟩] [7, 9, 59])
 (.cond (.tmp 59)
  (.seq (.reg [
      ⟨(some 4), .mv (.const (.bool false)), none⟩] [4])
  (.ret))
  (.skip)))
 (.seq (.reg [
     ⟨(some 10), .mv (.const (.int .i64 1)), none⟩] [7, 9, 10])
 (.seq (.reg [
     ⟨(some 60), .load 3 true (.tmp 7), none⟩,
     ⟨(some 61), .mv (.tmp 10), none⟩,
     ⟨(some 62), .call 15 [(.tmp 60), (.tmp 61)], none⟩,
     ⟨(some 10), .mv (.tmp 62), none⟩] [9, 10])
 (.seq (.seq (.reg [
     ⟨(some 63), .mv (.tmp 10), none⟩,
     ⟨(some 64), .bin .lss (.tmp 63) (.const (.int .i64 0)), none⟩] [9, 10, 64])
 (.cond (.tmp 64)
  (.seq (.reg [
      ⟨(some 4), .mv (.const (.bool false)), none⟩] [4])
  (.ret))
  (.skip)))
 (.seq (.seq (.reg [
     ⟨(some 65), .mv (.tmp 10), none⟩,
     ⟨(some 66), .mv (.tmp 9), none⟩,
     ⟨(some 67), .bin .neq (.tmp 65) (.tmp 66), none⟩] [67])
 (.cond (.tmp 67)
  (.seq (.reg [
      ⟨(some 4), .mv (.const (.bool false)), none⟩] [4])
  (.ret))
  (.skip)))
 (.seq (.reg [
     ⟨(some 4), .mv (.const (.bool true)), none⟩] [4])
 (.ret)))))))))))))))))
theorem s_laws_FnExactCoverPairs : stripF Try.prog 4 [[0, 1], [0, 1, 5, 6], [0, 1, 5, 6, 7, 8], [0, 1, 5, 6, 7, 33], [4], [0, 1, 5, 6, 7, 9], [0, 1, 5, 6, 7, 9], [0, 1, 5, 6, 7, 9, 10], [0, 1, 5, 6, 7, 9, 10], [0, 1, 5, 6, 7, 9, 10, 41], [4], [0, 1, 5, 6, 7, 9, 44], [4], [5, 6, 7, 9, 11, 12], [7, 9, 59], [4], [7, 9, 10], [9, 10], [9, 10, 64], [4], [67], [4], [4]] = some (c_laws_FnExactCoverPairs, [.tmp 4], 68) := by kernel_rfl
abbrev f_laws_markArray : Nat := 14
def c_laws_markArray : SC :=
 .seq (.reg [
     ⟨(some 2), .box 27 (.tmp 0), none⟩,
     ⟨(some 4), .mv (.const (.int .i64 0)), none⟩] [1, 2])
 (.seq (.reg [
     ⟨(some 5), .faddr 2 (.tmp 2), none⟩,
     ⟨(some 6), .load 1 false (.tmp 5), none⟩,
     ⟨(some 7), .mv (.tmp 1), none⟩,
     ⟨(some 8), .call 51 [(.tmp 6), (.tmp 7)], none⟩,
     ⟨(some 1), .mv (.tmp 8), none⟩] [1])
 (.seq (.reg [
     ⟨(some 9), .mv (.tmp 1), none⟩,
     ⟨(some 4), .mv (.tmp 9), none⟩] [4])
 (.ret)))
theorem s_laws_markArray : stripF Try.prog 14 [[1, 2], [1], [4]] = some (c_laws_markArray, [.tmp 4], 10) := by kernel_rfl
abbrev f_laws_heldArray : Nat := 15
def c_laws_heldArray : SC :=
 .seq (.reg [
     ⟨(some 2), .box 27 (.tmp 0), none⟩,
     ⟨(some 4), .mv (.const (.int .i64 0)), none⟩] [1, 2])
 (.seq (.reg [
     ⟨(some 5), .faddr 2 (.tmp 2), none⟩,
     ⟨(some 6), .load 1 false (.tmp 5), none⟩,
     ⟨(some 7), .mv (.tmp 1), none⟩,
     ⟨(some 8), .call 52 [(.tmp 6), (.tmp 7)], none⟩,
     ⟨(some 1), .mv (.tmp 8), none⟩] [1])
 (.seq (.seq (.reg [
     ⟨(some 9), .mv (.tmp 1), none⟩,
     ⟨(some 10), .bin .lss (.tmp 9) (.const (.int .i64 0)), none⟩] [1, 10])
 (.cond (.tmp 10)
  (.seq (.reg [
      ⟨(some 4), .mv (.const (.int .i64 (-1))), none⟩] [4])
  (.ret))
  (.skip)))
 (.seq (.reg [
     ⟨(some 11), .mv (.tmp 1), none⟩,
     ⟨(some 4), .mv (.tmp 11), none⟩] [4])
 (.ret))))
theorem s_laws_heldArray : stripF Try.prog 15 [[1, 2], [1], [1, 10], [4], [4]] = some (c_laws_heldArray, [.tmp 4], 12) := by kernel_rfl
theorem nextRow_len (l c : Nat) (m : List Int) (x y : Nat) (v w : Int) : (nextRow l c m x y v w).length = c := by unfold nextRow; rw [nextTo_len, row0_len]
theorem grd_small {l c : Nat} : ∀ (f : Nat) (m : List Int) (rows R : List (List Int)), (∀ r ∈ rows, r.length = c) → rows.length ≤ 256 → grd l c f m rows = some R → R.length ≤ 256 ∧ ∀ r ∈ R, r.length = c
  | 0, m, rows, R, _, _, h => by simp [grd] at h
  | f + 1, m, rows, R, hr, hl, h => by
    rw [grd] at h
    split at h
    · cases h; exact ⟨hl, hr⟩
    · split at h
      · simp at h
      · rename_i hne
        refine grd_small f _ _ R (fun r hr2 => ?_) (by simp; omega) h
        rcases List.mem_append.1 hr2 with h1 | h1
        · exact hr r h1
        · rw [List.mem_singleton.1 h1]; exact nextRow_len ..
theorem total_cap {k : Nat} : ∀ {xss : List (List Int)}, (∀ x ∈ xss, x.length ≤ k) → total xss ≤ xss.length * k
  | [], _ => by simp [total]
  | x :: r, h => by
    have h1 := h x (by simp)
    have h2 := total_cap (xss := r) (fun y hy => h y (by simp [hy]))
    rw [total_cons, List.length_cons, Nat.succ_mul]; omega
theorem cpV_small (l c : Int) : total (cpV l c).2.2.1 ≤ 100000 := by
  unfold cpV
  split
  · rename_i h
    simp only [Bool.and_eq_true] at h
    have hc := shapeOk_iff.1 h.1
    cases hg : grd l.toNat c.toNat 257 [] [] with
    | none => simp [total]
    | some R =>
      obtain ⟨h1, h2⟩ := grd_small 257 [] [] R (by simp) (by simp) hg
      have h3 := total_cap (k := 8) (xss := R) (fun x hx => by have := h2 x hx; omega)
      simp only
      omega
  · simp [total]
theorem eqArr_ok (H : List Blk) (l c : Int) (a b : AV) (xs : List (List Int)) (ca : a.cell1 = true) (cb : b.cell1 = true) (ea : partsOf a = [a]) (eb : partsOf b = [b]) (ha : RdSS H a xs) (hb : RdSS H b xs) :
    ACalls Try.prog f_laws_eqArray [.agg [I l, I c, a], .agg [I l, I c, b]] H (fun r H' => r = Bv true ∧ H' = H) := by
  have hd : decide (xs = xs) = true := decide_eq_true rfl
  refine ACalls.introB s_laws_eqArray (by simp) ?_; intro hB hA; unfold c_laws_eqArray; simp (config := { maxSteps := 1000000 }) (disch := (first | omega | (simp only [go_sem]; try omega))) only [go_sem, Nat.reduceAdd, Nat.reduceEqDiff, Nat.reduceLeDiff, Nat.reduceMul, Nat.reduceLT, reduceIte, Int.reduceToNat, w64_id, cast_succ]
  repeat (first | (with_reducible first | refine SW.seq ?_ | refine SW.block ?_ | refine SW.rowC ?_ | refine SW.skip ?_ | refine SW.exit ?_ | intro _ | refine And.intro (by omega) ?_) | simp (config := { maxSteps := 1000000 }) (disch := (first | omega | (simp only [go_sem]; try omega))) only [go_sem, Nat.reduceAdd, Nat.reduceEqDiff, Nat.reduceLeDiff, Nat.reduceMul, Nat.reduceLT, reduceIte, Int.reduceToNat, w64_id, cast_succ, ca, cb, ea, eb])
  refine SW.condF (by simp [go_sem]) ?_
  repeat (first | (with_reducible first | refine SW.seq ?_ | refine SW.block ?_ | refine SW.rowC ?_ | refine SW.skip ?_ | refine SW.exit ?_ | intro _ | refine And.intro (by omega) ?_) | simp (config := { maxSteps := 1000000 }) (disch := (first | omega | (simp only [go_sem]; try omega))) only [go_sem, Nat.reduceAdd, Nat.reduceEqDiff, Nat.reduceLeDiff, Nat.reduceMul, Nat.reduceLT, reduceIte, Int.reduceToNat, w64_id, cast_succ, ca, cb, ea, eb])
  refine SW.condF (by simp [go_sem]) ?_
  repeat (first | (with_reducible first | refine SW.seq ?_ | refine SW.block ?_ | refine SW.rowC ?_ | refine SW.skip ?_ | refine SW.exit ?_ | intro _ | refine And.intro (by omega) ?_) | simp (config := { maxSteps := 1000000 }) (disch := (first | omega | (simp only [go_sem]; try omega))) only [go_sem, Nat.reduceAdd, Nat.reduceEqDiff, Nat.reduceLeDiff, Nat.reduceMul, Nat.reduceLT, reduceIte, Int.reduceToNat, w64_id, cast_succ, ca, cb, ea, eb])
  refine ACalls.fn (eqInt64SS_ok _ _ _ xs xs (ha.append _) (hb.append _)) ?_
  repeat (first | (with_reducible first | refine SW.seq ?_ | refine SW.block ?_ | refine SW.rowC ?_ | refine SW.skip ?_ | refine SW.exit ?_ | intro _ | refine And.intro (by omega) ?_) | simp (config := { maxSteps := 1000000 }) (disch := (first | omega | (simp only [go_sem]; try omega))) only [go_sem, Nat.reduceAdd, Nat.reduceEqDiff, Nat.reduceLeDiff, Nat.reduceMul, Nat.reduceLT, reduceIte, Int.reduceToNat, w64_id, cast_succ, hd])
  refine SW.condF rfl ?_
  repeat (first | (with_reducible first | refine SW.seq ?_ | refine SW.block ?_ | refine SW.rowC ?_ | refine SW.skip ?_ | refine SW.exit ?_ | intro _ | refine And.intro (by omega) ?_) | simp (config := { maxSteps := 1000000 }) (disch := (first | omega | (simp only [go_sem]; try omega))) only [go_sem, Nat.reduceAdd, Nat.reduceEqDiff, Nat.reduceLeDiff, Nat.reduceMul, Nat.reduceLT, reduceIte, Int.reduceToNat, w64_id, cast_succ])
  refine SW.ret ?_; (try simp only [go_sem]); (first | refine FunPost.one ?_ | refine FunPost.two ?_ | refine FunPost.three ?_); (try simp (config := { maxSteps := 1000000 }) (disch := (first | omega | (simp only [go_sem]; try omega))) only [go_sem, Nat.reduceAdd, Nat.reduceEqDiff, Nat.reduceLeDiff, Nat.reduceMul, Nat.reduceLT, reduceIte, Int.reduceToNat, w64_id, cast_succ])
  refine GR.drop (ext := [_, _]) (.lit _) ⟨rfl, rfl⟩
theorem markArr_ok (H : List Blk) (N : Nat → Prop) (l c k : Int) (a : AV) (xss : List (List Int)) (ca : a.cell1 = true) (ea : partsOf a = [a]) (ha : OwnSS H N a xss) (hk0 : 0 ≤ k) (hk : k + total xss ≤ 4611686018427387904) :
    ACalls Try.prog f_laws_markArray [.agg [I l, I c, a], I k] H (fun v H' => v = I (k + total xss) ∧ OwnSS H' N a (numbered k xss) ∧ H.length ≤ H'.length ∧ ∀ j, ¬ N j → j < H.length → H'[j]? = H[j]?) := by
  refine ACalls.introB s_laws_markArray (by simp) ?_; intro hB hA; unfold c_laws_markArray; simp (config := { maxSteps := 1000000 }) (disch := (first | omega | (simp only [go_sem]; try omega))) only [go_sem, Nat.reduceAdd, Nat.reduceEqDiff, Nat.reduceLeDiff, Nat.reduceMul, Nat.reduceLT, reduceIte, Int.reduceToNat, w64_id, cast_succ]
  repeat (first | (with_reducible first | refine SW.seq ?_ | refine SW.block ?_ | refine SW.rowC ?_ | refine SW.skip ?_ | refine SW.exit ?_ | intro _ | refine And.intro (by omega) ?_) | simp (config := { maxSteps := 1000000 }) (disch := (first | omega | (simp only [go_sem]; try omega))) only [go_sem, Nat.reduceAdd, Nat.reduceEqDiff, Nat.reduceLeDiff, Nat.reduceMul, Nat.reduceLT, reduceIte, Int.reduceToNat, w64_id, cast_succ, ca, ea])
  refine (markInt64SS_ok _ N a xss k (ha.append _) hk0 hk).mono ?_
  rintro v H2 ⟨rfl, g1, g2, g3⟩
  repeat (first | (with_reducible first | refine SW.seq ?_ | refine SW.block ?_ | refine SW.rowC ?_ | refine SW.skip ?_ | refine SW.exit ?_ | intro _ | refine And.intro (by omega) ?_) | simp (config := { maxSteps := 1000000 }) (disch := (first | omega | (simp only [go_sem]; try omega))) only [go_sem, Nat.reduceAdd, Nat.reduceEqDiff, Nat.reduceLeDiff, Nat.reduceMul, Nat.reduceLT, reduceIte, Int.reduceToNat, w64_id, cast_succ])
  refine SW.ret ?_; (try simp only [go_sem]); (first | refine FunPost.one ?_ | refine FunPost.two ?_ | refine FunPost.three ?_); (try simp (config := { maxSteps := 1000000 }) (disch := (first | omega | (simp only [go_sem]; try omega))) only [go_sem, Nat.reduceAdd, Nat.reduceEqDiff, Nat.reduceLeDiff, Nat.reduceMul, Nat.reduceLT, reduceIte, Int.reduceToNat, w64_id, cast_succ])
  refine GR.of ⟨rfl, g1, by rw [g2]; simp, fun j hj hl => ?_⟩
  rw [g3 j hj, List.getElem?_append_left hl]
theorem heldArr_ok (H : List Blk) (l c k : Int) (a : AV) (xss : List (List Int)) (ca : a.cell1 = true) (ea : partsOf a = [a]) (ha : RdSS H a (numbered k xss)) (hk0 : 0 ≤ k) (hk : k + total xss ≤ 4611686018427387904) :
    ACalls Try.prog f_laws_heldArray [.agg [I l, I c, a], I k] H (fun v H' => v = I (k + total xss) ∧ H' = H) := by
  have hd : decide (k + (total xss : Int) < 0) = false := decide_eq_false (by omega)
  refine ACalls.introB s_laws_heldArray (by simp) ?_; intro hB hA; unfold c_laws_heldArray; simp (config := { maxSteps := 1000000 }) (disch := (first | omega | (simp only [go_sem]; try omega))) only [go_sem, Nat.reduceAdd, Nat.reduceEqDiff, Nat.reduceLeDiff, Nat.reduceMul, Nat.reduceLT, reduceIte, Int.reduceToNat, w64_id, cast_succ]
  repeat (first | (with_reducible first | refine SW.seq ?_ | refine SW.block ?_ | refine SW.rowC ?_ | refine SW.skip ?_ | refine SW.exit ?_ | intro _ | refine And.intro (by omega) ?_) | simp (config := { maxSteps := 1000000 }) (disch := (first | omega | (simp only [go_sem]; try omega))) only [go_sem, Nat.reduceAdd, Nat.reduceEqDiff, Nat.reduceLeDiff, Nat.reduceMul, Nat.reduceLT, reduceIte, Int.reduceToNat, w64_id, cast_succ, ca, ea])
  refine ACalls.fn (heldInt64SS_ok _ a xss k (ha.append _) hk0 hk) ?_
  repeat (first | (with_reducible first | refine SW.seq ?_ | refine SW.block ?_ | refine SW.rowC ?_ | refine SW.skip ?_ | refine SW.exit ?_ | intro _ | refine And.intro (by omega) ?_) | simp (config := { maxSteps := 1000000 }) (disch := (first | omega | (simp only [go_sem]; try omega))) only [go_sem, Nat.reduceAdd, Nat.reduceEqDiff, Nat.reduceLeDiff, Nat.reduceMul, Nat.reduceLT, reduceIte, Int.reduceToNat, w64_id, cast_succ, hd])
  refine SW.condF rfl ?_
  repeat (first | (with_reducible first | refine SW.seq ?_ | refine SW.block ?_ | refine SW.rowC ?_ | refine SW.skip ?_ | refine SW.exit ?_ | intro _ | refine And.intro (by omega) ?_) | simp (config := { maxSteps := 1000000 }) (disch := (first | omega | (simp only [go_sem]; try omega))) only [go_sem, Nat.reduceAdd, Nat.reduceEqDiff, Nat.reduceLeDiff, Nat.reduceMul, Nat.reduceLT, reduceIte, Int.reduceToNat, w64_id, cast_succ])
  refine SW.ret ?_; (try simp only [go_sem]); (first | refine FunPost.one ?_ | refine FunPost.two ?_ | refine FunPost.three ?_); (try simp (config := { maxSteps := 1000000 }) (disch := (first | omega | (simp only [go_sem]; try omega))) only [go_sem, Nat.reduceAdd, Nat.reduceEqDiff, Nat.reduceLeDiff, Nat.reduceMul, Nat.reduceLT, reduceIte, Int.reduceToNat, w64_id, cast_succ])
  refine GR.drop (ext := [_]) (.lit _) ⟨rfl, rfl⟩
theorem lawCoverPairs_ok (H : List Blk) (l c : Int) : ACalls Try.prog f_laws_FnExactCoverPairs [I l, I c] H (fun r _ => r = Bv true) := by
  have hsp := specCover_fn l c
  have him := implCover_fa l c
  have hsm := cpV_small l c
  generalize (cpV l c).1 = L at *
  generalize (cpV l c).2.1 = C at *
  generalize (cpV l c).2.2.1 = rows at *
  generalize (cpV l c).2.2.2 = code at *
  refine ACalls.introB s_laws_FnExactCoverPairs (by simp) ?_; intro hB hA; unfold c_laws_FnExactCoverPairs; simp (config := { maxSteps := 1000000 }) (disch := (first | omega | (simp only [go_sem]; try omega))) only [go_sem, Nat.reduceAdd, Nat.reduceEqDiff, Nat.reduceLeDiff, Nat.reduceMul, Nat.reduceLT, reduceIte, Int.reduceToNat, w64_id, cast_succ]
  repeat (first | (with_reducible first | refine SW.seq ?_ | refine SW.block ?_ | refine SW.rowC ?_ | refine SW.skip ?_ | refine SW.exit ?_ | refine PFn.use (hsp) ?_ | refine PFn.useq (hsp) ?_ | intro _ | refine And.intro (by omega) ?_) | simp (config := { maxSteps := 1000000 }) (disch := (first | omega | (simp only [go_sem]; try omega))) only [go_sem, Nat.reduceAdd, Nat.reduceEqDiff, Nat.reduceLeDiff, Nat.reduceMul, Nat.reduceLT, reduceIte, Int.reduceToNat, w64_id, cast_succ])
  refine (him _).mono ?_
  rintro r H1 ⟨ext, v, hH1, rfl, own⟩
  have pw := getAppF (show (H ++ [(⟨0, tyArr, 1, [I L, I C, ilSS rows]⟩ : Blk)])[H.length]? = some ⟨0, tyArr, 1, [I L, I C, ilSS rows]⟩ by simp) ext
  rw [← hH1] at pw
  have hb : (H ++ [(⟨0, tyArr, 1, [I L, I C, ilSS rows]⟩ : Blk)]).length = H.length + 1 := by simp
  rw [hb] at own
  have hlt : H.length < H1.length := by rw [hH1]; simp
  have one : v.cell1 = true ∧ partsOf v = [v] := by
    rcases own with ⟨t, ver, ty, cells, rfl, h⟩ | ⟨rfl, rfl | rfl⟩ <;> exact ⟨rfl, rfl⟩
  clear hH1 hb
  repeat (first | (with_reducible first | refine SW.seq ?_ | refine SW.block ?_ | refine SW.rowC ?_ | refine SW.skip ?_ | refine SW.exit ?_ | intro _ | refine And.intro (by omega) ?_) | simp (config := { maxSteps := 1000000 }) (disch := (first | omega | (simp only [go_sem]; try omega))) only [go_sem, Nat.reduceAdd, Nat.reduceEqDiff, Nat.reduceLeDiff, Nat.reduceMul, Nat.reduceLT, reduceIte, Int.reduceToNat, w64_id, cast_succ, one.1, one.2])
  have pg : (H1 ++ [(⟨0, tyArr, 1, [I L, I C, v]⟩ : Blk)])[H1.length]? = some ⟨0, tyArr, 1, [I L, I C, v]⟩ := by simp
  replace pw := getAppF pw [⟨0, tyArr, 1, [I L, I C, v]⟩]
  replace own := own.append [⟨0, tyArr, 1, [I L, I C, v]⟩]
  have hlb : Btw (H.length + 1) H1.length H1.length = False := by unfold Btw; simp
  have hg2 := (List.getElem?_eq_some_iff.1 pg).1
  generalize hg : H1.length = g at *
  generalize hH2 : H1 ++ [(⟨0, tyArr, 1, [I L, I C, v]⟩ : Blk)] = H2 at *
  clear hH2 hg
  repeat (first | (with_reducible first | refine SW.seq ?_ | refine SW.block ?_ | refine SW.rowC ?_ | refine SW.skip ?_ | refine SW.exit ?_ | intro _ | refine And.intro (by omega) ?_) | simp (config := { maxSteps := 1000000 }) (disch := (first | omega | (simp only [go_sem]; try omega))) only [go_sem, Nat.reduceAdd, Nat.reduceEqDiff, Nat.reduceLeDiff, Nat.reduceMul, Nat.reduceLT, reduceIte, Int.reduceToNat, w64_id, cast_succ, pc_lds (off := 0) (n := 3) pg (by simp), pc_lds (off := 0) (n := 3) pw (by simp), pc_alive pg, pc_alive pw, one.1, one.2])
  refine ACalls.fn (eqArr_ok _ L C v (ilSS rows) rows one.1 rfl one.2 rfl own.rd (rd_ilSS _ _)) ?_
  repeat (first | (with_reducible first | refine SW.seq ?_ | refine SW.block ?_ | refine SW.rowC ?_ | refine SW.skip ?_ | refine SW.exit ?_ | intro _ | refine And.intro (by omega) ?_) | simp (config := { maxSteps := 1000000 }) (disch := (first | omega | (simp only [go_sem]; try omega))) only [go_sem, Nat.reduceAdd, Nat.reduceEqDiff, Nat.reduceLeDiff, Nat.reduceMul, Nat.reduceLT, reduceIte, Int.reduceToNat, w64_id, cast_succ])
  refine SW.condF (by simp [go_sem]) ?_
  repeat (first | (with_reducible first | refine SW.seq ?_ | refine SW.block ?_ | refine SW.rowC ?_ | refine SW.skip ?_ | refine SW.exit ?_ | intro _ | refine And.intro (by omega) ?_) | simp (config := { maxSteps := 1000000 }) (disch := (first | omega | (simp only [go_sem]; try omega))) only [go_sem, Nat.reduceAdd, Nat.reduceEqDiff, Nat.reduceLeDiff, Nat.reduceMul, Nat.reduceLT, reduceIte, Int.reduceToNat, w64_id, cast_succ, pc_lds (off := 0) (n := 3) pg (by simp), one.1, one.2])
  have hneg : decide ((1 : Int) + total rows < 0) = false := decide_eq_false (by omega)
  refine (markArr_ok _ _ L C 1 v rows one.1 one.2 own (by omega) (by omega)).mono ?_
  rintro r H3 ⟨rfl, own3, m1, m2⟩
  replace pw : H3[H.length]? = _ := (m2 _ (by unfold Btw; omega) (by omega)).trans pw
  replace pg : H3[g]? = _ := (m2 _ (by unfold Btw; omega) (by omega)).trans pg
  have hg3 := (List.getElem?_eq_some_iff.1 pg).1
  clear own m1 m2 hg2
  repeat (first | (with_reducible first | refine SW.seq ?_ | refine SW.block ?_ | refine SW.rowC ?_ | refine SW.skip ?_ | refine SW.exit ?_ | intro _ | refine And.intro (by omega) ?_) | simp (config := { maxSteps := 1000000 }) (disch := (first | omega | (simp only [go_sem]; try omega))) only [go_sem, Nat.reduceAdd, Nat.reduceEqDiff, Nat.reduceLeDiff, Nat.reduceMul, Nat.reduceLT, reduceIte, Int.reduceToNat, w64_id, cast_succ, pc_lds (off := 0) (n := 3) pg (by simp), one.1, one.2])
  refine ACalls.fn (heldArr_ok _ L C 1 v rows one.1 one.2 own3.rd (by omega) (by omega)) ?_
  repeat (first | (with_reducible first | refine SW.seq ?_ | refine SW.block ?_ | refine SW.rowC ?_ | refine SW.skip ?_ | refine SW.exit ?_ | intro _ | refine And.intro (by omega) ?_) | simp (config := { maxSteps := 1000000 }) (disch := (first | omega | (simp only [go_sem]; try omega))) only [go_sem, Nat.reduceAdd, Nat.reduceEqDiff, Nat.reduceLeDiff, Nat.reduceMul, Nat.reduceLT, reduceIte, Int.reduceToNat, w64_id, cast_succ, hneg])
  refine SW.condF rfl ?_
  repeat (first | (with_reducible first | refine SW.seq ?_ | refine SW.block ?_ | refine SW.rowC ?_ | refine SW.skip ?_ | refine SW.exit ?_ | intro _ | refine And.intro (by omega) ?_) | simp (config := { maxSteps := 1000000 }) (disch := (first | omega | (simp only [go_sem]; try omega))) only [go_sem, Nat.reduceAdd, Nat.reduceEqDiff, Nat.reduceLeDiff, Nat.reduceMul, Nat.reduceLT, reduceIte, Int.reduceToNat, w64_id, cast_succ])
  refine SW.condF (by simp [go_sem]) ?_
  repeat (first | (with_reducible first | refine SW.seq ?_ | refine SW.block ?_ | refine SW.rowC ?_ | refine SW.skip ?_ | refine SW.exit ?_ | intro _ | refine And.intro (by omega) ?_) | simp (config := { maxSteps := 1000000 }) (disch := (first | omega | (simp only [go_sem]; try omega))) only [go_sem, Nat.reduceAdd, Nat.reduceEqDiff, Nat.reduceLeDiff, Nat.reduceMul, Nat.reduceLT, reduceIte, Int.reduceToNat, w64_id, cast_succ])
  refine (him _).mono ?_
  rintro r H4 ⟨ext2, v2, hH4, rfl, own4⟩
  have one2 : v2.cell1 = true ∧ partsOf v2 = [v2] := by
    rcases own4 with ⟨t, ver, ty, cells, rfl, h⟩ | ⟨rfl, rfl | rfl⟩ <;> exact ⟨rfl, rfl⟩
  replace pw := getAppF pw ext2
  replace pg := getAppF pg ext2
  replace own3 := own3.append ext2
  rw [← hH4] at pw pg own3
  clear hH4
  repeat (first | (with_reducible first | refine SW.seq ?_ | refine SW.block ?_ | refine SW.rowC ?_ | refine SW.skip ?_ | refine SW.exit ?_ | intro _ | refine And.intro (by omega) ?_) | simp (config := { maxSteps := 1000000 }) (disch := (first | omega | (simp only [go_sem]; try omega))) only [go_sem, Nat.reduceAdd, Nat.reduceEqDiff, Nat.reduceLeDiff, Nat.reduceMul, Nat.reduceLT, reduceIte, Int.reduceToNat, w64_id, cast_succ, one2.1, one2.2])
  have ph : (H4 ++ [(⟨0, tyArr, 1, [I L, I C, v2]⟩ : Blk)])[H4.length]? = some ⟨0, tyArr, 1, [I L, I C, v2]⟩ := by simp
  replace pw := getAppF pw [⟨0, tyArr, 1, [I L, I C, v2]⟩]
  replace pg := getAppF pg [⟨0, tyArr, 1, [I L, I C, v2]⟩]
  replace own3 := own3.append [⟨0, tyArr, 1, [I L, I C, v2]⟩]
  replace own4 := own4.append [⟨0, tyArr, 1, [I L, I C, v2]⟩]
  generalize hg4 : H4.length = g4 at *
  generalize hH5 : H4 ++ [(⟨0, tyArr, 1, [I L, I C, v2]⟩ : Blk)] = H5 at *
  clear hH5 hg4
  repeat (first | (with_reducible first | refine SW.seq ?_ | refine SW.block ?_ | refine SW.rowC ?_ | refine SW.skip ?_ | refine SW.exit ?_ | intro _ | refine And.intro (by omega) ?_) | simp (config := { maxSteps := 1000000 }) (disch := (first | omega | (simp only [go_sem]; try omega))) only [go_sem, Nat.reduceAdd, Nat.reduceEqDiff, Nat.reduceLeDiff, Nat.reduceMul, Nat.reduceLT, reduceIte, Int.reduceToNat, w64_id, cast_succ, pc_lds (off := 0) (n := 3) ph (by simp), pc_lds (off := 0) (n := 3) pw (by simp), pc_alive ph, pc_alive pw, one2.1, one2.2])
  refine ACalls.fn (eqArr_ok _ L C v2 (ilSS rows) rows one2.1 rfl one2.2 rfl own4.rd (rd_ilSS _ _)) ?_
  repeat (first | (with_reducible first | refine SW.seq ?_ | refine SW.block ?_ | refine SW.rowC ?_ | refine SW.skip ?_ | refine SW.exit ?_ | intro _ | refine And.intro (by omega) ?_) | simp (config := { maxSteps := 1000000 }) (disch := (first | omega | (simp only [go_sem]; try omega))) only [go_sem, Nat.reduceAdd, Nat.reduceEqDiff, Nat.reduceLeDiff, Nat.reduceMul, Nat.reduceLT, reduceIte, Int.reduceToNat, w64_id, cast_succ])
  refine SW.condF (by simp [go_sem]) ?_
  repeat (first | (with_reducible first | refine SW.seq ?_ | refine SW.block ?_ | refine SW.rowC ?_ | refine SW.skip ?_ | refine SW.exit ?_ | intro _ | refine And.intro (by omega) ?_) | simp (config := { maxSteps := 1000000 }) (disch := (first | omega | (simp only [go_sem]; try omega))) only [go_sem, Nat.reduceAdd, Nat.reduceEqDiff, Nat.reduceLeDiff, Nat.reduceMul, Nat.reduceLT, reduceIte, Int.reduceToNat, w64_id, cast_succ, pc_lds (off := 0) (n := 3) pg (by simp), one.1, one.2])
  refine ACalls.fn (heldArr_ok _ L C 1 v rows one.1 one.2 own3.rd (by omega) (by omega)) ?_
  repeat (first | (with_reducible first | refine SW.seq ?_ | refine SW.block ?_ | refine SW.rowC ?_ | refine SW.skip ?_ | refine SW.exit ?_ | intro _ | refine And.intro (by omega) ?_) | simp (config := { maxSteps := 1000000 }) (disch := (first | omega | (simp only [go_sem]; try omega))) only [go_sem, Nat.reduceAdd, Nat.reduceEqDiff, Nat.reduceLeDiff, Nat.reduceMul, Nat.reduceLT, reduceIte, Int.reduceToNat, w64_id, cast_succ, hneg])
  refine SW.condF rfl ?_
  repeat (first | (with_reducible first | refine SW.seq ?_ | refine SW.block ?_ | refine SW.rowC ?_ | refine SW.skip ?_ | refine SW.exit ?_ | intro _ | refine And.intro (by omega) ?_) | simp (config := { maxSteps := 1000000 }) (disch := (first | omega | (simp only [go_sem]; try omega))) only [go_sem, Nat.reduceAdd, Nat.reduceEqDiff, Nat.reduceLeDiff, Nat.reduceMul, Nat.reduceLT, reduceIte, Int.reduceToNat, w64_id, cast_succ])
  refine SW.condF (by simp [go_sem]) ?_
  repeat (first | (with_reducible first | refine SW.seq ?_ | refine SW.block ?_ | refine SW.rowC ?_ | refine SW.skip ?_ | refine SW.exit ?_ | intro _ | refine And.intro (by omega) ?_) | simp (config := { maxSteps := 1000000 }) (disch := (first | omega | (simp only [go_sem]; try omega))) only [go_sem, Nat.reduceAdd, Nat.reduceEqDiff, Nat.reduceLeDiff, Nat.reduceMul, Nat.reduceLT, reduceIte, Int.reduceToNat, w64_id, cast_succ])
  refine SW.ret ?_; (try simp only [go_sem]); (first | refine FunPost.one ?_ | refine FunPost.two ?_ | refine FunPost.three ?_); (try simp (config := { maxSteps := 1000000 }) (disch := (first | omega | (simp only [go_sem]; try omega))) only [go_sem, Nat.reduceAdd, Nat.reduceEqDiff, Nat.reduceLeDiff, Nat.reduceMul, Nat.reduceLT, reduceIte, Int.reduceToNat, w64_id, cast_succ])
  exact GR.of rfl
end Go.Proofs.Ythogadbnddmkdaa
