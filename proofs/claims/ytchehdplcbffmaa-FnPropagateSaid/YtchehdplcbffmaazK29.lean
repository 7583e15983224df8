/- Partial squares: valid ones. -/
import Derived.Test.YtchehdplcbffmaaProg
import Derived.KernelRfl
import Derived.Test.YtchehdplcbffmaazQZ
import Derived.Test.YtchehdplcbffmaazU1
import Derived.Test.YtchehdplcbffmaazL7
import Derived.Test.YtchehdplcbffmaazK1
import Derived.Test.YtchehdplcbffmaazK6
import Derived.Test.YtchehdplcbffmaazK2
import Derived.Test.YtchehdplcbffmaazK18
set_option linter.unusedSimpArgs false
set_option linter.unusedVariables false
set_option maxHeartbeats 4000000
set_option maxRecDepth 100000
namespace Go.Proofs.Ytchehdplcbffmaa
open Go.Av
abbrev f_impl_ValidPartial : Nat := 19
def c_impl_ValidPartial : SC :=
 .seq (.reg [
     ⟨(some 2), .mv (.const (.bool false)), none⟩] [0])
 (.seq (.reg [
     ⟨(some 8), .mv (.tmp 0), none⟩,
     ⟨(some 9), .call 42 [(.tmp 8)], none⟩,
     ⟨(some 3), .mv (.tmp 9), none⟩] [0, 3])
 (.seq (.seq (.reg [
     ⟨(some 10), .mv (.tmp 3), none⟩,
     ⟨(some 11), .call 45 [(.tmp 10), (.const (.int .i64 1)), (.const (.int .i64 10))], none⟩,
     ⟨(some 12), .un .not (.tmp 11), none⟩] [0, 3, 12])
 (.cond (.tmp 12)
  (.seq (.reg [
      ⟨(some 2), .mv (.const (.bool false)), none⟩] [2])
  (.ret))
  (.skip)))
 (.seq (.seq (.reg [
     ⟨(some 13), .mv (.tmp 0), none⟩,
     ⟨(some 14), .len (.tmp 13), none⟩,
     ⟨(some 15), .mv (.const (.int .i64 0)), none⟩] [0, 3, 13, 14, 15])
 (.block 0 (.loop [0, 3, 13, 14, 15]
   (.seq (.reg [
       ⟨(some 16), .bin .lss (.tmp 15) (.tmp 14), none⟩] [0, 3, 13, 14, 15, 16])
   (.seq (.cond (.tmp 16)
    (.skip)
    (.exit 0))
   (.seq (.block 1 (.seq (.reg [
        ⟨(some 17), .mv (.tmp 15), none⟩,
        ⟨(some 18), .iaddr 1 (.tmp 13) (.tmp 15), none⟩,
        ⟨(some 19), .load 1 false (.tmp 18), none⟩,
        ⟨(some 4), .mv (.tmp 17), none⟩,
        ⟨(some 5), .mv (.tmp 19), none⟩] [0, 3, 4, 5, 13, 14, 15])
    (.seq (.seq (.reg [
        ⟨(some 20), .mv (.tmp 5), none⟩,
        ⟨(some 21), .call 48 [(.tmp 20)], none⟩,
        ⟨(some 22), .mv (.tmp 3), none⟩,
        ⟨(some 23), .bin .neq (.tmp 21) (.tmp 22), none⟩] [0, 3, 4, 5, 13, 14, 15, 23])
    (.cond (.tmp 23)
     (.seq (.reg [
         ⟨(some 2), .mv (.const (.bool false)), none⟩] [2])
     (.ret))
     (.skip)))
    (.seq (.reg [
        ⟨(some 24), .mv (.tmp 5), none⟩,
        ⟨(some 25), .len (.tmp 24), none⟩,
        ⟨(some 26), .mv (.const (.int .i64 0)), none⟩] [0, 3, 4, 5, 13, 14, 15, 24, 25, 26])
    (.block 2 (.loop [0, 3, 4, 5, 13, 14, 15, 24, 25, 26]
      (.seq (.reg [
          ⟨(some 27), .bin .lss (.tmp 26) (.tmp 25), none⟩] [0, 3, 4, 5, 13, 14, 15, 24, 25, 26, 27])
      (.seq (.cond (.tmp 27)
       (.skip)
       (.exit 2))
      (.seq (.block 3 (.seq (.reg [
           ⟨(some 28), .mv (.tmp 26), none⟩,
           ⟨(some 29), .iaddr 1 (.tmp 24) (.tmp 26), none⟩,
           ⟨(some 30), .load 1 false (.tmp 29), none⟩,
           ⟨(some 6), .mv (.tmp 28), none⟩,
           ⟨(some 7), .mv (.tmp 30), none⟩] [0, 3, 4, 5, 6, 7, 13, 14, 15, 24, 25, 26])
       (.seq (.reg [
           ⟨(some 31), .mv (.tmp 7), none⟩,
           ⟨(some 32), .mv (.tmp 3), none⟩,
           ⟨(some 33), .bin .sub (.tmp 32) (.const (.int .i64 1)), none⟩,
           ⟨(some 34), .call 45 [(.tmp 31), (.const (.int .i64 (-1))), (.tmp 33)], none⟩,
           ⟨(some 35), .un .not (.tmp 34), none⟩,
           ⟨(some 36), .mv (.tmp 35), none⟩,
           ⟨(some 37), .mv (.tmp 7), (some (36, false))⟩,
           ⟨(some 38), .bin .neq (.tmp 37) (.const (.int .i64 (-1))), (some (36, false))⟩,
           ⟨(some 39), .mv (.tmp 38), (some (36, false))⟩,
           ⟨(some 40), .mv (.tmp 5), (some (39, true))⟩,
           ⟨(some 41), .mv (.tmp 6), (some (39, true))⟩,
           ⟨(some 42), .slc 1 (.tmp 40) none (some (.tmp 41)), (some (39, true))⟩,
           ⟨(some 43), .mv (.tmp 7), (some (39, true))⟩,
           ⟨(some 44), .call 53 [(.tmp 42), (.tmp 43)], (some (39, true))⟩,
           ⟨(some 45), .mv (.tmp 44), (some (39, true))⟩,
           ⟨(some 46), .mv (.tmp 0), (some (45, false))⟩,
           ⟨(some 47), .mv (.tmp 4), (some (45, false))⟩,
           ⟨(some 48), .slc 1 (.tmp 46) none (some (.tmp 47)), (some (45, false))⟩,
           ⟨(some 49), .mv (.tmp 6), (some (45, false))⟩,
           ⟨(some 50), .mv (.tmp 7), (some (45, false))⟩,
           ⟨(some 51), .call 54 [(.tmp 48), (.tmp 49), (.tmp 50)], (some (45, false))⟩,
           ⟨(some 52), .pick (.tmp 45) (.const (.bool true)) (.tmp 51), (some (39, true))⟩,
           ⟨(some 53), .pick (.tmp 39) (.tmp 52) (.const (.bool false)), (some (36, false))⟩,
           ⟨(some 54), .pick (.tmp 36) (.const (.bool true)) (.tmp 53), none⟩] [0, 3, 4, 5, 13, 14, 15, 24, 25, 26, 54])
       (.cond (.tmp 54)
        (.seq (.reg [
            ⟨(some 2), .mv (.const (.bool false)), none⟩] [2])
        (.ret))
        (.skip)))))
      (.reg [
          ⟨(some 55), .bin .add (.tmp 26) (.const (.int .i64 1)), none⟩,
          ⟨(some 26), .mv (.tmp 55), none⟩] [0, 3, 4, 5, 13, 14, 15, 24, 25, 26]))))))))))
   (.reg [
       ⟨(some 56), .bin .add (.tmp 15) (.const (.int .i64 1)), none⟩,
       ⟨(some 15), .mv (.tmp 56), none⟩] [0, 3, 13, 14, 15])))))))
 (.seq (.reg [
     ⟨(some 2), .mv (.const (.bool true)), none⟩] [2])
 (.ret)))))
theorem s_impl_ValidPartial : stripF Try.prog 19 [[0], [0, 3], [0, 3, 12], [2], [0, 3, 13, 14, 15], [0, 3, 13, 14, 15], [0, 3, 13, 14, 15, 16], [0, 3, 4, 5, 13, 14, 15], [0, 3, 4, 5, 13, 14, 15, 23], [2], [0, 3, 4, 5, 13, 14, 15, 24, 25, 26], [0, 3, 4, 5, 13, 14, 15, 24, 25, 26], [0, 3, 4, 5, 13, 14, 15, 24, 25, 26, 27], [0, 3, 4, 5, 6, 7, 13, 14, 15, 24, 25, 26], [0, 3, 4, 5, 13, 14, 15, 24, 25, 26, 54], [2], [0, 3, 4, 5, 13, 14, 15, 24, 25, 26], [0, 3, 13, 14, 15], [2]] = some (c_impl_ValidPartial, [.tmp 2], 57) := by kernel_rfl
abbrev f_impl_inColumn : Nat := 54
def c_impl_inColumn : SC :=
 .seq (.reg [
     ⟨(some 4), .box 2 (.tmp 1), none⟩,
     ⟨(some 5), .box 2 (.tmp 2), none⟩,
     ⟨(some 6), .mv (.const (.bool false)), none⟩] [0, 4, 5])
 (.seq (.reg [
     ⟨(some 7), .mv (.tmp 0), none⟩,
     ⟨(some 8), .mkf 91 [(.tmp 4), (.tmp 5)], none⟩,
     ⟨(some 9), .call 90 [(.tmp 7), (.tmp 8)], none⟩,
     ⟨(some 6), .mv (.tmp 9), none⟩] [6])
 (.ret))
theorem s_impl_inColumn : stripF Try.prog 54 [[0, 4, 5], [6]] = some (c_impl_inColumn, [.tmp 6], 10) := by kernel_rfl
abbrev f_impl_inColumn_c1 : Nat := 91
def c_impl_inColumn_c1 : SC :=
 .seq (.reg [
     ⟨(some 4), .mv (.const (.bool false)), none⟩] [0, 1, 2])
 (.seq (.reg [
     ⟨(some 5), .mv (.tmp 0), none⟩,
     ⟨(some 6), .load 1 false (.tmp 1), none⟩,
     ⟨(some 7), .iaddr 1 (.tmp 5) (.tmp 6), none⟩,
     ⟨(some 8), .load 1 false (.tmp 7), none⟩,
     ⟨(some 9), .load 1 false (.tmp 2), none⟩,
     ⟨(some 10), .bin .eql (.tmp 8) (.tmp 9), none⟩,
     ⟨(some 4), .mv (.tmp 10), none⟩] [4])
 (.ret))
theorem s_impl_inColumn_c1 : stripF Try.prog 91 [[0, 1, 2], [4]] = some (c_impl_inColumn_c1, [.tmp 4], 11) := by kernel_rfl
@[go_sem] theorem slcS {H : List Blk} (K : AV → Prop) (xs : List Int) (z y : Int) (h0 : 0 ≤ z) (h1 : z ≤ y) (h2 : y ≤ xs.length) : SlcG 1 (ilS xs) z y H K (some (xs.length, xs.map I)) = K (ilS ((xs.drop z.toNat).take (y.toNat - z.toNat))) := slc_ilS 1 K xs z y h0 h1 h2
@[go_sem] theorem slc_ilSS {H : List Blk} (K : AV → Prop) (xs : List (List Int)) (z y : Int) (h0 : 0 ≤ z) (h1 : z ≤ y) (h2 : y ≤ xs.length) : SlcG 1 (ilSS xs) z y H K (some (xs.length, xs.map ilS)) = K (ilSS ((xs.drop z.toNat).take (y.toNat - z.toNat))) := by
  unfold ilSS
  rw [SlcG_il (h0 := h0) (h1 := h1) (h2 := h2)]
  simp only [Nat.mul_one, ← List.map_drop, ← List.map_take, List.length_take, List.length_drop]
  rw [Nat.min_eq_left (by omega)]
def cellAt (p : List (List Int)) (x y : Nat) : Int := (p.getD x []).getD y 0
def colHas (rows : List (List Int)) (y : Nat) (s : Int) : Bool := rows.any fun r => decide (r.getD y 0 = s)
theorem inColumn_c1_ok (H : List Blk) (p1 p2 : Nat) (row : List Int) (y : Nat) (s : Int) (hy : y < row.length) (h1 : H[p1]? = some ⟨0, 2, 1, [I y]⟩) (h2 : H[p2]? = some ⟨0, 2, 1, [I s]⟩) :
    ACalls Try.prog f_impl_inColumn_c1 [ilS row, .pc p1 0 0, .pc p2 0 0] H (fun r H' => r = Bv (decide (row.getD y 0 = s)) ∧ H' = H) := by
  refine ACalls.introB s_impl_inColumn_c1 (by simp) ?_; intro hB hA; unfold c_impl_inColumn_c1; simp (config := { maxSteps := 1000000 }) (disch := (first | omega | (simp only [go_sem]; try omega))) only [go_sem, Nat.reduceAdd, Nat.reduceEqDiff, Nat.reduceLeDiff, Nat.reduceMul, Nat.reduceLT, reduceIte, Int.reduceToNat, w64_id, cast_succ]
  repeat (first | (with_reducible first | refine SW.seq ?_ | refine SW.block ?_ | refine SW.rowC ?_ | refine SW.skip ?_ | refine SW.exit ?_ | intro _ | refine And.intro (by omega) ?_) | simp (config := { maxSteps := 1000000 }) (disch := (first | omega | (simp only [go_sem]; try omega))) only [go_sem, Nat.reduceAdd, Nat.reduceEqDiff, Nat.reduceLeDiff, Nat.reduceMul, Nat.reduceLT, reduceIte, Int.reduceToNat, w64_id, cast_succ, pc_ld h1, pc_alive h1, pc_ld h2, pc_alive h2])
  refine SW.ret ?_; (try simp only [go_sem]); (first | refine FunPost.one ?_ | refine FunPost.two ?_ | refine FunPost.three ?_); (try simp (config := { maxSteps := 1000000 }) (disch := (first | omega | (simp only [go_sem]; try omega))) only [go_sem, Nat.reduceAdd, Nat.reduceEqDiff, Nat.reduceLeDiff, Nat.reduceMul, Nat.reduceLT, reduceIte, Int.reduceToNat, w64_id, cast_succ]); (first | (with_reducible refine GR.drop ?_ ?_; (simp only [go_sem, and_self, and_true, true_and, implies_true, List.take_succ_cons, List.take_zero])) | refine GR.of ?_); refine ⟨?_, rfl⟩; (try with_reducible rfl)
theorem inColumn_fn (rows : List (List Int)) (y : Nat) (s : Int) (hy : ∀ r ∈ rows, y < r.length) : PFn Try.prog f_impl_inColumn [ilSS rows, I y, I s] (Bv (colHas rows y s)) := by
  intro H; refine ACalls.introB s_impl_inColumn (by simp) ?_; intro hB hA; unfold c_impl_inColumn; simp (config := { maxSteps := 1000000 }) (disch := (first | omega | (simp only [go_sem]; try omega))) only [go_sem, Nat.reduceAdd, Nat.reduceEqDiff, Nat.reduceLeDiff, Nat.reduceMul, Nat.reduceLT, reduceIte, Int.reduceToNat, w64_id, cast_succ]
  repeat (first | (with_reducible first | refine SW.seq ?_ | refine SW.block ?_ | refine SW.rowC ?_ | refine SW.skip ?_ | refine SW.exit ?_ | intro _ | refine And.intro (by omega) ?_) | simp (config := { maxSteps := 1000000 }) (disch := (first | omega | (simp only [go_sem]; try omega))) only [go_sem, Nat.reduceAdd, Nat.reduceEqDiff, Nat.reduceLeDiff, Nat.reduceMul, Nat.reduceLT, reduceIte, Int.reduceToNat, w64_id, cast_succ])
  refine (conSS_ok ilS _ _ rows rfl _ _ (by kernel_rfl) (fun r => decide (r.getD y 0 = s)) (fun r hr => inColumn_c1_ok _ H.length (H.length + 1) r y s (hy r hr) (by simp) (by simp))).mono ?_
  rintro r H' ⟨rfl, rfl⟩
  repeat (first | (with_reducible first | refine SW.seq ?_ | refine SW.block ?_ | refine SW.rowC ?_ | refine SW.skip ?_ | refine SW.exit ?_ | intro _ | refine And.intro (by omega) ?_) | simp (config := { maxSteps := 1000000 }) (disch := (first | omega | (simp only [go_sem]; try omega))) only [go_sem, Nat.reduceAdd, Nat.reduceEqDiff, Nat.reduceLeDiff, Nat.reduceMul, Nat.reduceLT, reduceIte, Int.reduceToNat, w64_id, cast_succ])
  refine SW.ret ?_; (try simp only [go_sem]); (first | refine FunPost.one ?_ | refine FunPost.two ?_ | refine FunPost.three ?_); (try simp (config := { maxSteps := 1000000 }) (disch := (first | omega | (simp only [go_sem]; try omega))) only [go_sem, Nat.reduceAdd, Nat.reduceEqDiff, Nat.reduceLeDiff, Nat.reduceMul, Nat.reduceLT, reduceIte, Int.reduceToNat, w64_id, cast_succ]); (first | (with_reducible refine GR.drop ?_ ?_; (simp only [go_sem, and_self, and_true, true_and, implies_true, List.take_succ_cons, List.take_zero])) | refine GR.of ?_); refine ⟨?_, rfl⟩; (try with_reducible rfl)
  rfl
def okC (p : List (List Int)) (x y : Nat) : Bool := decide (-1 ≤ cellAt p x y) && decide (cellAt p x y ≤ p.length - 1) && (decide (cellAt p x y = -1) || !((p.getD x []).take y).contains (cellAt p x y) && !colHas (p.take x) y (cellAt p x y))
def partB (p : List (List Int)) : Bool := decide (1 ≤ p.length) && decide (p.length ≤ 10) && p.all (fun r => decide (r.length = p.length)) && (List.range p.length).all fun x => (List.range p.length).all fun y => okC p x y
theorem ValidPartial_fn (p : List (List Int)) : PFn Try.prog f_impl_ValidPartial [ilSS p] (Bv (partB p)) := by
  intro H; refine ACalls.introB s_impl_ValidPartial (by simp) ?_; intro hB hA; unfold c_impl_ValidPartial; simp (config := { maxSteps := 1000000 }) (disch := (first | omega | (simp only [go_sem]; try omega))) only [go_sem, Nat.reduceAdd, Nat.reduceEqDiff, Nat.reduceLeDiff, Nat.reduceMul, Nat.reduceLT, reduceIte, Int.reduceToNat, w64_id, cast_succ]
  repeat (first | (with_reducible first | refine SW.seq ?_ | refine SW.block ?_ | refine SW.rowC ?_ | refine SW.skip ?_ | refine SW.exit ?_ | refine PFn.use (sizeS_fn _) ?_ | refine PFn.useq (sizeS_fn _) ?_ | refine PFn.use (within_fn _ _ _) ?_ | refine PFn.useq (within_fn _ _ _) ?_ | intro _ | refine And.intro (by omega) ?_) | simp (config := { maxSteps := 1000000 }) (disch := (first | omega | (simp only [go_sem]; try omega))) only [go_sem, Nat.reduceAdd, Nat.reduceEqDiff, Nat.reduceLeDiff, Nat.reduceMul, Nat.reduceLT, reduceIte, Int.reduceToNat, w64_id, cast_succ])
  (first | refine SW.condD rfl (fun h0 => ?_) (fun h0 => ?_) | refine SW.condN rfl (fun h0 => ?_) (fun h0 => ?_) | refine SW.condNB rfl (fun h0 => ?_) (fun h0 => ?_) | refine SW.condB rfl (fun h0 => ?_) (fun h0 => ?_))
  · repeat (first | (with_reducible first | refine SW.seq ?_ | refine SW.block ?_ | refine SW.rowC ?_ | refine SW.skip ?_ | refine SW.exit ?_ | intro _ | refine And.intro (by omega) ?_) | simp (config := { maxSteps := 1000000 }) (disch := (first | omega | (simp only [go_sem]; try omega))) only [go_sem, Nat.reduceAdd, Nat.reduceEqDiff, Nat.reduceLeDiff, Nat.reduceMul, Nat.reduceLT, reduceIte, Int.reduceToNat, w64_id, cast_succ])
    refine SW.ret ?_; (try simp only [go_sem]); (first | refine FunPost.one ?_ | refine FunPost.two ?_ | refine FunPost.three ?_); (try simp (config := { maxSteps := 1000000 }) (disch := (first | omega | (simp only [go_sem]; try omega))) only [go_sem, Nat.reduceAdd, Nat.reduceEqDiff, Nat.reduceLeDiff, Nat.reduceMul, Nat.reduceLT, reduceIte, Int.reduceToNat, w64_id, cast_succ]); (first | (with_reducible refine GR.drop ?_ ?_; (simp only [go_sem, and_self, and_true, true_and, implies_true, List.take_succ_cons, List.take_zero])) | refine GR.of ?_); refine ⟨?_, rfl⟩; (try with_reducible rfl)
    simp at h0
    have : ¬ (1 ≤ p.length ∧ p.length ≤ 10) := by omega
    unfold partB
    by_cases h1 : 1 ≤ p.length
    · have h2 : ¬ p.length ≤ 10 := by omega
      simp [h2]
    · simp [h1]
  simp only [Bool.and_eq_true, decide_eq_true_eq] at h0
  repeat (first | (with_reducible first | refine SW.seq ?_ | refine SW.block ?_ | refine SW.rowC ?_ | refine SW.skip ?_ | refine SW.exit ?_ | intro _ | refine And.intro (by omega) ?_) | simp (config := { maxSteps := 1000000 }) (disch := (first | omega | (simp only [go_sem]; try omega))) only [go_sem, Nat.reduceAdd, Nat.reduceEqDiff, Nat.reduceLeDiff, Nat.reduceMul, Nat.reduceLT, reduceIte, Int.reduceToNat, w64_id, cast_succ])
  refine SW.loopE (fun E0 H0 q E' H' => ∃ (pre post : List (List Int)), p = pre ++ post ∧ q = post.length ∧ E' = aput E0 15 (I pre.length) ∧ H' = H0 ∧ (∀ r ∈ pre, r.length = p.length) ∧ ∀ x y, x < pre.length → y < p.length → okC p x y = true) p.length ⟨[], p, rfl, rfl, rfl, rfl, by simp, by simp⟩ ?_
  rintro q E' H' ⟨pre, post, hq, rfl, rfl, rfl, hl, hok⟩
  simp (config := { maxSteps := 1000000 }) (disch := (first | omega | (simp only [go_sem]; try omega))) only [go_sem, Nat.reduceAdd, Nat.reduceEqDiff, Nat.reduceLeDiff, Nat.reduceMul, Nat.reduceLT, reduceIte, Int.reduceToNat, w64_id, cast_succ]
  repeat (first | (with_reducible first | refine SW.seq ?_ | refine SW.block ?_ | refine SW.rowC ?_ | refine SW.skip ?_ | refine SW.exit ?_ | intro _ | refine And.intro (by omega) ?_) | simp (config := { maxSteps := 1000000 }) (disch := (first | omega | (simp only [go_sem]; try omega))) only [go_sem, Nat.reduceAdd, Nat.reduceEqDiff, Nat.reduceLeDiff, Nat.reduceMul, Nat.reduceLT, reduceIte, Int.reduceToNat, w64_id, cast_succ])
  (first | refine SW.condD rfl (fun h => ?_) (fun h => ?_) | refine SW.condN rfl (fun h => ?_) (fun h => ?_) | refine SW.condNB rfl (fun h => ?_) (fun h => ?_) | refine SW.condB rfl (fun h => ?_) (fun h => ?_))
  · obtain ⟨row, post, rfl, hg, -⟩ := consOf (d := []) hq (by omega)
    have hxl : pre.length < p.length := by omega
    repeat (first | (with_reducible first | refine SW.seq ?_ | refine SW.block ?_ | refine SW.rowC ?_ | refine SW.skip ?_ | refine SW.exit ?_ | refine PFn.use (size_fn _) ?_ | refine PFn.useq (size_fn _) ?_ | intro _ | refine And.intro (by omega) ?_) | simp (config := { maxSteps := 1000000 }) (disch := (first | omega | (simp only [go_sem]; try omega))) only [go_sem, Nat.reduceAdd, Nat.reduceEqDiff, Nat.reduceLeDiff, Nat.reduceMul, Nat.reduceLT, reduceIte, Int.reduceToNat, w64_id, cast_succ, hg])
    (first | refine SW.condD rfl (fun h2 => ?_) (fun h2 => ?_) | refine SW.condN rfl (fun h2 => ?_) (fun h2 => ?_) | refine SW.condNB rfl (fun h2 => ?_) (fun h2 => ?_) | refine SW.condB rfl (fun h2 => ?_) (fun h2 => ?_))
    · repeat (first | (with_reducible first | refine SW.seq ?_ | refine SW.block ?_ | refine SW.rowC ?_ | refine SW.skip ?_ | refine SW.exit ?_ | intro _ | refine And.intro (by omega) ?_) | simp (config := { maxSteps := 1000000 }) (disch := (first | omega | (simp only [go_sem]; try omega))) only [go_sem, Nat.reduceAdd, Nat.reduceEqDiff, Nat.reduceLeDiff, Nat.reduceMul, Nat.reduceLT, reduceIte, Int.reduceToNat, w64_id, cast_succ])
      refine SW.ret ?_; (try simp only [go_sem]); (first | refine FunPost.one ?_ | refine FunPost.two ?_ | refine FunPost.three ?_); (try simp (config := { maxSteps := 1000000 }) (disch := (first | omega | (simp only [go_sem]; try omega))) only [go_sem, Nat.reduceAdd, Nat.reduceEqDiff, Nat.reduceLeDiff, Nat.reduceMul, Nat.reduceLT, reduceIte, Int.reduceToNat, w64_id, cast_succ]); (first | (with_reducible refine GR.drop ?_ ?_; (simp only [go_sem, and_self, and_true, true_and, implies_true, List.take_succ_cons, List.take_zero])) | refine GR.of ?_); refine ⟨?_, rfl⟩; (try with_reducible rfl)
      have : p.all (fun r => decide (r.length = p.length)) = false := by
        rw [List.all_eq_false]
        exact ⟨row, by rw [hq]; simp, by simp; omega⟩
      rw [partB, this]; simp
    have hrl : row.length = p.length := by omega
    repeat (first | (with_reducible first | refine SW.seq ?_ | refine SW.block ?_ | refine SW.rowC ?_ | refine SW.skip ?_ | refine SW.exit ?_ | intro _ | refine And.intro (by omega) ?_) | simp (config := { maxSteps := 1000000 }) (disch := (first | omega | (simp only [go_sem]; try omega))) only [go_sem, Nat.reduceAdd, Nat.reduceEqDiff, Nat.reduceLeDiff, Nat.reduceMul, Nat.reduceLT, reduceIte, Int.reduceToNat, w64_id, cast_succ])
    refine SW.loopE (fun E0 H0 q E' H' => ∃ (pr po : List Int), row = pr ++ po ∧ q = po.length ∧ E' = aput E0 26 (I pr.length) ∧ H' = H0 ∧ ∀ y, y < pr.length → okC p pre.length y = true) row.length ⟨[], row, rfl, rfl, rfl, rfl, by simp⟩ ?_
    rintro q E' H' ⟨pr, po, hq2, rfl, rfl, rfl, hok2⟩
    simp (config := { maxSteps := 1000000 }) (disch := (first | omega | (simp only [go_sem]; try omega))) only [go_sem, Nat.reduceAdd, Nat.reduceEqDiff, Nat.reduceLeDiff, Nat.reduceMul, Nat.reduceLT, reduceIte, Int.reduceToNat, w64_id, cast_succ]
    repeat (first | (with_reducible first | refine SW.seq ?_ | refine SW.block ?_ | refine SW.rowC ?_ | refine SW.skip ?_ | refine SW.exit ?_ | intro _ | refine And.intro (by omega) ?_) | simp (config := { maxSteps := 1000000 }) (disch := (first | omega | (simp only [go_sem]; try omega))) only [go_sem, Nat.reduceAdd, Nat.reduceEqDiff, Nat.reduceLeDiff, Nat.reduceMul, Nat.reduceLT, reduceIte, Int.reduceToNat, w64_id, cast_succ])
    (first | refine SW.condD rfl (fun h3 => ?_) (fun h3 => ?_) | refine SW.condN rfl (fun h3 => ?_) (fun h3 => ?_) | refine SW.condNB rfl (fun h3 => ?_) (fun h3 => ?_) | refine SW.condB rfl (fun h3 => ?_) (fun h3 => ?_))
    · obtain ⟨s, po, rfl, hgs, -⟩ := consOf (d := 0) hq2 (by omega)
      have hc : cellAt p pre.length pr.length = s := by unfold cellAt; rw [hg, hgs]
      have hyl : pr.length < p.length := by omega
      have bad : okC p pre.length pr.length = false → partB p = false := by
        intro h
        have : ((List.range p.length).all fun x => (List.range p.length).all fun y => okC p x y) = false := by
          rw [List.all_eq_false]
          refine ⟨pre.length, by simp; omega, ?_⟩
          rw [Bool.not_eq_true, List.all_eq_false]
          exact ⟨pr.length, by simp; omega, by simp [h]⟩
        rw [partB, this]; simp
      have hdef : okC p pre.length pr.length = (decide (-1 ≤ s) && decide (s ≤ p.length - 1) && (decide (s = -1) || !(row.take pr.length).contains s && !colHas (p.take pre.length) pr.length s)) := by rw [okC, hc, hg]
      have htr : (row.drop 0).take (pr.length - 0) = row.take pr.length := by simp
      have htp : (p.drop 0).take (pre.length - 0) = p.take pre.length := by simp
      have hcol : ∀ r ∈ p.take pre.length, pr.length < r.length := by
        intro r hr
        rw [hq, List.take_left] at hr
        rw [hl r hr]; exact hyl
      have next : okC p pre.length pr.length = true → ∀ y, y < (pr ++ [s]).length → okC p pre.length y = true := by
        intro h y hy
        rw [List.length_append, List.length_singleton] at hy
        rcases Nat.lt_succ_iff_lt_or_eq.1 hy with h4 | h4
        · exact hok2 y h4
        · rw [h4]; exact h
      rw [hdef] at bad next
      clear hdef
      cases hw : (decide (-1 ≤ s) && decide (s ≤ (p.length : Int) - 1))
      · repeat (first | (with_reducible first | refine SW.seq ?_ | refine SW.block ?_ | refine SW.rowC ?_ | refine SW.skip ?_ | refine SW.exit ?_ | refine PFn.use (within_fn _ _ _) ?_ | refine PFn.useq (within_fn _ _ _) ?_ | intro _ | refine And.intro (by omega) ?_) | simp (config := { maxSteps := 1000000 }) (disch := (first | omega | (simp only [go_sem]; try omega))) only [go_sem, Nat.reduceAdd, Nat.reduceEqDiff, Nat.reduceLeDiff, Nat.reduceMul, Nat.reduceLT, reduceIte, Int.reduceToNat, w64_id, cast_succ, hgs, hw])
        refine SW.condT (by first | rfl | simp [go_sem, hw]) ?_
        repeat (first | (with_reducible first | refine SW.seq ?_ | refine SW.block ?_ | refine SW.rowC ?_ | refine SW.skip ?_ | refine SW.exit ?_ | intro _ | refine And.intro (by omega) ?_) | simp (config := { maxSteps := 1000000 }) (disch := (first | omega | (simp only [go_sem]; try omega))) only [go_sem, Nat.reduceAdd, Nat.reduceEqDiff, Nat.reduceLeDiff, Nat.reduceMul, Nat.reduceLT, reduceIte, Int.reduceToNat, w64_id, cast_succ])
        refine SW.ret ?_; (try simp only [go_sem]); (first | refine FunPost.one ?_ | refine FunPost.two ?_ | refine FunPost.three ?_); (try simp (config := { maxSteps := 1000000 }) (disch := (first | omega | (simp only [go_sem]; try omega))) only [go_sem, Nat.reduceAdd, Nat.reduceEqDiff, Nat.reduceLeDiff, Nat.reduceMul, Nat.reduceLT, reduceIte, Int.reduceToNat, w64_id, cast_succ]); (first | (with_reducible refine GR.drop ?_ ?_; (simp only [go_sem, and_self, and_true, true_and, implies_true, List.take_succ_cons, List.take_zero])) | refine GR.of ?_); refine ⟨?_, rfl⟩; (try with_reducible rfl)
        rw [bad (by rw [hw]; rfl)]
      · have hw2 := hw
        simp only [Bool.and_eq_true, decide_eq_true_eq] at hw2
        by_cases hs : s = -1
        · subst hs
          repeat (first | (with_reducible first | refine SW.seq ?_ | refine SW.block ?_ | refine SW.rowC ?_ | refine SW.skip ?_ | refine SW.exit ?_ | refine PFn.use (within_fn _ _ _) ?_ | refine PFn.useq (within_fn _ _ _) ?_ | intro _ | refine And.intro (by omega) ?_) | simp (config := { maxSteps := 1000000 }) (disch := (first | omega | (simp only [go_sem]; try omega))) only [go_sem, Nat.reduceAdd, Nat.reduceEqDiff, Nat.reduceLeDiff, Nat.reduceMul, Nat.reduceLT, reduceIte, Int.reduceToNat, w64_id, cast_succ, hgs, hw])
          refine SW.condF rfl ?_
          repeat (first | (with_reducible first | refine SW.seq ?_ | refine SW.block ?_ | refine SW.rowC ?_ | refine SW.skip ?_ | refine SW.exit ?_ | intro _ | refine And.intro (by omega) ?_) | simp (config := { maxSteps := 1000000 }) (disch := (first | omega | (simp only [go_sem]; try omega))) only [go_sem, Nat.reduceAdd, Nat.reduceEqDiff, Nat.reduceLeDiff, Nat.reduceMul, Nat.reduceLT, reduceIte, Int.reduceToNat, w64_id, cast_succ])
          refine SLoop.next po.length (by simp) ⟨pr ++ [-1], po, by simp [hq2], rfl, ?_, rfl, next ?_⟩
          · simp [go_sem]
          · rw [hw]; rfl
        · have ht0 : row.drop (Int.toNat 0) = row := rfl
          have ht1 : p.drop (Int.toNat 0) = p := rfl
          have htn : ∀ k : Nat, k - Int.toNat 0 = k := fun k => rfl
          repeat (first | (with_reducible first | refine SW.seq ?_ | refine SW.block ?_ | refine SW.rowC ?_ | refine SW.skip ?_ | refine SW.exit ?_ | refine PFn.use (within_fn _ _ _) ?_ | refine PFn.useq (within_fn _ _ _) ?_ | refine PFn.use (ContainsI_fn _ _) ?_ | refine PFn.useq (ContainsI_fn _ _) ?_ | intro _ | refine And.intro (by omega) ?_) | simp (config := { maxSteps := 1000000 }) (disch := (first | omega | (simp only [go_sem]; try omega))) only [go_sem, Nat.reduceAdd, Nat.reduceEqDiff, Nat.reduceLeDiff, Nat.reduceMul, Nat.reduceLT, reduceIte, Int.reduceToNat, w64_id, cast_succ, hgs, hw, hs, Option.map_some, Option.map_none, Nat.sub_zero, List.drop_zero])
          cases hc1 : (row.take pr.length).contains s
          · repeat (first | (with_reducible first | refine SW.seq ?_ | refine SW.block ?_ | refine SW.rowC ?_ | refine SW.skip ?_ | refine SW.exit ?_ | refine PFn.use (inColumn_fn _ _ _ hcol) ?_ | refine PFn.useq (inColumn_fn _ _ _ hcol) ?_ | intro _ | refine And.intro (by omega) ?_) | simp (config := { maxSteps := 1000000 }) (disch := (first | omega | (simp only [go_sem]; try omega))) only [go_sem, Nat.reduceAdd, Nat.reduceEqDiff, Nat.reduceLeDiff, Nat.reduceMul, Nat.reduceLT, reduceIte, Int.reduceToNat, w64_id, cast_succ, hc1, Option.map_some, Option.map_none, Nat.sub_zero, List.drop_zero])
            cases hc2 : colHas (p.take pre.length) pr.length s
            · repeat (first | (with_reducible first | refine SW.seq ?_ | refine SW.block ?_ | refine SW.rowC ?_ | refine SW.skip ?_ | refine SW.exit ?_ | intro _ | refine And.intro (by omega) ?_) | simp (config := { maxSteps := 1000000 }) (disch := (first | omega | (simp only [go_sem]; try omega))) only [go_sem, Nat.reduceAdd, Nat.reduceEqDiff, Nat.reduceLeDiff, Nat.reduceMul, Nat.reduceLT, reduceIte, Int.reduceToNat, w64_id, cast_succ, hc2])
              refine SW.condF rfl ?_
              repeat (first | (with_reducible first | refine SW.seq ?_ | refine SW.block ?_ | refine SW.rowC ?_ | refine SW.skip ?_ | refine SW.exit ?_ | intro _ | refine And.intro (by omega) ?_) | simp (config := { maxSteps := 1000000 }) (disch := (first | omega | (simp only [go_sem]; try omega))) only [go_sem, Nat.reduceAdd, Nat.reduceEqDiff, Nat.reduceLeDiff, Nat.reduceMul, Nat.reduceLT, reduceIte, Int.reduceToNat, w64_id, cast_succ])
              refine SLoop.next po.length (by simp) ⟨pr ++ [s], po, by simp [hq2], rfl, ?_, rfl, next ?_⟩
              · simp [go_sem]
              · rw [hw, hc1, hc2]; simp
            · repeat (first | (with_reducible first | refine SW.seq ?_ | refine SW.block ?_ | refine SW.rowC ?_ | refine SW.skip ?_ | refine SW.exit ?_ | intro _ | refine And.intro (by omega) ?_) | simp (config := { maxSteps := 1000000 }) (disch := (first | omega | (simp only [go_sem]; try omega))) only [go_sem, Nat.reduceAdd, Nat.reduceEqDiff, Nat.reduceLeDiff, Nat.reduceMul, Nat.reduceLT, reduceIte, Int.reduceToNat, w64_id, cast_succ, hc2])
              refine SW.condT rfl ?_
              repeat (first | (with_reducible first | refine SW.seq ?_ | refine SW.block ?_ | refine SW.rowC ?_ | refine SW.skip ?_ | refine SW.exit ?_ | intro _ | refine And.intro (by omega) ?_) | simp (config := { maxSteps := 1000000 }) (disch := (first | omega | (simp only [go_sem]; try omega))) only [go_sem, Nat.reduceAdd, Nat.reduceEqDiff, Nat.reduceLeDiff, Nat.reduceMul, Nat.reduceLT, reduceIte, Int.reduceToNat, w64_id, cast_succ])
              refine SW.ret ?_; (try simp only [go_sem]); (first | refine FunPost.one ?_ | refine FunPost.two ?_ | refine FunPost.three ?_); (try simp (config := { maxSteps := 1000000 }) (disch := (first | omega | (simp only [go_sem]; try omega))) only [go_sem, Nat.reduceAdd, Nat.reduceEqDiff, Nat.reduceLeDiff, Nat.reduceMul, Nat.reduceLT, reduceIte, Int.reduceToNat, w64_id, cast_succ]); (first | (with_reducible refine GR.drop ?_ ?_; (simp only [go_sem, and_self, and_true, true_and, implies_true, List.take_succ_cons, List.take_zero])) | refine GR.of ?_); refine ⟨?_, rfl⟩; (try with_reducible rfl)
              rw [bad (by rw [hw, hc2, decide_eq_false hs]; simp)]
          · repeat (first | (with_reducible first | refine SW.seq ?_ | refine SW.block ?_ | refine SW.rowC ?_ | refine SW.skip ?_ | refine SW.exit ?_ | intro _ | refine And.intro (by omega) ?_) | simp (config := { maxSteps := 1000000 }) (disch := (first | omega | (simp only [go_sem]; try omega))) only [go_sem, Nat.reduceAdd, Nat.reduceEqDiff, Nat.reduceLeDiff, Nat.reduceMul, Nat.reduceLT, reduceIte, Int.reduceToNat, w64_id, cast_succ, hc1])
            refine SW.condT rfl ?_
            repeat (first | (with_reducible first | refine SW.seq ?_ | refine SW.block ?_ | refine SW.rowC ?_ | refine SW.skip ?_ | refine SW.exit ?_ | intro _ | refine And.intro (by omega) ?_) | simp (config := { maxSteps := 1000000 }) (disch := (first | omega | (simp only [go_sem]; try omega))) only [go_sem, Nat.reduceAdd, Nat.reduceEqDiff, Nat.reduceLeDiff, Nat.reduceMul, Nat.reduceLT, reduceIte, Int.reduceToNat, w64_id, cast_succ])
            refine SW.ret ?_; (try simp only [go_sem]); (first | refine FunPost.one ?_ | refine FunPost.two ?_ | refine FunPost.three ?_); (try simp (config := { maxSteps := 1000000 }) (disch := (first | omega | (simp only [go_sem]; try omega))) only [go_sem, Nat.reduceAdd, Nat.reduceEqDiff, Nat.reduceLeDiff, Nat.reduceMul, Nat.reduceLT, reduceIte, Int.reduceToNat, w64_id, cast_succ]); (first | (with_reducible refine GR.drop ?_ ?_; (simp only [go_sem, and_self, and_true, true_and, implies_true, List.take_succ_cons, List.take_zero])) | refine GR.of ?_); refine ⟨?_, rfl⟩; (try with_reducible rfl)
            rw [bad (by rw [hw, hc1, decide_eq_false hs]; simp)]
    · obtain ⟨rfl, rfl⟩ := nilOf hq2 (by omega)
      repeat (first | (with_reducible first | refine SW.seq ?_ | refine SW.block ?_ | refine SW.rowC ?_ | refine SW.skip ?_ | refine SW.exit ?_ | intro _ | refine And.intro (by omega) ?_) | simp (config := { maxSteps := 1000000 }) (disch := (first | omega | (simp only [go_sem]; try omega))) only [go_sem, Nat.reduceAdd, Nat.reduceEqDiff, Nat.reduceLeDiff, Nat.reduceMul, Nat.reduceLT, reduceIte, Int.reduceToNat, w64_id, cast_succ])
      refine SLoop.next post.length (by simp) ⟨pre ++ [pr], post, by simp [hq], rfl, ?_, rfl, ?_, ?_⟩
      · simp [go_sem]
      · intro r hr
        rcases List.mem_append.1 hr with hr | hr
        · exact hl r hr
        · rw [List.mem_singleton.1 hr]; exact hrl
      · intro x y hx hy
        rw [List.length_append, List.length_singleton] at hx
        rcases Nat.lt_succ_iff_lt_or_eq.1 hx with h4 | h4
        · exact hok x y h4 hy
        · rw [h4]; exact hok2 y (by omega)
  · obtain ⟨rfl, rfl⟩ := nilOf hq (by omega)
    repeat (first | (with_reducible first | refine SW.seq ?_ | refine SW.block ?_ | refine SW.rowC ?_ | refine SW.skip ?_ | refine SW.exit ?_ | intro _ | refine And.intro (by omega) ?_) | simp (config := { maxSteps := 1000000 }) (disch := (first | omega | (simp only [go_sem]; try omega))) only [go_sem, Nat.reduceAdd, Nat.reduceEqDiff, Nat.reduceLeDiff, Nat.reduceMul, Nat.reduceLT, reduceIte, Int.reduceToNat, w64_id, cast_succ])
    refine SW.ret ?_; (try simp only [go_sem]); (first | refine FunPost.one ?_ | refine FunPost.two ?_ | refine FunPost.three ?_); (try simp (config := { maxSteps := 1000000 }) (disch := (first | omega | (simp only [go_sem]; try omega))) only [go_sem, Nat.reduceAdd, Nat.reduceEqDiff, Nat.reduceLeDiff, Nat.reduceMul, Nat.reduceLT, reduceIte, Int.reduceToNat, w64_id, cast_succ]); (first | (with_reducible refine GR.drop ?_ ?_; (simp only [go_sem, and_self, and_true, true_and, implies_true, List.take_succ_cons, List.take_zero])) | refine GR.of ?_); refine ⟨?_, rfl⟩; (try with_reducible rfl)
    symm
    refine congrArg Bv ?_
    simp only [partB, Bool.and_eq_true, decide_eq_true_eq, List.all_eq_true, List.mem_range]
    exact ⟨⟨⟨by omega, by omega⟩, hl⟩, fun x hx y hy => hok x y hx hy⟩
def okS (p : List (List Int)) (x y : Nat) : Prop := (-1 ≤ cellAt p x y ∧ cellAt p x y ≤ p.length - 1) ∧ (0 ≤ cellAt p x y → ∀ k, k < p.length → (k ≠ y → cellAt p x k ≠ cellAt p x y) ∧ (k ≠ x → cellAt p k y ≠ cellAt p x y))
theorem okC_iff (p : List (List Int)) (hl : ∀ r ∈ p, r.length = p.length) {x y : Nat} (hx : x < p.length) (hy : y < p.length) : okC p x y = true ↔ (-1 ≤ cellAt p x y ∧ cellAt p x y ≤ p.length - 1) ∧ (cellAt p x y ≠ -1 → (∀ k, k < y → cellAt p x k ≠ cellAt p x y) ∧ (∀ k, k < x → cellAt p k y ≠ cellAt p x y)) := by
  have hrl : ∀ x, x < p.length → (p.getD x []).length = p.length := fun x hx => hl _ (by rw [getD_get hx]; exact List.getElem_mem _)
  have h1 : ((p.getD x []).take y).contains (cellAt p x y) = true ↔ ∃ k, k < y ∧ cellAt p x k = cellAt p x y := by
    rw [List.contains_iff_mem, List.mem_iff_getElem]
    constructor
    · rintro ⟨k, hk, he⟩
      rw [List.length_take, hrl x hx] at hk
      refine ⟨k, by omega, ?_⟩
      rw [← he, List.getElem_take]
      exact getD_get (by rw [hrl x hx]; omega)
    · rintro ⟨k, hk, he⟩
      refine ⟨k, by rw [List.length_take, hrl x hx]; omega, ?_⟩
      rw [← he, List.getElem_take]
      exact (getD_get (by rw [hrl x hx]; omega)).symm
  have h2 : colHas (p.take x) y (cellAt p x y) = true ↔ ∃ k, k < x ∧ cellAt p k y = cellAt p x y := by
    unfold colHas
    rw [List.any_eq_true]
    constructor
    · rintro ⟨r, hr, he⟩
      obtain ⟨k, hk, rfl⟩ := List.mem_iff_getElem.1 hr
      rw [List.length_take] at hk
      refine ⟨k, by omega, ?_⟩
      rw [← of_decide_eq_true he, List.getElem_take]
      unfold cellAt
      rw [getD_get (l := p) (by omega)]
    · rintro ⟨k, hk, he⟩
      refine ⟨p.getD k [], ?_, decide_eq_true he⟩
      rw [List.mem_iff_getElem]
      refine ⟨k, by rw [List.length_take]; omega, ?_⟩
      rw [List.getElem_take, getD_get (l := p) (by omega)]
  simp only [okC, Bool.and_eq_true, Bool.or_eq_true, decide_eq_true_eq, Bool.not_eq_true', Bool.eq_false_iff, ne_eq, h1, h2]
  constructor
  · rintro ⟨ha, hb⟩
    refine ⟨ha, fun hne => ?_⟩
    rcases hb with hb | ⟨hb, hc⟩
    · exact absurd hb hne
    · exact ⟨fun k hk he => hb ⟨k, hk, he⟩, fun k hk he => hc ⟨k, hk, he⟩⟩
  · rintro ⟨ha, hb⟩
    refine ⟨ha, ?_⟩
    by_cases hne : cellAt p x y = -1
    · exact .inl hne
    · obtain ⟨g1, g2⟩ := hb hne
      exact .inr ⟨fun ⟨k, hk, he⟩ => g1 k hk he, fun ⟨k, hk, he⟩ => g2 k hk he⟩
theorem ok_all (p : List (List Int)) (hl : ∀ r ∈ p, r.length = p.length) : (∀ x y, x < p.length → y < p.length → okC p x y = true) ↔ ∀ x y, x < p.length → y < p.length → okS p x y := by
  constructor
  · intro h x y hx hy
    have g := (okC_iff p hl hx hy).1 (h x y hx hy)
    refine ⟨g.1, fun h0 k hk => ⟨fun hne he => ?_, fun hne he => ?_⟩⟩
    · rcases Nat.lt_or_gt_of_ne hne with h1 | h1
      · exact (g.2 (by omega)).1 k h1 he
      · have g2 := (okC_iff p hl hx hk).1 (h x k hx hk)
        exact (g2.2 (by omega)).1 y h1 he.symm
    · rcases Nat.lt_or_gt_of_ne hne with h1 | h1
      · exact (g.2 (by omega)).2 k h1 he
      · have g2 := (okC_iff p hl hk hy).1 (h k y hk hy)
        exact (g2.2 (by omega)).2 x h1 he.symm
  · intro h x y hx hy
    rw [okC_iff p hl hx hy]
    have g := h x y hx hy
    refine ⟨g.1, fun hne => ⟨fun k hk he => ?_, fun k hk he => ?_⟩⟩
    · exact (g.2 (by have := g.1.1; omega) k (by omega)).1 (by omega) he
    · exact (g.2 (by have := g.1.1; omega) k (by omega)).2 (by omega) he
end Go.Proofs.Ytchehdplcbffmaa
