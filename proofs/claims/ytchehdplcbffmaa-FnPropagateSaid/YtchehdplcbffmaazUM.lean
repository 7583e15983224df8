/- Forced cells: the law. -/
import Derived.Test.YtchehdplcbffmaaProg
import Derived.KernelRfl
import Derived.Test.YtchehdplcbffmaazUL
import Derived.Test.YtchehdplcbffmaazUK
import Derived.Test.YtchehdplcbffmaazDN
import Derived.Test.YtchehdplcbffmaazSB
set_option linter.unusedSimpArgs false
set_option linter.unusedVariables false
set_option maxHeartbeats 4000000
set_option maxRecDepth 100000
namespace Go.Proofs.Ytchehdplcbffmaa
open Go.Av
abbrev f_spec_DrawPropagatePartial : Nat := 16
def c_spec_DrawPropagatePartial : SC :=
 .seq (.reg [
     ⟨(some 2), .mv (.const (.slice none 0 0)), none⟩] [0])
 (.seq (.reg [
     ⟨(some 4), .mv (.tmp 0), none⟩,
     ⟨(some 5), .call 33 [(.tmp 4)], none⟩,
     ⟨(some 3), .mv (.tmp 5), none⟩] [3])
 (.seq (.reg [
     ⟨(some 6), .mv (.tmp 3), none⟩,
     ⟨(some 7), .call 50 [(.tmp 6)], none⟩,
     ⟨(some 2), .mv (.tmp 7), none⟩] [2])
 (.ret)))
theorem s_spec_DrawPropagatePartial : stripF Try.prog 16 [[0], [3], [2]] = some (c_spec_DrawPropagatePartial, [.tmp 2], 8) := by kernel_rfl
abbrev f_laws_b10Keeps : Nat := 20
def c_laws_b10Keeps : SC :=
 .seq (.reg [
     ⟨(some 4), .mv (.const (.bool false)), none⟩] [0, 1])
 (.seq (.reg [
     ⟨(some 8), .mv (.tmp 0), none⟩,
     ⟨(some 9), .len (.tmp 8), none⟩,
     ⟨(some 5), .mv (.tmp 9), none⟩] [0, 1, 5])
 (.seq (.seq (.reg [
     ⟨(some 10), .mv (.tmp 0), none⟩,
     ⟨(some 11), .mv (.tmp 5), none⟩,
     ⟨(some 12), .call 55 [(.tmp 10), (.tmp 11)], none⟩,
     ⟨(some 13), .un .not (.tmp 12), none⟩,
     ⟨(some 14), .mv (.tmp 13), none⟩,
     ⟨(some 15), .mv (.tmp 1), (some (14, false))⟩,
     ⟨(some 16), .mv (.tmp 5), (some (14, false))⟩,
     ⟨(some 17), .call 55 [(.tmp 15), (.tmp 16)], (some (14, false))⟩,
     ⟨(some 18), .un .not (.tmp 17), (some (14, false))⟩,
     ⟨(some 19), .pick (.tmp 14) (.const (.bool true)) (.tmp 18), none⟩] [0, 1, 5, 19])
 (.cond (.tmp 19)
  (.seq (.reg [
      ⟨(some 4), .mv (.const (.bool false)), none⟩] [4])
  (.ret))
  (.skip)))
 (.seq (.seq (.reg [
     ⟨(some 6), .mv (.const (.int .i64 0)), none⟩] [0, 1, 5, 6])
 (.block 0 (.loop [0, 1, 5, 6]
   (.seq (.seq (.reg [
       ⟨(some 20), .mv (.tmp 6), none⟩,
       ⟨(some 21), .mv (.tmp 5), none⟩,
       ⟨(some 22), .bin .lss (.tmp 20) (.tmp 21), none⟩] [0, 1, 5, 6, 22])
   (.cond (.tmp 22)
    (.skip)
    (.exit 0)))
   (.seq (.block 1 (.seq (.reg [
        ⟨(some 7), .mv (.const (.int .i64 0)), none⟩] [0, 1, 5, 6, 7])
    (.block 2 (.loop [0, 1, 5, 6, 7]
      (.seq (.seq (.reg [
          ⟨(some 25), .mv (.tmp 7), none⟩,
          ⟨(some 26), .mv (.tmp 5), none⟩,
          ⟨(some 27), .bin .lss (.tmp 25) (.tmp 26), none⟩] [0, 1, 5, 6, 7, 27])
      (.cond (.tmp 27)
       (.skip)
       (.exit 2)))
      (.seq (.block 3 (.seq (.reg [
           ⟨(some 30), .mv (.tmp 0), none⟩,
           ⟨(some 31), .mv (.tmp 6), none⟩,
           ⟨(some 32), .iaddr 1 (.tmp 30) (.tmp 31), none⟩,
           ⟨(some 33), .load 1 false (.tmp 32), none⟩,
           ⟨(some 34), .mv (.tmp 7), none⟩,
           ⟨(some 35), .iaddr 1 (.tmp 33) (.tmp 34), none⟩,
           ⟨(some 36), .load 1 false (.tmp 35), none⟩,
           ⟨(some 37), .bin .geq (.tmp 36) (.const (.int .i64 0)), none⟩,
           ⟨(some 38), .mv (.tmp 37), none⟩,
           ⟨(some 39), .mv (.tmp 0), (some (38, true))⟩,
           ⟨(some 40), .mv (.tmp 6), (some (38, true))⟩,
           ⟨(some 41), .iaddr 1 (.tmp 39) (.tmp 40), (some (38, true))⟩,
           ⟨(some 42), .load 1 false (.tmp 41), (some (38, true))⟩,
           ⟨(some 43), .mv (.tmp 7), (some (38, true))⟩,
           ⟨(some 44), .iaddr 1 (.tmp 42) (.tmp 43), (some (38, true))⟩,
           ⟨(some 45), .load 1 false (.tmp 44), (some (38, true))⟩,
           ⟨(some 46), .mv (.tmp 1), (some (38, true))⟩,
           ⟨(some 47), .mv (.tmp 6), (some (38, true))⟩,
           ⟨(some 48), .iaddr 1 (.tmp 46) (.tmp 47), (some (38, true))⟩,
           ⟨(some 49), .load 1 false (.tmp 48), (some (38, true))⟩,
           ⟨(some 50), .mv (.tmp 7), (some (38, true))⟩,
           ⟨(some 51), .iaddr 1 (.tmp 49) (.tmp 50), (some (38, true))⟩,
           ⟨(some 52), .load 1 false (.tmp 51), (some (38, true))⟩,
           ⟨(some 53), .bin .neq (.tmp 45) (.tmp 52), (some (38, true))⟩,
           ⟨(some 54), .pick (.tmp 38) (.tmp 53) (.const (.bool false)), none⟩] [0, 1, 5, 6, 7, 54])
       (.cond (.tmp 54)
        (.seq (.reg [
            ⟨(some 4), .mv (.const (.bool false)), none⟩] [4])
        (.ret))
        (.skip))))
      (.reg [
          ⟨(some 28), .mv (.tmp 7), none⟩,
          ⟨(some 29), .bin .add (.tmp 28) (.const (.int .i64 1)), none⟩,
          ⟨(some 7), .mv (.tmp 29), none⟩] [0, 1, 5, 6, 7])))))))
   (.reg [
       ⟨(some 23), .mv (.tmp 6), none⟩,
       ⟨(some 24), .bin .add (.tmp 23) (.const (.int .i64 1)), none⟩,
       ⟨(some 6), .mv (.tmp 24), none⟩] [0, 1, 5, 6]))))))
 (.seq (.reg [
     ⟨(some 4), .mv (.const (.bool true)), none⟩] [4])
 (.ret)))))
theorem s_laws_b10Keeps : stripF Try.prog 20 [[0, 1], [0, 1, 5], [0, 1, 5, 19], [4], [0, 1, 5, 6], [0, 1, 5, 6], [0, 1, 5, 6, 22], [0, 1, 5, 6, 7], [0, 1, 5, 6, 7], [0, 1, 5, 6, 7, 27], [0, 1, 5, 6, 7, 54], [4], [0, 1, 5, 6, 7], [0, 1, 5, 6], [4]] = some (c_laws_b10Keeps, [.tmp 4], 55) := by kernel_rfl
abbrev f_laws_b10Square : Nat := 55
def c_laws_b10Square : SC :=
 .seq (.reg [
     ⟨(some 4), .mv (.const (.bool false)), none⟩] [0, 1])
 (.seq (.seq (.reg [
     ⟨(some 6), .mv (.tmp 0), none⟩,
     ⟨(some 7), .len (.tmp 6), none⟩,
     ⟨(some 8), .mv (.tmp 1), none⟩,
     ⟨(some 9), .bin .neq (.tmp 7) (.tmp 8), none⟩] [0, 1, 9])
 (.cond (.tmp 9)
  (.seq (.reg [
      ⟨(some 4), .mv (.const (.bool false)), none⟩] [4])
  (.ret))
  (.skip)))
 (.seq (.seq (.reg [
     ⟨(some 5), .mv (.const (.int .i64 0)), none⟩] [0, 1, 5])
 (.block 0 (.loop [0, 1, 5]
   (.seq (.seq (.reg [
       ⟨(some 10), .mv (.tmp 5), none⟩,
       ⟨(some 11), .mv (.tmp 0), none⟩,
       ⟨(some 12), .len (.tmp 11), none⟩,
       ⟨(some 13), .bin .lss (.tmp 10) (.tmp 12), none⟩] [0, 1, 5, 13])
   (.cond (.tmp 13)
    (.skip)
    (.exit 0)))
   (.seq (.block 1 (.seq (.reg [
        ⟨(some 16), .mv (.tmp 0), none⟩,
        ⟨(some 17), .mv (.tmp 5), none⟩,
        ⟨(some 18), .iaddr 1 (.tmp 16) (.tmp 17), none⟩,
        ⟨(some 19), .load 1 false (.tmp 18), none⟩,
        ⟨(some 20), .len (.tmp 19), none⟩,
        ⟨(some 21), .mv (.tmp 1), none⟩,
        ⟨(some 22), .bin .neq (.tmp 20) (.tmp 21), none⟩] [0, 1, 5, 22])
    (.cond (.tmp 22)
     (.seq (.reg [
         ⟨(some 4), .mv (.const (.bool false)), none⟩] [4])
     (.ret))
     (.skip))))
   (.reg [
       ⟨(some 14), .mv (.tmp 5), none⟩,
       ⟨(some 15), .bin .add (.tmp 14) (.const (.int .i64 1)), none⟩,
       ⟨(some 5), .mv (.tmp 15), none⟩] [0, 1, 5]))))))
 (.seq (.reg [
     ⟨(some 4), .mv (.const (.bool true)), none⟩] [4])
 (.ret))))
theorem s_laws_b10Square : stripF Try.prog 55 [[0, 1], [0, 1, 9], [4], [0, 1, 5], [0, 1, 5], [0, 1, 5, 13], [0, 1, 5, 22], [4], [0, 1, 5], [4]] = some (c_laws_b10Square, [.tmp 4], 23) := by kernel_rfl
theorem DrawPropagate_ok (H : List Blk) (ns : List Int) (hz : ∀ z ∈ ns, 0 ≤ z ∧ z < 256) (hl : ns.length ≤ 2000000) :
    ACalls Try.prog f_spec_DrawPropagatePartial [ilY ns] H (fun r H' => H' = H ∧ ∃ sq, smallM sq ∧ r = ilSS sq) := by
  have hbn := fun k => Bel_ilY k ns
  refine ACalls.introB s_spec_DrawPropagatePartial (by simp) ?_; intro hB hA; unfold c_spec_DrawPropagatePartial; simp (config := { maxSteps := 1000000 }) (disch := (first | omega | (simp only [go_sem]; try omega))) only [go_sem, Nat.reduceAdd, Nat.reduceEqDiff, Nat.reduceLeDiff, Nat.reduceMul, Nat.reduceLT, reduceIte, Int.reduceToNat, w64_id, cast_succ]
  repeat (first | (with_reducible first | refine SW.seq ?_ | refine SW.block ?_ | refine SW.rowC ?_ | refine SW.skip ?_ | refine SW.exit ?_ | intro _ | refine And.intro (by omega) ?_) | simp (config := { maxSteps := 1000000 }) (disch := (first | omega | (simp only [go_sem]; try omega))) only [go_sem, Nat.reduceAdd, Nat.reduceEqDiff, Nat.reduceLeDiff, Nat.reduceMul, Nat.reduceLT, reduceIte, Int.reduceToNat, w64_id, cast_succ])
  refine (l00From_ok H ns).mono ?_
  rintro r H0 ⟨rfl, rfl⟩
  repeat (first | (with_reducible first | refine SW.seq ?_ | refine SW.block ?_ | refine SW.rowC ?_ | refine SW.skip ?_ | refine SW.exit ?_ | intro _ | refine And.intro (by omega) ?_) | simp (config := { maxSteps := 1000000 }) (disch := (first | omega | (simp only [go_sem]; try omega))) only [go_sem, Nat.reduceAdd, Nat.reduceEqDiff, Nat.reduceLeDiff, Nat.reduceMul, Nat.reduceLT, reduceIte, Int.reduceToNat, w64_id, cast_succ])
  refine (l09Draw_ok _ H.length (ilY ns) ns 0 0 (by rw [List.getElem?_append_right (Nat.le_refl _), Nat.sub_self]; rfl) (codeOk_ilY hz hl) hbn (by omega)).mono ?_
  rintro r H0 ⟨sq, u', t', hs, rfl, ht, rfl⟩
  rw [List.set_append_right _ _ (Nat.le_refl _)]
  repeat (first | (with_reducible first | refine SW.seq ?_ | refine SW.block ?_ | refine SW.rowC ?_ | refine SW.skip ?_ | refine SW.exit ?_ | intro _ | refine And.intro (by omega) ?_) | simp (config := { maxSteps := 1000000 }) (disch := (first | omega | (simp only [go_sem]; try omega))) only [go_sem, Nat.reduceAdd, Nat.reduceEqDiff, Nat.reduceLeDiff, Nat.reduceMul, Nat.reduceLT, reduceIte, Int.reduceToNat, w64_id, cast_succ])
  refine SW.ret ?_; (try simp only [go_sem]); (first | refine FunPost.one ?_ | refine FunPost.two ?_ | refine FunPost.three ?_); (try simp (config := { maxSteps := 1000000 }) (disch := (first | omega | (simp only [go_sem]; try omega))) only [go_sem, Nat.reduceAdd, Nat.reduceEqDiff, Nat.reduceLeDiff, Nat.reduceMul, Nat.reduceLT, reduceIte, Int.reduceToNat, w64_id, cast_succ])
  exact GR.froz (froz_ilSS sq) ⟨rfl, sq, hs, rfl⟩
theorem b10Square_fn {n : Nat} {a : List (List Int)} (h : sqN n a) (hn : n ≤ 1000) : PFn Try.prog f_laws_b10Square [ilSS a, I n] (Bv true) := by
  have d0 : decide ((a.length : Int) = n) = true := decide_eq_true (by rw [h.1])
  have hl := h.1
  intro H; refine ACalls.introB s_laws_b10Square (by simp) ?_; intro hB hA; unfold c_laws_b10Square; simp (config := { maxSteps := 1000000 }) (disch := (first | omega | (simp only [go_sem]; try omega))) only [go_sem, Nat.reduceAdd, Nat.reduceEqDiff, Nat.reduceLeDiff, Nat.reduceMul, Nat.reduceLT, reduceIte, Int.reduceToNat, w64_id, cast_succ]
  repeat (first | (with_reducible first | refine SW.seq ?_ | refine SW.block ?_ | refine SW.rowC ?_ | refine SW.skip ?_ | refine SW.exit ?_ | intro _ | refine And.intro (by omega) ?_) | simp (config := { maxSteps := 1000000 }) (disch := (first | omega | (simp only [go_sem]; try omega))) only [go_sem, Nat.reduceAdd, Nat.reduceEqDiff, Nat.reduceLeDiff, Nat.reduceMul, Nat.reduceLT, reduceIte, Int.reduceToNat, w64_id, cast_succ, d0])
  refine SW.condF rfl ?_
  repeat (first | (with_reducible first | refine SW.seq ?_ | refine SW.block ?_ | refine SW.rowC ?_ | refine SW.skip ?_ | refine SW.exit ?_ | intro _ | refine And.intro (by omega) ?_) | simp (config := { maxSteps := 1000000 }) (disch := (first | omega | (simp only [go_sem]; try omega))) only [go_sem, Nat.reduceAdd, Nat.reduceEqDiff, Nat.reduceLeDiff, Nat.reduceMul, Nat.reduceLT, reduceIte, Int.reduceToNat, w64_id, cast_succ])
  refine SW.loopE (fun E0 H0 q E' H' => ∃ i : Nat, i ≤ n ∧ q = n - i ∧ E' = aput E0 5 (I i) ∧ H' = H0) n ⟨0, by omega, by omega, rfl, rfl⟩ ?_
  rintro q E' H' ⟨i, hi, rfl, rfl, rfl⟩
  simp (config := { maxSteps := 1000000 }) (disch := (first | omega | (simp only [go_sem]; try omega))) only [go_sem, Nat.reduceAdd, Nat.reduceEqDiff, Nat.reduceLeDiff, Nat.reduceMul, Nat.reduceLT, reduceIte, Int.reduceToNat, w64_id, cast_succ]
  repeat (first | (with_reducible first | refine SW.seq ?_ | refine SW.block ?_ | refine SW.rowC ?_ | refine SW.skip ?_ | refine SW.exit ?_ | intro _ | refine And.intro (by omega) ?_) | simp (config := { maxSteps := 1000000 }) (disch := (first | omega | (simp only [go_sem]; try omega))) only [go_sem, Nat.reduceAdd, Nat.reduceEqDiff, Nat.reduceLeDiff, Nat.reduceMul, Nat.reduceLT, reduceIte, Int.reduceToNat, w64_id, cast_succ])
  (first | refine SW.condD rfl (fun h1 => ?_) (fun h1 => ?_) | refine SW.condN rfl (fun h1 => ?_) (fun h1 => ?_) | refine SW.condNB rfl (fun h1 => ?_) (fun h1 => ?_) | refine SW.condB rfl (fun h1 => ?_) (fun h1 => ?_))
  · have hrl : (a.getD i []).length = n := h.2 _ (by rw [getD_get (show i < a.length by omega)]; exact List.getElem_mem _)
    have d1 : decide (((a.getD i []).length : Int) = n) = true := decide_eq_true (by rw [hrl])
    repeat (first | (with_reducible first | refine SW.seq ?_ | refine SW.block ?_ | refine SW.rowC ?_ | refine SW.skip ?_ | refine SW.exit ?_ | intro _ | refine And.intro (by omega) ?_) | simp (config := { maxSteps := 1000000 }) (disch := (first | omega | (simp only [go_sem]; try omega))) only [go_sem, Nat.reduceAdd, Nat.reduceEqDiff, Nat.reduceLeDiff, Nat.reduceMul, Nat.reduceLT, reduceIte, Int.reduceToNat, w64_id, cast_succ, d1])
    refine SW.condF rfl ?_
    repeat (first | (with_reducible first | refine SW.seq ?_ | refine SW.block ?_ | refine SW.rowC ?_ | refine SW.skip ?_ | refine SW.exit ?_ | intro _ | refine And.intro (by omega) ?_) | simp (config := { maxSteps := 1000000 }) (disch := (first | omega | (simp only [go_sem]; try omega))) only [go_sem, Nat.reduceAdd, Nat.reduceEqDiff, Nat.reduceLeDiff, Nat.reduceMul, Nat.reduceLT, reduceIte, Int.reduceToNat, w64_id, cast_succ])
    exact SLoop.next (n - (i + 1)) (by omega) ⟨i + 1, by omega, rfl, by simp [go_sem], rfl⟩
  · repeat (first | (with_reducible first | refine SW.seq ?_ | refine SW.block ?_ | refine SW.rowC ?_ | refine SW.skip ?_ | refine SW.exit ?_ | intro _ | refine And.intro (by omega) ?_) | simp (config := { maxSteps := 1000000 }) (disch := (first | omega | (simp only [go_sem]; try omega))) only [go_sem, Nat.reduceAdd, Nat.reduceEqDiff, Nat.reduceLeDiff, Nat.reduceMul, Nat.reduceLT, reduceIte, Int.reduceToNat, w64_id, cast_succ])
    refine SW.ret ?_; (try simp only [go_sem]); (first | refine FunPost.one ?_ | refine FunPost.two ?_ | refine FunPost.three ?_); (try simp (config := { maxSteps := 1000000 }) (disch := (first | omega | (simp only [go_sem]; try omega))) only [go_sem, Nat.reduceAdd, Nat.reduceEqDiff, Nat.reduceLeDiff, Nat.reduceMul, Nat.reduceLT, reduceIte, Int.reduceToNat, w64_id, cast_succ]); (first | (with_reducible refine GR.drop ?_ ?_; (simp only [go_sem, and_self, and_true, true_and, implies_true, List.take_succ_cons, List.take_zero])) | refine GR.of ?_); refine ⟨?_, rfl⟩; (try with_reducible rfl)
theorem b10Keeps_fn {n : Nat} {p q : List (List Int)} (hp : sqN n p) (hq : sqN n q) (hn : n ≤ 1000) (hk : ∀ x y, x < n → y < n → 0 ≤ cellAt p x y → cellAt q x y = cellAt p x y) : PFn Try.prog f_laws_b10Keeps [ilSS p, ilSS q] (Bv true) := by
  obtain rfl : n = p.length := hp.1.symm
  have b1 := b10Square_fn hp hn
  have b2 := b10Square_fn hq hn
  have hql := hq.1
  generalize hn' : p.length = n at *
  have hpl : p.length = n := hn'
  clear hn'
  intro H; refine ACalls.introB s_laws_b10Keeps (by simp) ?_; intro hB hA; unfold c_laws_b10Keeps; simp (config := { maxSteps := 1000000 }) (disch := (first | omega | (simp only [go_sem]; try omega))) only [go_sem, Nat.reduceAdd, Nat.reduceEqDiff, Nat.reduceLeDiff, Nat.reduceMul, Nat.reduceLT, reduceIte, Int.reduceToNat, w64_id, cast_succ]
  repeat (first | (with_reducible first | refine SW.seq ?_ | refine SW.block ?_ | refine SW.rowC ?_ | refine SW.skip ?_ | refine SW.exit ?_ | refine PFn.use (b1) ?_ | refine PFn.useq (b1) ?_ | refine PFn.use (b2) ?_ | refine PFn.useq (b2) ?_ | intro _ | refine And.intro (by omega) ?_) | simp (config := { maxSteps := 1000000 }) (disch := (first | omega | (simp only [go_sem]; try omega))) only [go_sem, Nat.reduceAdd, Nat.reduceEqDiff, Nat.reduceLeDiff, Nat.reduceMul, Nat.reduceLT, reduceIte, Int.reduceToNat, w64_id, cast_succ, hpl])
  refine SW.condF rfl ?_
  repeat (first | (with_reducible first | refine SW.seq ?_ | refine SW.block ?_ | refine SW.rowC ?_ | refine SW.skip ?_ | refine SW.exit ?_ | intro _ | refine And.intro (by omega) ?_) | simp (config := { maxSteps := 1000000 }) (disch := (first | omega | (simp only [go_sem]; try omega))) only [go_sem, Nat.reduceAdd, Nat.reduceEqDiff, Nat.reduceLeDiff, Nat.reduceMul, Nat.reduceLT, reduceIte, Int.reduceToNat, w64_id, cast_succ])
  refine SW.loopE (fun E0 H0 m E' H' => ∃ x : Nat, x ≤ n ∧ m = n - x ∧ E' = aput E0 6 (I x) ∧ H' = H0) n ⟨0, by omega, by omega, rfl, rfl⟩ ?_
  rintro m E' H' ⟨x, hx, rfl, rfl, rfl⟩
  simp (config := { maxSteps := 1000000 }) (disch := (first | omega | (simp only [go_sem]; try omega))) only [go_sem, Nat.reduceAdd, Nat.reduceEqDiff, Nat.reduceLeDiff, Nat.reduceMul, Nat.reduceLT, reduceIte, Int.reduceToNat, w64_id, cast_succ]
  repeat (first | (with_reducible first | refine SW.seq ?_ | refine SW.block ?_ | refine SW.rowC ?_ | refine SW.skip ?_ | refine SW.exit ?_ | intro _ | refine And.intro (by omega) ?_) | simp (config := { maxSteps := 1000000 }) (disch := (first | omega | (simp only [go_sem]; try omega))) only [go_sem, Nat.reduceAdd, Nat.reduceEqDiff, Nat.reduceLeDiff, Nat.reduceMul, Nat.reduceLT, reduceIte, Int.reduceToNat, w64_id, cast_succ])
  (first | refine SW.condD rfl (fun h1 => ?_) (fun h1 => ?_) | refine SW.condN rfl (fun h1 => ?_) (fun h1 => ?_) | refine SW.condNB rfl (fun h1 => ?_) (fun h1 => ?_) | refine SW.condB rfl (fun h1 => ?_) (fun h1 => ?_))
  · have hxn : x < n := by omega
    have hr1 : (p.getD x []).length = n := hp.2 _ (by rw [getD_get (show x < p.length by omega)]; exact List.getElem_mem _)
    have hr2 : (q.getD x []).length = n := hq.2 _ (by rw [getD_get (show x < q.length by omega)]; exact List.getElem_mem _)
    repeat (first | (with_reducible first | refine SW.seq ?_ | refine SW.block ?_ | refine SW.rowC ?_ | refine SW.skip ?_ | refine SW.exit ?_ | intro _ | refine And.intro (by omega) ?_) | simp (config := { maxSteps := 1000000 }) (disch := (first | omega | (simp only [go_sem]; try omega))) only [go_sem, Nat.reduceAdd, Nat.reduceEqDiff, Nat.reduceLeDiff, Nat.reduceMul, Nat.reduceLT, reduceIte, Int.reduceToNat, w64_id, cast_succ])
    refine SW.loopE (fun E0 H0 m E' H' => ∃ y : Nat, y ≤ n ∧ m = n - y ∧ E' = aput E0 7 (I y) ∧ H' = H0) n ⟨0, by omega, by omega, rfl, rfl⟩ ?_
    rintro m E' H' ⟨y, hy, rfl, rfl, rfl⟩
    simp (config := { maxSteps := 1000000 }) (disch := (first | omega | (simp only [go_sem]; try omega))) only [go_sem, Nat.reduceAdd, Nat.reduceEqDiff, Nat.reduceLeDiff, Nat.reduceMul, Nat.reduceLT, reduceIte, Int.reduceToNat, w64_id, cast_succ]
    repeat (first | (with_reducible first | refine SW.seq ?_ | refine SW.block ?_ | refine SW.rowC ?_ | refine SW.skip ?_ | refine SW.exit ?_ | intro _ | refine And.intro (by omega) ?_) | simp (config := { maxSteps := 1000000 }) (disch := (first | omega | (simp only [go_sem]; try omega))) only [go_sem, Nat.reduceAdd, Nat.reduceEqDiff, Nat.reduceLeDiff, Nat.reduceMul, Nat.reduceLT, reduceIte, Int.reduceToNat, w64_id, cast_succ])
    (first | refine SW.condD rfl (fun h2 => ?_) (fun h2 => ?_) | refine SW.condN rfl (fun h2 => ?_) (fun h2 => ?_) | refine SW.condNB rfl (fun h2 => ?_) (fun h2 => ?_) | refine SW.condB rfl (fun h2 => ?_) (fun h2 => ?_))
    · have hyn : y < n := by omega
      have hxy := hk x y hxn hyn
      unfold cellAt at hxy
      by_cases h0 : 0 ≤ (p.getD x []).getD y 0
      · have h3 := hxy h0
        repeat (first | (with_reducible first | refine SW.seq ?_ | refine SW.block ?_ | refine SW.rowC ?_ | refine SW.skip ?_ | refine SW.exit ?_ | intro _ | refine And.intro (by omega) ?_) | simp (config := { maxSteps := 1000000 }) (disch := (first | omega | (simp only [go_sem]; try omega))) only [go_sem, Nat.reduceAdd, Nat.reduceEqDiff, Nat.reduceLeDiff, Nat.reduceMul, Nat.reduceLT, reduceIte, Int.reduceToNat, w64_id, cast_succ, h0, h3, hr1, hr2])
        refine SW.condF rfl ?_
        repeat (first | (with_reducible first | refine SW.seq ?_ | refine SW.block ?_ | refine SW.rowC ?_ | refine SW.skip ?_ | refine SW.exit ?_ | intro _ | refine And.intro (by omega) ?_) | simp (config := { maxSteps := 1000000 }) (disch := (first | omega | (simp only [go_sem]; try omega))) only [go_sem, Nat.reduceAdd, Nat.reduceEqDiff, Nat.reduceLeDiff, Nat.reduceMul, Nat.reduceLT, reduceIte, Int.reduceToNat, w64_id, cast_succ])
        exact SLoop.next (n - (y + 1)) (by omega) ⟨y + 1, by omega, rfl, by simp [go_sem], rfl⟩
      · repeat (first | (with_reducible first | refine SW.seq ?_ | refine SW.block ?_ | refine SW.rowC ?_ | refine SW.skip ?_ | refine SW.exit ?_ | intro _ | refine And.intro (by omega) ?_) | simp (config := { maxSteps := 1000000 }) (disch := (first | omega | (simp only [go_sem]; try omega))) only [go_sem, Nat.reduceAdd, Nat.reduceEqDiff, Nat.reduceLeDiff, Nat.reduceMul, Nat.reduceLT, reduceIte, Int.reduceToNat, w64_id, cast_succ, h0, hr1, hr2])
        refine SW.condF rfl ?_
        repeat (first | (with_reducible first | refine SW.seq ?_ | refine SW.block ?_ | refine SW.rowC ?_ | refine SW.skip ?_ | refine SW.exit ?_ | intro _ | refine And.intro (by omega) ?_) | simp (config := { maxSteps := 1000000 }) (disch := (first | omega | (simp only [go_sem]; try omega))) only [go_sem, Nat.reduceAdd, Nat.reduceEqDiff, Nat.reduceLeDiff, Nat.reduceMul, Nat.reduceLT, reduceIte, Int.reduceToNat, w64_id, cast_succ])
        exact SLoop.next (n - (y + 1)) (by omega) ⟨y + 1, by omega, rfl, by simp [go_sem], rfl⟩
    · repeat (first | (with_reducible first | refine SW.seq ?_ | refine SW.block ?_ | refine SW.rowC ?_ | refine SW.skip ?_ | refine SW.exit ?_ | intro _ | refine And.intro (by omega) ?_) | simp (config := { maxSteps := 1000000 }) (disch := (first | omega | (simp only [go_sem]; try omega))) only [go_sem, Nat.reduceAdd, Nat.reduceEqDiff, Nat.reduceLeDiff, Nat.reduceMul, Nat.reduceLT, reduceIte, Int.reduceToNat, w64_id, cast_succ])
      exact SLoop.next (n - (x + 1)) (by omega) ⟨x + 1, by omega, rfl, by simp [go_sem], rfl⟩
  · repeat (first | (with_reducible first | refine SW.seq ?_ | refine SW.block ?_ | refine SW.rowC ?_ | refine SW.skip ?_ | refine SW.exit ?_ | intro _ | refine And.intro (by omega) ?_) | simp (config := { maxSteps := 1000000 }) (disch := (first | omega | (simp only [go_sem]; try omega))) only [go_sem, Nat.reduceAdd, Nat.reduceEqDiff, Nat.reduceLeDiff, Nat.reduceMul, Nat.reduceLT, reduceIte, Int.reduceToNat, w64_id, cast_succ])
    refine SW.ret ?_; (try simp only [go_sem]); (first | refine FunPost.one ?_ | refine FunPost.two ?_ | refine FunPost.three ?_); (try simp (config := { maxSteps := 1000000 }) (disch := (first | omega | (simp only [go_sem]; try omega))) only [go_sem, Nat.reduceAdd, Nat.reduceEqDiff, Nat.reduceLeDiff, Nat.reduceMul, Nat.reduceLT, reduceIte, Int.reduceToNat, w64_id, cast_succ]); (first | (with_reducible refine GR.drop ?_ ?_; (simp only [go_sem, and_self, and_true, true_and, implies_true, List.take_succ_cons, List.take_zero])) | refine GR.of ?_); refine ⟨?_, rfl⟩; (try with_reducible rfl)
end Go.Proofs.Ytchehdplcbffmaa
