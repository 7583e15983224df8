/- Transversals: the reference. -/
import Derived.Test.YtpaagkipnlbibaaProg
import Derived.KernelRfl
import Derived.Test.YtpaagkipnlbibaazUG
set_option linter.unusedSimpArgs false
set_option linter.unusedVariables false
set_option maxHeartbeats 4000000
set_option maxRecDepth 100000
namespace Go.Proofs.Ytpaagkipnlbibaa
open Go.Av
abbrev f_spec_l07Find_free : Nat := 83
def c_spec_l07Find_free : SC :=
 .seq (.reg [
     ⟨(some 6), .mv (.const (.bool false)), none⟩] [0, 1, 2])
 (.seq (.seq (.reg [
     ⟨(some 7), .mv (.const (.int .i64 0)), none⟩] [0, 1, 2, 7])
 (.block 0 (.loop [0, 1, 2, 7]
   (.seq (.seq (.reg [
       ⟨(some 8), .mv (.tmp 7), none⟩,
       ⟨(some 9), .mv (.tmp 0), none⟩,
       ⟨(some 10), .nilc (.tmp 9), none⟩,
       ⟨(some 11), .faddr 1 (.tmp 10), none⟩,
       ⟨(some 12), .load 1 false (.tmp 11), none⟩,
       ⟨(some 13), .len (.tmp 12), none⟩,
       ⟨(some 14), .bin .lss (.tmp 8) (.tmp 13), none⟩] [0, 1, 2, 7, 14])
   (.cond (.tmp 14)
    (.skip)
    (.exit 0)))
   (.seq (.block 1 (.seq (.reg [
        ⟨(some 17), .mv (.tmp 0), none⟩,
        ⟨(some 18), .nilc (.tmp 17), none⟩,
        ⟨(some 19), .faddr 1 (.tmp 18), none⟩,
        ⟨(some 20), .load 1 false (.tmp 19), none⟩,
        ⟨(some 21), .mv (.tmp 7), none⟩,
        ⟨(some 22), .iaddr 1 (.tmp 20) (.tmp 21), none⟩,
        ⟨(some 23), .load 1 false (.tmp 22), none⟩,
        ⟨(some 24), .mv (.tmp 2), none⟩,
        ⟨(some 25), .bin .eql (.tmp 23) (.tmp 24), none⟩,
        ⟨(some 26), .mv (.tmp 25), none⟩,
        ⟨(some 27), .mv (.tmp 0), (some (26, false))⟩,
        ⟨(some 28), .nilc (.tmp 27), (some (26, false))⟩,
        ⟨(some 29), .faddr 0 (.tmp 28), (some (26, false))⟩,
        ⟨(some 30), .load 1 false (.tmp 29), (some (26, false))⟩,
        ⟨(some 31), .mv (.tmp 7), (some (26, false))⟩,
        ⟨(some 32), .iaddr 1 (.tmp 30) (.tmp 31), (some (26, false))⟩,
        ⟨(some 33), .load 1 false (.tmp 32), (some (26, false))⟩,
        ⟨(some 34), .mv (.tmp 0), (some (26, false))⟩,
        ⟨(some 35), .nilc (.tmp 34), (some (26, false))⟩,
        ⟨(some 36), .faddr 1 (.tmp 35), (some (26, false))⟩,
        ⟨(some 37), .load 1 false (.tmp 36), (some (26, false))⟩,
        ⟨(some 38), .mv (.tmp 7), (some (26, false))⟩,
        ⟨(some 39), .iaddr 1 (.tmp 37) (.tmp 38), (some (26, false))⟩,
        ⟨(some 40), .load 1 false (.tmp 39), (some (26, false))⟩,
        ⟨(some 41), .iaddr 1 (.tmp 33) (.tmp 40), (some (26, false))⟩,
        ⟨(some 42), .load 1 false (.tmp 41), (some (26, false))⟩,
        ⟨(some 43), .mv (.tmp 0), (some (26, false))⟩,
        ⟨(some 44), .nilc (.tmp 43), (some (26, false))⟩,
        ⟨(some 45), .faddr 0 (.tmp 44), (some (26, false))⟩,
        ⟨(some 46), .load 1 false (.tmp 45), (some (26, false))⟩,
        ⟨(some 47), .mv (.tmp 1), (some (26, false))⟩,
        ⟨(some 48), .iaddr 1 (.tmp 46) (.tmp 47), (some (26, false))⟩,
        ⟨(some 49), .load 1 false (.tmp 48), (some (26, false))⟩,
        ⟨(some 50), .mv (.tmp 2), (some (26, false))⟩,
        ⟨(some 51), .iaddr 1 (.tmp 49) (.tmp 50), (some (26, false))⟩,
        ⟨(some 52), .load 1 false (.tmp 51), (some (26, false))⟩,
        ⟨(some 53), .bin .eql (.tmp 42) (.tmp 52), (some (26, false))⟩,
        ⟨(some 54), .pick (.tmp 26) (.const (.bool true)) (.tmp 53), none⟩] [0, 1, 2, 7, 54])
    (.cond (.tmp 54)
     (.seq (.reg [
         ⟨(some 6), .mv (.const (.bool false)), none⟩] [6])
     (.ret))
     (.skip))))
   (.reg [
       ⟨(some 15), .mv (.tmp 7), none⟩,
       ⟨(some 16), .bin .add (.tmp 15) (.const (.int .i64 1)), none⟩,
       ⟨(some 7), .mv (.tmp 16), none⟩] [0, 1, 2, 7]))))))
 (.seq (.reg [
     ⟨(some 6), .mv (.const (.bool true)), none⟩] [6])
 (.ret)))
theorem s_spec_l07Find_free : stripF Try.prog 83 [[0, 1, 2], [0, 1, 2, 7], [0, 1, 2, 7], [0, 1, 2, 7, 14], [0, 1, 2, 7, 54], [6], [0, 1, 2, 7], [6]] = some (c_spec_l07Find_free, [.tmp 6], 55) := by kernel_rfl
abbrev tyFi : Nat := 70
def FiH (H : List Blk) (p : Nat) (a : List (List Int)) (lim b : Nat) (cols : List Int) (st : TS) : Prop :=
  ∃ v fv, H[p]? = some ⟨0, tyFi, 1, [ilSS a, v, fv, I lim, I ((b - st.left : Nat) : Int), I b, Bv st.spent]⟩ ∧ ColG H (p + 1) v cols fv st.found
theorem blkT_lt {a : List (List Int)} {cols : List Int} {y : Nat} : blkT a cols y = (List.range cols.length).any fun i => decide (cols.getD i 0 = (y : Int)) || decide (cellAt a i (cols.getD i 0).toNat = cellAt a cols.length y) := by
  unfold blkT anyT
  rw [Bool.eq_iff_iff, Bool.or_eq_true, List.contains_iff_mem, List.any_eq_true, List.any_eq_true]
  constructor
  · rintro (h | ⟨i, hi, h⟩)
    · obtain ⟨i, hi, e⟩ := List.getElem_of_mem h
      exact ⟨i, List.mem_range.2 hi, by rw [getD_get hi, decide_eq_true e]; rfl⟩
    · exact ⟨i, hi, by rw [h, Bool.or_true]⟩
  · rintro ⟨i, hi, h⟩
    rw [Bool.or_eq_true, decide_eq_true_eq] at h
    rcases h with h | h
    · left
      have hi2 := List.mem_range.1 hi
      rw [getD_get hi2] at h
      rw [← h]; exact List.getElem_mem _
    · exact .inr ⟨i, hi, h⟩
theorem fiFree_ok (H : List Blk) (p : Nat) (a : List (List Int)) (lim b : Nat) (cols : List Int) (st : TS) (y : Nat) (h : FiH H p a lim b cols st) (hrow : ∀ r ∈ a, r.length = a.length) (h10 : a.length ≤ 10) (hx : cols.length < a.length) (hy : y < a.length) (hc : ∀ c ∈ cols, 0 ≤ c ∧ c < (a.length : Int)) :
    ACalls Try.prog f_spec_l07Find_free [.pc p 0 0, I cols.length, I y] H (fun r H' => r = Bv (!blkT a cols y) ∧ H' = H) := by
  obtain ⟨v, fv, hp, hcg⟩ := h
  have hpa := fun o => pc_alive (off := o) hp
  have hpl := fun o => pc_ld (off := o) hp
  have hv := hcg.view
  rw [blkT_lt]
  have hrl : (a.getD cols.length []).length = a.length := hrow _ (by rw [getD_get hx]; exact List.getElem_mem _)
  refine ACalls.introB s_spec_l07Find_free (by simp) ?_; intro hB hA; unfold c_spec_l07Find_free; simp (config := { maxSteps := 1000000 }) (disch := (first | omega | (simp only [go_sem]; try omega))) only [go_sem, Nat.reduceAdd, Nat.reduceEqDiff, Nat.reduceLeDiff, Nat.reduceMul, Nat.reduceLT, reduceIte, Int.reduceToNat, w64_id, cast_succ]
  repeat (first | (with_reducible first | refine SW.seq ?_ | refine SW.block ?_ | refine SW.rowC ?_ | refine SW.skip ?_ | refine SW.exit ?_ | intro _ | refine And.intro (by omega) ?_) | simp (config := { maxSteps := 1000000 }) (disch := (first | omega | (simp only [go_sem]; try omega))) only [go_sem, Nat.reduceAdd, Nat.reduceEqDiff, Nat.reduceLeDiff, Nat.reduceMul, Nat.reduceLT, reduceIte, Int.reduceToNat, w64_id, cast_succ, hpa, hpl, hv])
  refine SW.loopE (fun E0 H0 m E' H' => ∃ i : Nat, i ≤ cols.length ∧ m = cols.length - i ∧ E' = aput E0 7 (I i) ∧ H' = H0 ∧ ∀ j, j < i → (decide (cols.getD j 0 = (y : Int)) || decide (cellAt a j (cols.getD j 0).toNat = cellAt a cols.length y)) = false) cols.length ⟨0, by omega, by omega, rfl, rfl, fun j hj => by omega⟩ ?_
  rintro m E' H' ⟨i, hi, rfl, rfl, rfl, hno⟩
  simp (config := { maxSteps := 1000000 }) (disch := (first | omega | (simp only [go_sem]; try omega))) only [go_sem, Nat.reduceAdd, Nat.reduceEqDiff, Nat.reduceLeDiff, Nat.reduceMul, Nat.reduceLT, reduceIte, Int.reduceToNat, w64_id, cast_succ]
  repeat (first | (with_reducible first | refine SW.seq ?_ | refine SW.block ?_ | refine SW.rowC ?_ | refine SW.skip ?_ | refine SW.exit ?_ | intro _ | refine And.intro (by omega) ?_) | simp (config := { maxSteps := 1000000 }) (disch := (first | omega | (simp only [go_sem]; try omega))) only [go_sem, Nat.reduceAdd, Nat.reduceEqDiff, Nat.reduceLeDiff, Nat.reduceMul, Nat.reduceLT, reduceIte, Int.reduceToNat, w64_id, cast_succ, hpa, hpl, hv])
  (first | refine SW.condD rfl (fun h1 => ?_) (fun h1 => ?_) | refine SW.condN rfl (fun h1 => ?_) (fun h1 => ?_) | refine SW.condNB rfl (fun h1 => ?_) (fun h1 => ?_) | refine SW.condB rfl (fun h1 => ?_) (fun h1 => ?_))
  · have hi2 : i < cols.length := by omega
    have hir : (a.getD i []).length = a.length := hrow _ (by rw [getD_get (show i < a.length by omega)]; exact List.getElem_mem _)
    have hcm : cols.getD i 0 ∈ cols := by rw [getD_get hi2]; exact List.getElem_mem _
    have hci := hc _ hcm
    obtain ⟨c, hce⟩ := Int.eq_ofNat_of_zero_le hci.1
    rw [hce] at hci
    have hcol : (cols.map I)[i]? = some (I (c : Int)) := by rw [List.getElem?_map, List.getElem?_eq_getElem hi2, ← hce, getD_get hi2]; rfl
    have hj : decide (cellAt a i (cols.getD i 0).toNat = cellAt a cols.length y) = decide ((a.getD i []).getD c 0 = (a.getD cols.length []).getD y 0) := by rw [hce, Int.toNat_natCast]; rfl
    have hall : ∀ b, (decide (cols.getD i 0 = (y : Int)) || decide (cellAt a i (cols.getD i 0).toNat = cellAt a cols.length y)) = b → b = true → ((List.range cols.length).any fun i => decide (cols.getD i 0 = (y : Int)) || decide (cellAt a i (cols.getD i 0).toNat = cellAt a cols.length y)) = true := fun b h1 h2 => by
      rw [List.any_eq_true]; exact ⟨i, List.mem_range.2 hi2, by rw [h1, h2]⟩
    by_cases h5 : (c : Int) = (y : Int)
    · have h6 : decide (cols.getD i 0 = (y : Int)) = true := decide_eq_true (by rw [hce]; exact h5)
      rw [hall true (by rw [h6]; rfl) rfl]
      repeat (first | (with_reducible first | refine SW.seq ?_ | refine SW.block ?_ | refine SW.rowC ?_ | refine SW.skip ?_ | refine SW.exit ?_ | intro _ | refine And.intro (by omega) ?_) | simp (config := { maxSteps := 1000000 }) (disch := (first | omega | (simp only [go_sem]; try omega))) only [go_sem, Nat.reduceAdd, Nat.reduceEqDiff, Nat.reduceLeDiff, Nat.reduceMul, Nat.reduceLT, reduceIte, Int.reduceToNat, w64_id, cast_succ, hpa, hpl, hv, hcol, h5, hir, hrl])
      refine SW.condT rfl ?_
      repeat (first | (with_reducible first | refine SW.seq ?_ | refine SW.block ?_ | refine SW.rowC ?_ | refine SW.skip ?_ | refine SW.exit ?_ | intro _ | refine And.intro (by omega) ?_) | simp (config := { maxSteps := 1000000 }) (disch := (first | omega | (simp only [go_sem]; try omega))) only [go_sem, Nat.reduceAdd, Nat.reduceEqDiff, Nat.reduceLeDiff, Nat.reduceMul, Nat.reduceLT, reduceIte, Int.reduceToNat, w64_id, cast_succ])
      refine SW.ret ?_; (try simp only [go_sem]); (first | refine FunPost.one ?_ | refine FunPost.two ?_ | refine FunPost.three ?_); (try simp (config := { maxSteps := 1000000 }) (disch := (first | omega | (simp only [go_sem]; try omega))) only [go_sem, Nat.reduceAdd, Nat.reduceEqDiff, Nat.reduceLeDiff, Nat.reduceMul, Nat.reduceLT, reduceIte, Int.reduceToNat, w64_id, cast_succ])
      exact GR.of ⟨rfl, rfl⟩
    · have h6 : decide (cols.getD i 0 = (y : Int)) = false := decide_eq_false (by rw [hce]; exact h5)
      by_cases h7 : (a.getD i []).getD c 0 = (a.getD cols.length []).getD y 0
      · rw [hall true (by rw [h6, hj, decide_eq_true h7]; rfl) rfl]
        repeat (first | (with_reducible first | refine SW.seq ?_ | refine SW.block ?_ | refine SW.rowC ?_ | refine SW.skip ?_ | refine SW.exit ?_ | intro _ | refine And.intro (by omega) ?_) | simp (config := { maxSteps := 1000000 }) (disch := (first | omega | (simp only [go_sem]; try omega))) only [go_sem, Nat.reduceAdd, Nat.reduceEqDiff, Nat.reduceLeDiff, Nat.reduceMul, Nat.reduceLT, reduceIte, Int.reduceToNat, w64_id, cast_succ, hpa, hpl, hv, hcol, h5, h7, hir, hrl])
        refine SW.condT rfl ?_
        repeat (first | (with_reducible first | refine SW.seq ?_ | refine SW.block ?_ | refine SW.rowC ?_ | refine SW.skip ?_ | refine SW.exit ?_ | intro _ | refine And.intro (by omega) ?_) | simp (config := { maxSteps := 1000000 }) (disch := (first | omega | (simp only [go_sem]; try omega))) only [go_sem, Nat.reduceAdd, Nat.reduceEqDiff, Nat.reduceLeDiff, Nat.reduceMul, Nat.reduceLT, reduceIte, Int.reduceToNat, w64_id, cast_succ])
        refine SW.ret ?_; (try simp only [go_sem]); (first | refine FunPost.one ?_ | refine FunPost.two ?_ | refine FunPost.three ?_); (try simp (config := { maxSteps := 1000000 }) (disch := (first | omega | (simp only [go_sem]; try omega))) only [go_sem, Nat.reduceAdd, Nat.reduceEqDiff, Nat.reduceLeDiff, Nat.reduceMul, Nat.reduceLT, reduceIte, Int.reduceToNat, w64_id, cast_succ])
        exact GR.of ⟨rfl, rfl⟩
      · repeat (first | (with_reducible first | refine SW.seq ?_ | refine SW.block ?_ | refine SW.rowC ?_ | refine SW.skip ?_ | refine SW.exit ?_ | intro _ | refine And.intro (by omega) ?_) | simp (config := { maxSteps := 1000000 }) (disch := (first | omega | (simp only [go_sem]; try omega))) only [go_sem, Nat.reduceAdd, Nat.reduceEqDiff, Nat.reduceLeDiff, Nat.reduceMul, Nat.reduceLT, reduceIte, Int.reduceToNat, w64_id, cast_succ, hpa, hpl, hv, hcol, h5, h7, hir, hrl])
        refine SW.condF rfl ?_
        repeat (first | (with_reducible first | refine SW.seq ?_ | refine SW.block ?_ | refine SW.rowC ?_ | refine SW.skip ?_ | refine SW.exit ?_ | intro _ | refine And.intro (by omega) ?_) | simp (config := { maxSteps := 1000000 }) (disch := (first | omega | (simp only [go_sem]; try omega))) only [go_sem, Nat.reduceAdd, Nat.reduceEqDiff, Nat.reduceLeDiff, Nat.reduceMul, Nat.reduceLT, reduceIte, Int.reduceToNat, w64_id, cast_succ])
        refine SLoop.next (cols.length - (i + 1)) (by omega) ⟨i + 1, by omega, rfl, by simp [go_sem], rfl, fun j hj2 => ?_⟩
        rcases Nat.lt_succ_iff_lt_or_eq.1 hj2 with hj3 | rfl
        · exact hno j hj3
        · rw [h6, hj, decide_eq_false h7]; rfl
  · repeat (first | (with_reducible first | refine SW.seq ?_ | refine SW.block ?_ | refine SW.rowC ?_ | refine SW.skip ?_ | refine SW.exit ?_ | intro _ | refine And.intro (by omega) ?_) | simp (config := { maxSteps := 1000000 }) (disch := (first | omega | (simp only [go_sem]; try omega))) only [go_sem, Nat.reduceAdd, Nat.reduceEqDiff, Nat.reduceLeDiff, Nat.reduceMul, Nat.reduceLT, reduceIte, Int.reduceToNat, w64_id, cast_succ])
    refine SW.ret ?_; (try simp only [go_sem]); (first | refine FunPost.one ?_ | refine FunPost.two ?_ | refine FunPost.three ?_); (try simp (config := { maxSteps := 1000000 }) (disch := (first | omega | (simp only [go_sem]; try omega))) only [go_sem, Nat.reduceAdd, Nat.reduceEqDiff, Nat.reduceLeDiff, Nat.reduceMul, Nat.reduceLT, reduceIte, Int.reduceToNat, w64_id, cast_succ])
    refine GR.of ⟨?_, rfl⟩
    have : ((List.range cols.length).any fun i => decide (cols.getD i 0 = (y : Int)) || decide (cellAt a i (cols.getD i 0).toNat = cellAt a cols.length y)) = false := by
      rw [← Bool.not_eq_true, List.any_eq_true]
      rintro ⟨j, hj, h⟩
      rw [hno j (by have := List.mem_range.1 hj; omega)] at h
      cases h
    rw [this]; rfl
end Go.Proofs.Ytpaagkipnlbibaa
