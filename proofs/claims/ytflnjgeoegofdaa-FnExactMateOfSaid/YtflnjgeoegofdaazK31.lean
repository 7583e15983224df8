/- The search that completes a partial square: the program. -/
import Derived.Test.YtflnjgeoegofdaaProg
import Derived.KernelRfl
import Derived.Test.YtflnjgeoegofdaazQZ
import Derived.Test.YtflnjgeoegofdaazK29
import Derived.Test.YtflnjgeoegofdaazK10
import Derived.Test.YtflnjgeoegofdaazK20
set_option linter.unusedSimpArgs false
set_option linter.unusedVariables false
set_option maxHeartbeats 4000000
set_option maxRecDepth 100000
namespace Go.Proofs.Ytflnjgeoegofdaa
open Go.Av
abbrev f_impl_counter_node : Nat := 33
def c_impl_counter_node : SC :=
 .seq (.reg [
     ⟨(some 2), .mv (.const (.bool false)), none⟩] [0])
 (.seq (.seq (.reg [
     ⟨(some 3), .mv (.tmp 0), none⟩,
     ⟨(some 4), .nilc (.tmp 3), none⟩,
     ⟨(some 5), .faddr 0 (.tmp 4), none⟩,
     ⟨(some 6), .load 1 false (.tmp 5), none⟩,
     ⟨(some 7), .bin .eql (.tmp 6) (.const (.int .i64 0)), none⟩] [0, 7])
 (.cond (.tmp 7)
  (.seq (.reg [
      ⟨(some 8), .mv (.tmp 0), none⟩,
      ⟨(some 9), .nilc (.tmp 8), none⟩,
      ⟨(some 10), .faddr 1 (.tmp 9), none⟩,
      ⟨none, .store 1 (.tmp 10) (.const (.bool true)), none⟩] [])
  (.seq (.reg [
      ⟨(some 2), .mv (.const (.bool false)), none⟩] [2])
  (.ret)))
  (.skip)))
 (.seq (.reg [
     ⟨(some 11), .mv (.tmp 0), none⟩,
     ⟨(some 12), .nilc (.tmp 11), none⟩,
     ⟨(some 13), .faddr 0 (.tmp 12), none⟩,
     ⟨(some 14), .load 1 false (.tmp 13), none⟩,
     ⟨(some 15), .bin .sub (.tmp 14) (.const (.int .i64 1)), none⟩,
     ⟨(some 16), .nilc (.tmp 11), none⟩,
     ⟨(some 17), .faddr 0 (.tmp 16), none⟩,
     ⟨none, .store 1 (.tmp 17) (.tmp 15), none⟩] [])
 (.seq (.reg [
     ⟨(some 2), .mv (.const (.bool true)), none⟩] [2])
 (.ret))))
theorem s_impl_counter_node : stripF Try.prog 33 [[0], [0, 7], [], [2], [], [2]] = some (c_impl_counter_node, [.tmp 2], 18) := by kernel_rfl
theorem setC_get {sq : List (List Int)} {x y a b : Nat} {v : Int} (hne : ¬ (a = x ∧ b = y)) : cellAt (setC sq x y v) a b = cellAt sq a b := by
  unfold cellAt setC
  by_cases hax : x = a
  · subst hax
    by_cases hl : x < sq.length
    · have e : (sq.set x ((sq.getD x []).set y v)).getD x [] = (sq.getD x []).set y v := by simp [List.getD_eq_getElem?_getD, hl]
      rw [e]
      simp only [List.getD_eq_getElem?_getD]
      rw [List.getElem?_set_ne (fun h => hne ⟨rfl, h.symm⟩)]
    · rw [List.set_eq_of_length_le (by omega)]
  · simp only [List.getD_eq_getElem?_getD]
    rw [List.getElem?_set_ne hax]
theorem setC_back {sq : List (List Int)} {x y : Nat} {v : Int} (hx : x < sq.length) (hy : y < (sq.getD x []).length) (h : cellAt sq x y = -1) : setC (setC sq x y v) x y (-1) = sq := by
  unfold setC
  have e : (sq.set x ((sq.getD x []).set y v)).getD x [] = (sq.getD x []).set y v := by simp [List.getD_eq_getElem?_getD, hx]
  rw [e, List.set_set, List.set_set]
  have e2 : (sq.getD x []).set y (-1) = sq.getD x [] := by
    rw [← h]
    unfold cellAt
    rw [getD_get hy]; exact List.set_getElem_self hy
  rw [e2, getD_get hx]; exact List.set_getElem_self hx
theorem node_ok (H : List Blk) (p ty left : Nat) (spent : Bool) (rest : List AV) (hl : left ≤ 1000000000) (hp : H[p]? = some ⟨0, ty, 1, I left :: Bv spent :: rest⟩) :
    ACalls Try.prog f_impl_counter_node [.pc p 0 0] H (fun r H' => (left = 0 ∧ r = Bv false ∧ H' = H.set p ⟨0, ty, 1, I left :: Bv true :: rest⟩) ∨ (left ≠ 0 ∧ r = Bv true ∧ H' = H.set p ⟨0, ty, 1, I ((left - 1 : Nat) : Int) :: Bv spent :: rest⟩)) := by
  refine ACalls.introB s_impl_counter_node (by simp) ?_; intro hB hA; unfold c_impl_counter_node; simp (config := { maxSteps := 1000000 }) (disch := (first | omega | (simp only [go_sem]; try omega))) only [go_sem, Nat.reduceAdd, Nat.reduceEqDiff, Nat.reduceLeDiff, Nat.reduceMul, Nat.reduceLT, reduceIte, Int.reduceToNat, w64_id, cast_succ]
  repeat (first | (with_reducible first | refine SW.seq ?_ | refine SW.block ?_ | refine SW.rowC ?_ | refine SW.skip ?_ | refine SW.exit ?_ | intro _ | refine And.intro (by omega) ?_) | simp (config := { maxSteps := 1000000 }) (disch := (first | omega | (simp only [go_sem]; try omega))) only [go_sem, Nat.reduceAdd, Nat.reduceEqDiff, Nat.reduceLeDiff, Nat.reduceMul, Nat.reduceLT, reduceIte, Int.reduceToNat, w64_id, cast_succ, pc_ld hp, pc_alive hp])
  (first | refine SW.condD rfl (fun h => ?_) (fun h => ?_) | refine SW.condN rfl (fun h => ?_) (fun h => ?_) | refine SW.condNB rfl (fun h => ?_) (fun h => ?_) | refine SW.condB rfl (fun h => ?_) (fun h => ?_))
  · have h0 : left = 0 := by omega
    repeat (first | (with_reducible first | refine SW.seq ?_ | refine SW.block ?_ | refine SW.rowC ?_ | refine SW.skip ?_ | refine SW.exit ?_ | intro _ | refine And.intro (by omega) ?_) | simp (config := { maxSteps := 1000000 }) (disch := (first | omega | (simp only [go_sem]; try omega))) only [go_sem, Nat.reduceAdd, Nat.reduceEqDiff, Nat.reduceLeDiff, Nat.reduceMul, Nat.reduceLT, reduceIte, Int.reduceToNat, w64_id, cast_succ, pc_ld hp, pc_alive hp, pc_st hp])
    refine SW.ret ?_; (try simp only [go_sem]); (first | refine FunPost.one ?_ | refine FunPost.two ?_ | refine FunPost.three ?_); (try simp (config := { maxSteps := 1000000 }) (disch := (first | omega | (simp only [go_sem]; try omega))) only [go_sem, Nat.reduceAdd, Nat.reduceEqDiff, Nat.reduceLeDiff, Nat.reduceMul, Nat.reduceLT, reduceIte, Int.reduceToNat, w64_id, cast_succ])
    exact GR.of (.inl ⟨h0, rfl, rfl⟩)
  · have h0 : left ≠ 0 := by omega
    have e : (left : Int) - 1 = ((left - 1 : Nat) : Int) := by omega
    repeat (first | (with_reducible first | refine SW.seq ?_ | refine SW.block ?_ | refine SW.rowC ?_ | refine SW.skip ?_ | refine SW.exit ?_ | intro _ | refine And.intro (by omega) ?_) | simp (config := { maxSteps := 1000000 }) (disch := (first | omega | (simp only [go_sem]; try omega))) only [go_sem, Nat.reduceAdd, Nat.reduceEqDiff, Nat.reduceLeDiff, Nat.reduceMul, Nat.reduceLT, reduceIte, Int.reduceToNat, w64_id, cast_succ, pc_ld hp, pc_alive hp, pc_st hp, e])
    refine SW.ret ?_; (try simp only [go_sem]); (first | refine FunPost.one ?_ | refine FunPost.two ?_ | refine FunPost.three ?_); (try simp (config := { maxSteps := 1000000 }) (disch := (first | omega | (simp only [go_sem]; try omega))) only [go_sem, Nat.reduceAdd, Nat.reduceEqDiff, Nat.reduceLeDiff, Nat.reduceMul, Nat.reduceLT, reduceIte, Int.reduceToNat, w64_id, cast_succ])
    exact GR.of (.inr ⟨h0, rfl, rfl⟩)
section
variable {H : List Blk} {n x y : Nat} {sq : List (List Int)} {ext : List Blk}
theorem q0 : (sqB n 1 H.length sq ++ ext)[0]? = some ⟨n, 30, 1, nmsV 1 (H.length + 1) sq⟩ := rfl
end
end Go.Proofs.Ytflnjgeoegofdaa
