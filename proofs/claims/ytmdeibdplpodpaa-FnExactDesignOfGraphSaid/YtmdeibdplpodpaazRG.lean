/- The law of DesignOfGraph. -/
import Derived.Test.YtmdeibdplpodpaaProg
import Derived.KernelRfl
import Derived.Test.YtmdeibdplpodpaazRF
import Derived.Test.YtmdeibdplpodpaazRB
import Derived.Test.YtmdeibdplpodpaazD1
set_option linter.unusedSimpArgs false
set_option linter.unusedVariables false
set_option maxHeartbeats 4000000
set_option maxRecDepth 100000
namespace Go.Proofs.Ytmdeibdplpodpaa
open Go.Av
abbrev f_laws_FnExactDesignOfGraph : Nat := 4
def c_laws_FnExactDesignOfGraph : SC :=
 .seq (.reg [
     ⟨(some 1), .box 25 (.tmp 0), none⟩,
     ⟨(some 2), .mv (.const (.bool false)), none⟩] [1])
 (.seq (.reg [
     ⟨(some 3), .mv (.const (.int .i64 1048576)), none⟩] [1, 3])
 (.seq (.reg [
     ⟨(some 14), .load 2 true (.tmp 1), none⟩,
     ⟨(some 15), .mv (.tmp 3), none⟩,
     ⟨(some 16), .call 6 [(.tmp 14), (.tmp 15)], none⟩,
     ⟨(some 3), .mv (.tmp 16), none⟩] [1, 3])
 (.seq (.seq (.reg [
     ⟨(some 17), .mv (.tmp 3), none⟩,
     ⟨(some 18), .bin .lss (.tmp 17) (.const (.int .i64 0)), none⟩] [1, 18])
 (.cond (.tmp 18)
  (.seq (.reg [
      ⟨(some 2), .mv (.const (.bool true)), none⟩] [2])
  (.ret))
  (.skip)))
 (.seq (.reg [
     ⟨(some 20), .load 2 true (.tmp 1), none⟩,
     ⟨(some 21), .call 8 [(.tmp 20)], none⟩,
     ⟨(some 22), .call 13 [(.tmp 21)], none⟩,
     ⟨(some 19), .mv (.tmp 22), none⟩,
     ⟨(some 23), .ext (.tmp 19) 0, none⟩,
     ⟨(some 24), .ext (.tmp 19) 1, none⟩,
     ⟨(some 4), .alloc 38 [(.int .i64 0), (.slice none 0 0)], none⟩,
     ⟨none, .store 2 (.tmp 4) (.tmp 23), none⟩,
     ⟨(some 5), .mv (.tmp 24), none⟩] [1, 4, 5])
 (.seq (.reg [
     ⟨(some 25), .load 2 true (.tmp 1), none⟩,
     ⟨(some 26), .call 8 [(.tmp 25)], none⟩,
     ⟨(some 6), .alloc 30 [(.slice none 0 0), (.slice none 0 0)], none⟩,
     ⟨none, .store 2 (.tmp 6) (.tmp 26), none⟩] [1, 4, 5, 6])
 (.seq (.reg [
     ⟨(some 28), .load 2 true (.tmp 6), none⟩,
     ⟨(some 29), .call 14 [(.tmp 28)], none⟩,
     ⟨(some 27), .mv (.tmp 29), none⟩,
     ⟨(some 30), .ext (.tmp 27) 0, none⟩,
     ⟨(some 31), .ext (.tmp 27) 1, none⟩,
     ⟨(some 7), .alloc 38 [(.int .i64 0), (.slice none 0 0)], none⟩,
     ⟨none, .store 2 (.tmp 7) (.tmp 30), none⟩,
     ⟨(some 8), .mv (.tmp 31), none⟩] [1, 4, 5, 6, 7, 8])
 (.seq (.seq (.reg [
     ⟨(some 32), .load 2 true (.tmp 7), none⟩,
     ⟨(some 33), .load 2 true (.tmp 4), none⟩,
     ⟨(some 34), .call 15 [(.tmp 32), (.tmp 33)], none⟩,
     ⟨(some 35), .un .not (.tmp 34), none⟩,
     ⟨(some 36), .mv (.tmp 35), none⟩,
     ⟨(some 37), .mv (.tmp 8), (some (36, false))⟩,
     ⟨(some 38), .mv (.tmp 5), (some (36, false))⟩,
     ⟨(some 39), .bin .neq (.tmp 37) (.tmp 38), (some (36, false))⟩,
     ⟨(some 40), .pick (.tmp 36) (.const (.bool true)) (.tmp 39), none⟩] [1, 4, 5, 6, 7, 8, 40])
 (.cond (.tmp 40)
  (.seq (.reg [
      ⟨(some 2), .mv (.const (.bool false)), none⟩] [2])
  (.ret))
  (.skip)))
 (.seq (.seq (.reg [
     ⟨(some 41), .load 2 true (.tmp 6), none⟩,
     ⟨(some 42), .load 2 true (.tmp 1), none⟩,
     ⟨(some 43), .qcall 8 [(.tmp 42)], none⟩,
     ⟨(some 44), .qcall 11 [(.tmp 41), (.tmp 43)], none⟩,
     ⟨(some 45), .un .not (.tmp 44), none⟩] [1, 4, 5, 6, 7, 8, 45])
 (.cond (.tmp 45)
  (.seq (.reg [
      ⟨(some 2), .mv (.const (.bool false)), none⟩] [2])
  (.ret))
  (.skip)))
 (.seq (.reg [
     ⟨(some 9), .mv (.const (.int .i64 1)), none⟩] [1, 4, 5, 6, 7, 8, 9])
 (.seq (.reg [
     ⟨(some 46), .load 2 true (.tmp 6), none⟩,
     ⟨(some 47), .mv (.tmp 9), none⟩,
     ⟨(some 48), .call 16 [(.tmp 46), (.tmp 47)], none⟩,
     ⟨(some 9), .mv (.tmp 48), none⟩] [1, 4, 5, 7, 8, 9])
 (.seq (.seq (.reg [
     ⟨(some 49), .mv (.tmp 9), none⟩,
     ⟨(some 50), .bin .lss (.tmp 49) (.const (.int .i64 0)), none⟩,
     ⟨(some 51), .mv (.tmp 50), none⟩,
     ⟨(some 52), .load 2 true (.tmp 7), (some (51, false))⟩,
     ⟨(some 53), .load 2 true (.tmp 4), (some (51, false))⟩,
     ⟨(some 54), .call 15 [(.tmp 52), (.tmp 53)], (some (51, false))⟩,
     ⟨(some 55), .un .not (.tmp 54), (some (51, false))⟩,
     ⟨(some 56), .pick (.tmp 51) (.const (.bool true)) (.tmp 55), none⟩,
     ⟨(some 57), .mv (.tmp 56), none⟩,
     ⟨(some 58), .mv (.tmp 8), (some (57, false))⟩,
     ⟨(some 59), .mv (.tmp 5), (some (57, false))⟩,
     ⟨(some 60), .bin .neq (.tmp 58) (.tmp 59), (some (57, false))⟩,
     ⟨(some 61), .pick (.tmp 57) (.const (.bool true)) (.tmp 60), none⟩] [1, 4, 5, 7, 61])
 (.cond (.tmp 61)
  (.seq (.reg [
      ⟨(some 2), .mv (.const (.bool false)), none⟩] [2])
  (.ret))
  (.skip)))
 (.seq (.reg [
     ⟨(some 10), .mv (.const (.int .i64 1)), none⟩] [1, 4, 5, 7, 10])
 (.seq (.reg [
     ⟨(some 62), .load 2 true (.tmp 7), none⟩,
     ⟨(some 63), .mv (.tmp 10), none⟩,
     ⟨(some 64), .call 17 [(.tmp 62), (.tmp 63)], none⟩,
     ⟨(some 10), .mv (.tmp 64), none⟩] [1, 4, 5, 7, 10])
 (.seq (.reg [
     ⟨(some 11), .mv (.const (.int .i64 1)), none⟩] [1, 4, 5, 7, 10, 11])
 (.seq (.reg [
     ⟨(some 65), .load 2 true (.tmp 7), none⟩,
     ⟨(some 66), .mv (.tmp 11), none⟩,
     ⟨(some 67), .call 18 [(.tmp 65), (.tmp 66)], none⟩,
     ⟨(some 11), .mv (.tmp 67), none⟩] [1, 4, 5, 7, 10, 11])
 (.seq (.seq (.reg [
     ⟨(some 68), .mv (.tmp 11), none⟩,
     ⟨(some 69), .bin .lss (.tmp 68) (.const (.int .i64 0)), none⟩] [1, 4, 5, 7, 10, 11, 69])
 (.cond (.tmp 69)
  (.seq (.reg [
      ⟨(some 2), .mv (.const (.bool false)), none⟩] [2])
  (.ret))
  (.skip)))
 (.seq (.seq (.reg [
     ⟨(some 70), .mv (.tmp 11), none⟩,
     ⟨(some 71), .mv (.tmp 10), none⟩,
     ⟨(some 72), .bin .neq (.tmp 70) (.tmp 71), none⟩] [1, 4, 5, 7, 10, 72])
 (.cond (.tmp 72)
  (.seq (.reg [
      ⟨(some 2), .mv (.const (.bool false)), none⟩] [2])
  (.ret))
  (.skip)))
 (.seq (.reg [
     ⟨(some 74), .load 2 true (.tmp 1), none⟩,
     ⟨(some 75), .call 8 [(.tmp 74)], none⟩,
     ⟨(some 76), .call 14 [(.tmp 75)], none⟩,
     ⟨(some 73), .mv (.tmp 76), none⟩,
     ⟨(some 77), .ext (.tmp 73) 0, none⟩,
     ⟨(some 78), .ext (.tmp 73) 1, none⟩,
     ⟨(some 12), .alloc 38 [(.int .i64 0), (.slice none 0 0)], none⟩,
     ⟨none, .store 2 (.tmp 12) (.tmp 77), none⟩,
     ⟨(some 13), .mv (.tmp 78), none⟩] [4, 5, 7, 10, 12, 13])
 (.seq (.seq (.reg [
     ⟨(some 79), .load 2 true (.tmp 12), none⟩,
     ⟨(some 80), .load 2 true (.tmp 4), none⟩,
     ⟨(some 81), .call 15 [(.tmp 79), (.tmp 80)], none⟩,
     ⟨(some 82), .un .not (.tmp 81), none⟩,
     ⟨(some 83), .mv (.tmp 82), none⟩,
     ⟨(some 84), .mv (.tmp 13), (some (83, false))⟩,
     ⟨(some 85), .mv (.tmp 5), (some (83, false))⟩,
     ⟨(some 86), .bin .neq (.tmp 84) (.tmp 85), (some (83, false))⟩,
     ⟨(some 87), .pick (.tmp 83) (.const (.bool true)) (.tmp 86), none⟩] [7, 10, 87])
 (.cond (.tmp 87)
  (.seq (.reg [
      ⟨(some 2), .mv (.const (.bool false)), none⟩] [2])
  (.ret))
  (.skip)))
 (.seq (.reg [
     ⟨(some 11), .mv (.const (.int .i64 1)), none⟩] [7, 10, 11])
 (.seq (.reg [
     ⟨(some 88), .load 2 true (.tmp 7), none⟩,
     ⟨(some 89), .mv (.tmp 11), none⟩,
     ⟨(some 90), .call 18 [(.tmp 88), (.tmp 89)], none⟩,
     ⟨(some 11), .mv (.tmp 90), none⟩] [10, 11])
 (.seq (.seq (.reg [
     ⟨(some 91), .mv (.tmp 11), none⟩,
     ⟨(some 92), .bin .lss (.tmp 91) (.const (.int .i64 0)), none⟩] [10, 11, 92])
 (.cond (.tmp 92)
  (.seq (.reg [
      ⟨(some 2), .mv (.const (.bool false)), none⟩] [2])
  (.ret))
  (.skip)))
 (.seq (.seq (.reg [
     ⟨(some 93), .mv (.tmp 11), none⟩,
     ⟨(some 94), .mv (.tmp 10), none⟩,
     ⟨(some 95), .bin .neq (.tmp 93) (.tmp 94), none⟩] [95])
 (.cond (.tmp 95)
  (.seq (.reg [
      ⟨(some 2), .mv (.const (.bool false)), none⟩] [2])
  (.ret))
  (.skip)))
 (.seq (.reg [
     ⟨(some 2), .mv (.const (.bool true)), none⟩] [2])
 (.ret)))))))))))))))))))))))))
theorem s_laws_FnExactDesignOfGraph : stripF Try.prog 4 [[1], [1, 3], [1, 3], [1, 18], [2], [1, 4, 5], [1, 4, 5, 6], [1, 4, 5, 6, 7, 8], [1, 4, 5, 6, 7, 8, 40], [2], [1, 4, 5, 6, 7, 8, 45], [2], [1, 4, 5, 6, 7, 8, 9], [1, 4, 5, 7, 8, 9], [1, 4, 5, 7, 61], [2], [1, 4, 5, 7, 10], [1, 4, 5, 7, 10], [1, 4, 5, 7, 10, 11], [1, 4, 5, 7, 10, 11], [1, 4, 5, 7, 10, 11, 69], [2], [1, 4, 5, 7, 10, 72], [2], [4, 5, 7, 10, 12, 13], [7, 10, 87], [2], [7, 10, 11], [10, 11], [10, 11, 92], [2], [95], [2], [2]] = some (c_laws_FnExactDesignOfGraph, [.tmp 2], 96) := by kernel_rfl
theorem toGraph_ok (H : List Blk) (cols : List Int) (es : List (Int × Int)) (hl1 : cols.length ≤ 1073741824) (hl : es.length ≤ 1073741824) :
    ACalls Try.prog f_laws_toGraph [.agg [ilS cols, ilE es]] H (fun r H' => ∃ ext u v, H' = H ++ ext ∧ r = .agg [u, v] ∧ OwnS H' (fun j => j = H.length + 3) H.length u cols ∧ OwnE H' (fun j => j = H.length + 4) v es ∧ H'.length = H.length + 5) := by
  refine ACalls.introB s_laws_toGraph (by simp) ?_; intro hB hA; unfold c_laws_toGraph; simp (config := { maxSteps := 1000000 }) (disch := (first | omega | (simp only [go_sem]; try omega))) only [go_sem, Nat.reduceAdd, Nat.reduceEqDiff, Nat.reduceLeDiff, Nat.reduceMul, Nat.reduceLT, reduceIte, Int.reduceToNat, w64_id, cast_succ]
  repeat (first | (with_reducible first | refine SW.seq ?_ | refine SW.block ?_ | refine SW.rowC ?_ | refine SW.skip ?_ | refine SW.exit ?_ | intro _ | refine And.intro (by omega) ?_) | simp (config := { maxSteps := 1000000 }) (disch := (first | omega | (simp only [go_sem]; try omega))) only [go_sem, Nat.reduceAdd, Nat.reduceEqDiff, Nat.reduceLeDiff, Nat.reduceMul, Nat.reduceLT, reduceIte, Int.reduceToNat, w64_id, cast_succ])
  refine (toInt64S_ok _ _ cols (rd_ilS _ _) hl1).mono ?_
  rintro r X ⟨rfl, rfl⟩
  repeat (first | (with_reducible first | refine SW.seq ?_ | refine SW.block ?_ | refine SW.rowC ?_ | refine SW.skip ?_ | refine SW.exit ?_ | intro _ | refine And.intro (by omega) ?_) | simp (config := { maxSteps := 1000000 }) (disch := (first | omega | (simp only [go_sem]; try omega))) only [go_sem, Nat.reduceAdd, Nat.reduceEqDiff, Nat.reduceLeDiff, Nat.reduceMul, Nat.reduceLT, reduceIte, Int.reduceToNat, w64_id, cast_succ])
  refine (toEdgeS_ok _ _ es (rd_ilE _ _) hl).mono ?_
  rintro r X ⟨rfl, rfl⟩
  repeat (first | (with_reducible first | refine SW.seq ?_ | refine SW.block ?_ | refine SW.rowC ?_ | refine SW.skip ?_ | refine SW.exit ?_ | intro _ | refine And.intro (by omega) ?_) | simp (config := { maxSteps := 1000000 }) (disch := (first | omega | (simp only [go_sem]; try omega))) only [go_sem, Nat.reduceAdd, Nat.reduceEqDiff, Nat.reduceLeDiff, Nat.reduceMul, Nat.reduceLT, reduceIte, Int.reduceToNat, w64_id, cast_succ])
  refine SW.ret (FunPost.cell (cs := [.nm (H.length + 3) 0 0 cols.length, .nm (H.length + 4) 0 0 es.length]) (by simp [go_sem, acells]) (GR.of ⟨_, _, _, rfl, rfl, .inl ⟨_, 0, 2, rfl, rfl, by omega, by simp⟩, ?_, by simp⟩))
  refine .inl ⟨_, 0, tyE, rfl, rfl, by simp⟩
theorem OwnS.oneR {H : List Blk} {N : Nat → Prop} {t : Nat} {c : AV} {xs : List Int} (h : OwnS H N t c xs) : c.cell1 = true ∧ partsOf c = [c] := by
  rcases h with ⟨r, ver, ty, rfl, _⟩ | ⟨_, rfl | rfl⟩ <;> exact ⟨rfl, rfl⟩
theorem OwnS.appR {H : List Blk} {N : Nat → Prop} {t : Nat} {c : AV} {xs : List Int} (h : OwnS H N t c xs) (ext : List Blk) : OwnS (H ++ ext) N t c xs :=
  h.same (fun j b _ _ hb => by rw [List.getElem?_append_left (List.getElem?_eq_some_iff.1 hb).1]; exact hb)
theorem total_leD {m : Nat} : ∀ {xss : List (List Int)}, (∀ x ∈ xss, x.length ≤ m) → total xss ≤ xss.length * m
  | [], _ => by simp [total]
  | x :: r, h => by
    have h1 := h x (by simp)
    have h2 := total_leD (m := m) (xss := r) (fun y hy => h y (List.mem_cons_of_mem _ hy))
    rw [total_cons, List.length_cons, Nat.add_mul]; omega
theorem dogV_small (cols : List Int) (es : List (Int × Int)) : total (dogV cols es) ≤ 1000000 ∧ (dogV cols es).length ≤ 64 := by
  unfold dogV
  cases hg : grB cols es
  · simp [total]
  obtain ⟨f1, f2, f3, f4⟩ := grB_facts hg
  cases hb : dogB cols es
  · simp [total]
  rw [Bool.and_self, if_pos rfl]
  have hp := (sortD_fact cmpL_tot (dogR cols es)).1
  have hl : (sortD cmpL (dogR cols es)).length ≤ 64 := by
    rw [hp.length_eq]; unfold dogR
    rw [List.length_drop, List.length_map, nbrT_len]; omega
  have hr : ∀ x ∈ sortD cmpL (dogR cols es), x.length ≤ 2000 := fun x hx => by
    have hx2 := hp.mem_iff.1 hx
    unfold dogR at hx2
    obtain ⟨y, hy, rfl⟩ := List.mem_map.1 (List.mem_of_mem_drop hx2)
    obtain ⟨k, _, rfl⟩ := List.mem_map.1 hy
    have := nbr_len es k
    rw [isort_length]; omega
  have := total_leD hr
  exact ⟨by omega, hl⟩
theorem lawDesignOfGraph_ok (H : List Blk) (cols : List Int) (es : List (Int × Int)) : ACalls Try.prog f_laws_FnExactDesignOfGraph [.agg [ilS cols, ilE es]] H (fun r _ => r = Bv true) := by
  refine ACalls.introB s_laws_FnExactDesignOfGraph (by simp) ?_; intro hB hA; unfold c_laws_FnExactDesignOfGraph; simp (config := { maxSteps := 1000000 }) (disch := (first | omega | (simp only [go_sem]; try omega))) only [go_sem, Nat.reduceAdd, Nat.reduceEqDiff, Nat.reduceLeDiff, Nat.reduceMul, Nat.reduceLT, reduceIte, Int.reduceToNat, w64_id, cast_succ]
  repeat (first | (with_reducible first | refine SW.seq ?_ | refine SW.block ?_ | refine SW.rowC ?_ | refine SW.skip ?_ | refine SW.exit ?_ | intro _ | refine And.intro (by omega) ?_) | simp (config := { maxSteps := 1000000 }) (disch := (first | omega | (simp only [go_sem]; try omega))) only [go_sem, Nat.reduceAdd, Nat.reduceEqDiff, Nat.reduceLeDiff, Nat.reduceMul, Nat.reduceLT, reduceIte, Int.reduceToNat, w64_id, cast_succ])
  refine (szGraph_ok _ cols es _ (by omega) (by omega)).mono ?_
  rintro r H' ⟨⟨z, rfl, g1, g2, g3⟩, rfl⟩
  repeat (first | (with_reducible first | refine SW.seq ?_ | refine SW.block ?_ | refine SW.rowC ?_ | refine SW.skip ?_ | refine SW.exit ?_ | intro _ | refine And.intro (by omega) ?_) | simp (config := { maxSteps := 1000000 }) (disch := (first | omega | (simp only [go_sem]; try omega))) only [go_sem, Nat.reduceAdd, Nat.reduceEqDiff, Nat.reduceLeDiff, Nat.reduceMul, Nat.reduceLT, reduceIte, Int.reduceToNat, w64_id, cast_succ])
  (first | refine SW.condD rfl (fun h2 => ?_) (fun h2 => ?_) | refine SW.condN rfl (fun h2 => ?_) (fun h2 => ?_) | refine SW.condNB rfl (fun h2 => ?_) (fun h2 => ?_) | refine SW.condB rfl (fun h2 => ?_) (fun h2 => ?_))
  · repeat (first | (with_reducible first | refine SW.seq ?_ | refine SW.block ?_ | refine SW.rowC ?_ | refine SW.skip ?_ | refine SW.exit ?_ | intro _ | refine And.intro (by omega) ?_) | simp (config := { maxSteps := 1000000 }) (disch := (first | omega | (simp only [go_sem]; try omega))) only [go_sem, Nat.reduceAdd, Nat.reduceEqDiff, Nat.reduceLeDiff, Nat.reduceMul, Nat.reduceLT, reduceIte, Int.reduceToNat, w64_id, cast_succ])
    refine SW.ret ?_; (try simp only [go_sem]); (first | refine FunPost.one ?_ | refine FunPost.two ?_ | refine FunPost.three ?_); (try simp (config := { maxSteps := 1000000 }) (disch := (first | omega | (simp only [go_sem]; try omega))) only [go_sem, Nat.reduceAdd, Nat.reduceEqDiff, Nat.reduceLeDiff, Nat.reduceMul, Nat.reduceLT, reduceIte, Int.reduceToNat, w64_id, cast_succ])
    exact GR.of rfl
  have g4 := g3 (by omega)
  have t1 := toGraph_fn cols es (by omega) (by omega)
  have hs := specDog_fn cols es
  have hi := implDog_fds cols es
  have hto := (dogV_small cols es).1
  generalize dogV cols es = zs at *
  generalize dogN cols es = zn at *
  generalize dogA cols es = code at *
  repeat (first | (with_reducible first | refine SW.seq ?_ | refine SW.block ?_ | refine SW.rowC ?_ | refine SW.skip ?_ | refine SW.exit ?_ | intro _ | refine And.intro (by omega) ?_) | simp (config := { maxSteps := 1000000 }) (disch := (first | omega | (simp only [go_sem]; try omega))) only [go_sem, Nat.reduceAdd, Nat.reduceEqDiff, Nat.reduceLeDiff, Nat.reduceMul, Nat.reduceLT, reduceIte, Int.reduceToNat, w64_id, cast_succ])
  refine ACalls.fn (t1 _) ?_
  repeat (first | (with_reducible first | refine SW.seq ?_ | refine SW.block ?_ | refine SW.rowC ?_ | refine SW.skip ?_ | refine SW.exit ?_ | refine PFn.use (hs) ?_ | refine PFn.useq (hs) ?_ | intro _ | refine And.intro (by omega) ?_) | simp (config := { maxSteps := 1000000 }) (disch := (first | omega | (simp only [go_sem]; try omega))) only [go_sem, Nat.reduceAdd, Nat.reduceEqDiff, Nat.reduceLeDiff, Nat.reduceMul, Nat.reduceLT, reduceIte, Int.reduceToNat, w64_id, cast_succ])
  refine (toGraph_ok _ cols es (by omega) (by omega)).mono ?_
  rintro r H1 ⟨ext, u, v, hH1, rfl, ownu, ownv, hlen1⟩
  have pw := get_appB2 (show (H ++ [(⟨0, 25, 1, [ilS cols, ilE es]⟩ : Blk), ⟨0, 38, 1, [I zn, ilSS zs]⟩])[H.length]? = some ⟨0, 25, 1, [ilS cols, ilE es]⟩ by simp) ext
  have pz := get_appB2 (show (H ++ [(⟨0, 25, 1, [ilS cols, ilE es]⟩ : Blk), ⟨0, 38, 1, [I zn, ilSS zs]⟩])[H.length + 1]? = some ⟨0, 38, 1, [I zn, ilSS zs]⟩ by simp) ext
  rw [← hH1] at pw pz
  have hb : (H ++ [(⟨0, 25, 1, [ilS cols, ilE es]⟩ : Blk), ⟨0, 38, 1, [I zn, ilSS zs]⟩]).length = H.length + 2 := by simp
  rw [hb] at ownu ownv hlen1
  clear hH1 hb
  repeat (first | (with_reducible first | refine SW.seq ?_ | refine SW.block ?_ | refine SW.rowC ?_ | refine SW.skip ?_ | refine SW.exit ?_ | intro _ | refine And.intro (by omega) ?_) | simp (config := { maxSteps := 1000000 }) (disch := (first | omega | (simp only [go_sem]; try omega))) only [go_sem, Nat.reduceAdd, Nat.reduceEqDiff, Nat.reduceLeDiff, Nat.reduceMul, Nat.reduceLT, reduceIte, Int.reduceToNat, w64_id, cast_succ, ownu.oneR.1, ownu.oneR.2, ownv.one.1, ownv.one.2])
  have px := (show (H1 ++ [(⟨0, tyGr, 1, [u, v]⟩ : Blk)])[H1.length]? = some ⟨0, tyGr, 1, [u, v]⟩ by simp)
  replace pw := get_appB2 pw [(⟨0, tyGr, 1, [u, v]⟩ : Blk)]
  replace pz := get_appB2 pz [(⟨0, tyGr, 1, [u, v]⟩ : Blk)]
  replace ownu := ownu.appR [(⟨0, tyGr, 1, [u, v]⟩ : Blk)]
  replace ownv := ownv.append [(⟨0, tyGr, 1, [u, v]⟩ : Blk)]
  have hl2' : (H1 ++ [(⟨0, tyGr, 1, [u, v]⟩ : Blk)]).length = H.length + 8 := by simp; omega
  generalize hH2 : H1 ++ [(⟨0, tyGr, 1, [u, v]⟩ : Blk)] = H2 at *
  clear hH2
  generalize hg : H1.length = g at *
  refine (hi.lend (.cons (froz_agg2 (ownu.froz (fun r _ => Nat.zero_le _)) (ownv.frozR (fun r _ => Nat.zero_le _))) .nil)).mono ?_
  rintro r H3 ⟨ext2, gu, hH3, rfl, hu⟩
  replace pw := get_appB2 pw ext2
  replace pz := get_appB2 pz ext2
  replace px := get_appB2 px ext2
  replace ownu := ownu.appR ext2
  replace ownv := ownv.append ext2
  have hl3 : H2.length ≤ H3.length := by rw [hH3]; simp
  rw [← hH3] at pw pz px ownu ownv
  clear hH3
  repeat (first | (with_reducible first | refine SW.seq ?_ | refine SW.block ?_ | refine SW.rowC ?_ | refine SW.skip ?_ | refine SW.exit ?_ | intro _ | refine And.intro (by omega) ?_) | simp (config := { maxSteps := 1000000 }) (disch := (first | omega | (simp only [go_sem]; try omega))) only [go_sem, Nat.reduceAdd, Nat.reduceEqDiff, Nat.reduceLeDiff, Nat.reduceMul, Nat.reduceLT, reduceIte, Int.reduceToNat, w64_id, cast_succ, hu.oneU.1, hu.oneU.2])
  have pg := (show (H3 ++ [(⟨0, 38, 1, [I zn, gu]⟩ : Blk)])[H3.length]? = some ⟨0, 38, 1, [I zn, gu]⟩ by simp)
  replace pw := get_appB2 pw [(⟨0, 38, 1, [I zn, gu]⟩ : Blk)]
  replace pz := get_appB2 pz [(⟨0, 38, 1, [I zn, gu]⟩ : Blk)]
  replace px := get_appB2 px [(⟨0, 38, 1, [I zn, gu]⟩ : Blk)]
  replace ownu := ownu.appR [(⟨0, 38, 1, [I zn, gu]⟩ : Blk)]
  replace ownv := ownv.append [(⟨0, 38, 1, [I zn, gu]⟩ : Blk)]
  replace hu := hu.append [(⟨0, 38, 1, [I zn, gu]⟩ : Blk)]
  generalize hH4 : H3 ++ [(⟨0, 38, 1, [I zn, gu]⟩ : Blk)] = H4 at *
  have hl4 : H3.length < H4.length := (List.getElem?_eq_some_iff.1 pg).1
  clear hH4
  generalize hq3 : H3.length = p3 at *
  have pzl : acells H4 2 (.pc (H.length + 1) 0 0) = some [I zn, ilSS zs] := pc_lds pz (by simp)
  have pgl : acells H4 2 (.pc p3 0 0) = some [I zn, gu] := pc_lds pg (by simp)
  have pxl : acells H4 2 (.pc g 0 0) = some [u, v] := pc_lds px (by simp)
  have pal : acells H4 2 (.pc H.length 0 0) = some [ilS cols, ilE es] := pc_lds pw (by simp)
  repeat (first | (with_reducible first | refine SW.seq ?_ | refine SW.block ?_ | refine SW.rowC ?_ | refine SW.skip ?_ | refine SW.exit ?_ | intro _ | refine And.intro (by omega) ?_) | simp (config := { maxSteps := 1000000 }) (disch := (first | omega | (simp only [go_sem]; try omega))) only [go_sem, Nat.reduceAdd, Nat.reduceEqDiff, Nat.reduceLeDiff, Nat.reduceMul, Nat.reduceLT, reduceIte, Int.reduceToNat, w64_id, cast_succ, pzl, pc_alive pz, pgl, pc_alive pg])
  refine ACalls.fn (eqDesign_ok _ zn zn gu (ilSS zs) zs zs hu.oneU.1 rfl hu.rd (rd_ilSS _ _)) ?_
  rw [show (decide (zn = zn) && decide (zs = zs)) = true by simp]
  repeat (first | (with_reducible first | refine SW.seq ?_ | refine SW.block ?_ | refine SW.rowC ?_ | refine SW.skip ?_ | refine SW.exit ?_ | intro _ | refine And.intro (by omega) ?_) | simp (config := { maxSteps := 1000000 }) (disch := (first | omega | (simp only [go_sem]; try omega))) only [go_sem, Nat.reduceAdd, Nat.reduceEqDiff, Nat.reduceLeDiff, Nat.reduceMul, Nat.reduceLT, reduceIte, Int.reduceToNat, w64_id, cast_succ])
  refine SW.condF rfl ?_
  repeat (first | (with_reducible first | refine SW.seq ?_ | refine SW.block ?_ | refine SW.rowC ?_ | refine SW.skip ?_ | refine SW.exit ?_ | refine PFn.use (t1) ?_ | refine PFn.useq (t1) ?_ | intro _ | refine And.intro (by omega) ?_) | simp (config := { maxSteps := 1000000 }) (disch := (first | omega | (simp only [go_sem]; try omega))) only [go_sem, Nat.reduceAdd, Nat.reduceEqDiff, Nat.reduceLeDiff, Nat.reduceMul, Nat.reduceLT, reduceIte, Int.reduceToNat, w64_id, cast_succ, pc_alive px, pc_alive pw, pxl, pal, ownu.oneR.1, ownu.oneR.2, ownv.one.1, ownv.one.2])
  refine QcallW.of (fun ext => eqGraph_ok _ u (ilS cols) v (ilE es) cols cols es es ownu.oneR.1 rfl ownv.one.1 rfl (ownu.appR ext).rd (rd_ilS _ _) (ownv.append ext).rd (rd_ilE _ _) (by omega)) ?_
  rw [show (decide (cols = cols) && decide (es = es)) = true by simp]
  repeat (first | (with_reducible first | refine SW.seq ?_ | refine SW.block ?_ | refine SW.rowC ?_ | refine SW.skip ?_ | refine SW.exit ?_ | intro _ | refine And.intro (by omega) ?_) | simp (config := { maxSteps := 1000000 }) (disch := (first | omega | (simp only [go_sem]; try omega))) only [go_sem, Nat.reduceAdd, Nat.reduceEqDiff, Nat.reduceLeDiff, Nat.reduceMul, Nat.reduceLT, reduceIte, Int.reduceToNat, w64_id, cast_succ])
  refine SW.condF rfl ?_
  repeat (first | (with_reducible first | refine SW.seq ?_ | refine SW.block ?_ | refine SW.rowC ?_ | refine SW.skip ?_ | refine SW.exit ?_ | intro _ | refine And.intro (by omega) ?_) | simp (config := { maxSteps := 1000000 }) (disch := (first | omega | (simp only [go_sem]; try omega))) only [go_sem, Nat.reduceAdd, Nat.reduceEqDiff, Nat.reduceLeDiff, Nat.reduceMul, Nat.reduceLT, reduceIte, Int.reduceToNat, w64_id, cast_succ, pc_alive px, pxl, ownu.oneR.1, ownu.oneR.2, ownv.one.1, ownv.one.2])
  refine (markGraph_ok _ _ _ _ 1 u v cols es ownu.oneR.1 ownv.one.1 ownu ownv (fun j h1 h2 => by omega) (by omega) (by omega) (by omega) (by omega) (by omega)).mono ?_
  rintro r H5 ⟨rfl, -, -, hl5, m2⟩
  have hlx3 := (List.getElem?_eq_some_iff.1 px).1
  replace pw := (m2 H.length (by omega) (by omega) (by omega)).trans pw
  replace pz := (m2 (H.length + 1) (by omega) (by omega) (by omega)).trans pz
  replace pg := (m2 p3 (by omega) (by omega) (by omega)).trans pg
  replace hu := hu.same (H' := H5) (fun j b hj hb => by rw [m2 j (by unfold Btw at hj; omega) (by unfold Btw at hj; omega) (List.getElem?_eq_some_iff.1 hb).1]; exact hb)
  clear ownu ownv px pxl pal pzl pgl m2
  have hneg1 : decide ((1 : Int) + cols.length + 2 * es.length < 0) = false := decide_eq_false (by omega)
  have hneg2 : decide ((1 : Int) + total zs < 0) = false := decide_eq_false (by omega)
  have pzl : acells H5 2 (.pc (H.length + 1) 0 0) = some [I zn, ilSS zs] := pc_lds pz (by simp)
  have pgl : acells H5 2 (.pc p3 0 0) = some [I zn, gu] := pc_lds pg (by simp)
  repeat (first | (with_reducible first | refine SW.seq ?_ | refine SW.block ?_ | refine SW.rowC ?_ | refine SW.skip ?_ | refine SW.exit ?_ | intro _ | refine And.intro (by omega) ?_) | simp (config := { maxSteps := 1000000 }) (disch := (first | omega | (simp only [go_sem]; try omega))) only [go_sem, Nat.reduceAdd, Nat.reduceEqDiff, Nat.reduceLeDiff, Nat.reduceMul, Nat.reduceLT, reduceIte, Int.reduceToNat, w64_id, cast_succ, hneg1, pgl, pc_alive pg, pzl, pc_alive pz, hu.oneU.1, hu.oneU.2])
  refine ACalls.fn (eqDesign_ok _ zn zn gu (ilSS zs) zs zs hu.oneU.1 rfl hu.rd (rd_ilSS _ _)) ?_
  rw [show (decide (zn = zn) && decide (zs = zs)) = true by simp]
  repeat (first | (with_reducible first | refine SW.seq ?_ | refine SW.block ?_ | refine SW.rowC ?_ | refine SW.skip ?_ | refine SW.exit ?_ | intro _ | refine And.intro (by omega) ?_) | simp (config := { maxSteps := 1000000 }) (disch := (first | omega | (simp only [go_sem]; try omega))) only [go_sem, Nat.reduceAdd, Nat.reduceEqDiff, Nat.reduceLeDiff, Nat.reduceMul, Nat.reduceLT, reduceIte, Int.reduceToNat, w64_id, cast_succ])
  refine SW.condF rfl ?_
  repeat (first | (with_reducible first | refine SW.seq ?_ | refine SW.block ?_ | refine SW.rowC ?_ | refine SW.skip ?_ | refine SW.exit ?_ | intro _ | refine And.intro (by omega) ?_) | simp (config := { maxSteps := 1000000 }) (disch := (first | omega | (simp only [go_sem]; try omega))) only [go_sem, Nat.reduceAdd, Nat.reduceEqDiff, Nat.reduceLeDiff, Nat.reduceMul, Nat.reduceLT, reduceIte, Int.reduceToNat, w64_id, cast_succ, pgl, pc_alive pg, hu.oneU.1, hu.oneU.2])
  refine (markDesign_ok _ _ zn 1 gu zs hu.oneU.1 hu (by omega) (by omega)).mono ?_
  rintro r H7 ⟨rfl, hu7, q3, q4⟩
  have hl6 := (List.getElem?_eq_some_iff.1 pg).1
  replace pw := (q4 H.length (by unfold Btw; omega) (by omega)).trans pw
  replace pz := (q4 (H.length + 1) (by unfold Btw; omega) (by omega)).trans pz
  replace pg := (q4 p3 (by unfold Btw; omega) (by omega)).trans pg
  clear hu pzl pgl q4
  have pgl : acells H7 2 (.pc p3 0 0) = some [I zn, gu] := pc_lds pg (by simp)
  repeat (first | (with_reducible first | refine SW.seq ?_ | refine SW.block ?_ | refine SW.rowC ?_ | refine SW.skip ?_ | refine SW.exit ?_ | intro _ | refine And.intro (by omega) ?_) | simp (config := { maxSteps := 1000000 }) (disch := (first | omega | (simp only [go_sem]; try omega))) only [go_sem, Nat.reduceAdd, Nat.reduceEqDiff, Nat.reduceLeDiff, Nat.reduceMul, Nat.reduceLT, reduceIte, Int.reduceToNat, w64_id, cast_succ, pgl, pc_alive pg, hu7.oneU.1, hu7.oneU.2])
  refine ACalls.fn (heldDesign_ok _ zn 1 gu zs hu7.oneU.1 hu7.rd (by omega) (by omega)) ?_
  repeat (first | (with_reducible first | refine SW.seq ?_ | refine SW.block ?_ | refine SW.rowC ?_ | refine SW.skip ?_ | refine SW.exit ?_ | intro _ | refine And.intro (by omega) ?_) | simp (config := { maxSteps := 1000000 }) (disch := (first | omega | (simp only [go_sem]; try omega))) only [go_sem, Nat.reduceAdd, Nat.reduceEqDiff, Nat.reduceLeDiff, Nat.reduceMul, Nat.reduceLT, reduceIte, Int.reduceToNat, w64_id, cast_succ, hneg2])
  refine SW.condF rfl ?_
  repeat (first | (with_reducible first | refine SW.seq ?_ | refine SW.block ?_ | refine SW.rowC ?_ | refine SW.skip ?_ | refine SW.exit ?_ | intro _ | refine And.intro (by omega) ?_) | simp (config := { maxSteps := 1000000 }) (disch := (first | omega | (simp only [go_sem]; try omega))) only [go_sem, Nat.reduceAdd, Nat.reduceEqDiff, Nat.reduceLeDiff, Nat.reduceMul, Nat.reduceLT, reduceIte, Int.reduceToNat, w64_id, cast_succ])
  refine SW.condF rfl ?_
  repeat (first | (with_reducible first | refine SW.seq ?_ | refine SW.block ?_ | refine SW.rowC ?_ | refine SW.skip ?_ | refine SW.exit ?_ | refine PFn.use (t1) ?_ | refine PFn.useq (t1) ?_ | intro _ | refine And.intro (by omega) ?_) | simp (config := { maxSteps := 1000000 }) (disch := (first | omega | (simp only [go_sem]; try omega))) only [go_sem, Nat.reduceAdd, Nat.reduceEqDiff, Nat.reduceLeDiff, Nat.reduceMul, Nat.reduceLT, reduceIte, Int.reduceToNat, w64_id, cast_succ, pc_alive pw, show acells H7 2 (.pc H.length 0 0) = some [ilS cols, ilE es] from pc_lds pw (by simp)])
  refine (hi _).mono ?_
  rintro r H9 ⟨ext3, hw, hH9, rfl, ho9⟩
  replace pz := get_appB2 pz ext3
  replace pg := get_appB2 pg ext3
  replace hu7 := hu7.append ext3
  rw [← hH9] at pz pg hu7
  clear hH9
  have pzl : acells H9 2 (.pc (H.length + 1) 0 0) = some [I zn, ilSS zs] := pc_lds pz (by simp)
  repeat (first | (with_reducible first | refine SW.seq ?_ | refine SW.block ?_ | refine SW.rowC ?_ | refine SW.skip ?_ | refine SW.exit ?_ | intro _ | refine And.intro (by omega) ?_) | simp (config := { maxSteps := 1000000 }) (disch := (first | omega | (simp only [go_sem]; try omega))) only [go_sem, Nat.reduceAdd, Nat.reduceEqDiff, Nat.reduceLeDiff, Nat.reduceMul, Nat.reduceLT, reduceIte, Int.reduceToNat, w64_id, cast_succ, ho9.oneU.1, ho9.oneU.2])
  replace pz := get_appB2 pz [(⟨0, 38, 1, [I zn, hw]⟩ : Blk)]
  replace pg := get_appB2 pg [(⟨0, 38, 1, [I zn, hw]⟩ : Blk)]
  replace hu7 := hu7.append [(⟨0, 38, 1, [I zn, hw]⟩ : Blk)]
  replace ho9 := ho9.append [(⟨0, 38, 1, [I zn, hw]⟩ : Blk)]
  replace pzl : acells (H9 ++ [(⟨0, 38, 1, [I zn, hw]⟩ : Blk)]) 2 (.pc (H.length + 1) 0 0) = some [I zn, ilSS zs] := pc_lds pz (by simp)
  have pgl : acells (H9 ++ [(⟨0, 38, 1, [I zn, hw]⟩ : Blk)]) 2 (.pc p3 0 0) = some [I zn, gu] := pc_lds pg (by simp)
  repeat (first | (with_reducible first | refine SW.seq ?_ | refine SW.block ?_ | refine SW.rowC ?_ | refine SW.skip ?_ | refine SW.exit ?_ | intro _ | refine And.intro (by omega) ?_) | simp (config := { maxSteps := 1000000 }) (disch := (first | omega | (simp only [go_sem]; try omega))) only [go_sem, Nat.reduceAdd, Nat.reduceEqDiff, Nat.reduceLeDiff, Nat.reduceMul, Nat.reduceLT, reduceIte, Int.reduceToNat, w64_id, cast_succ, pzl, pc_alive pz, ho9.oneU.1, ho9.oneU.2])
  refine ACalls.fn (eqDesign_ok _ zn zn hw (ilSS zs) zs zs ho9.oneU.1 rfl ho9.rd (rd_ilSS _ _)) ?_
  rw [show (decide (zn = zn) && decide (zs = zs)) = true by simp]
  repeat (first | (with_reducible first | refine SW.seq ?_ | refine SW.block ?_ | refine SW.rowC ?_ | refine SW.skip ?_ | refine SW.exit ?_ | intro _ | refine And.intro (by omega) ?_) | simp (config := { maxSteps := 1000000 }) (disch := (first | omega | (simp only [go_sem]; try omega))) only [go_sem, Nat.reduceAdd, Nat.reduceEqDiff, Nat.reduceLeDiff, Nat.reduceMul, Nat.reduceLT, reduceIte, Int.reduceToNat, w64_id, cast_succ])
  refine SW.condF rfl ?_
  repeat (first | (with_reducible first | refine SW.seq ?_ | refine SW.block ?_ | refine SW.rowC ?_ | refine SW.skip ?_ | refine SW.exit ?_ | intro _ | refine And.intro (by omega) ?_) | simp (config := { maxSteps := 1000000 }) (disch := (first | omega | (simp only [go_sem]; try omega))) only [go_sem, Nat.reduceAdd, Nat.reduceEqDiff, Nat.reduceLeDiff, Nat.reduceMul, Nat.reduceLT, reduceIte, Int.reduceToNat, w64_id, cast_succ, pgl, pc_alive pg, hu7.oneU.1, hu7.oneU.2])
  refine ACalls.fn (heldDesign_ok _ zn 1 gu zs hu7.oneU.1 hu7.rd (by omega) (by omega)) ?_
  repeat (first | (with_reducible first | refine SW.seq ?_ | refine SW.block ?_ | refine SW.rowC ?_ | refine SW.skip ?_ | refine SW.exit ?_ | intro _ | refine And.intro (by omega) ?_) | simp (config := { maxSteps := 1000000 }) (disch := (first | omega | (simp only [go_sem]; try omega))) only [go_sem, Nat.reduceAdd, Nat.reduceEqDiff, Nat.reduceLeDiff, Nat.reduceMul, Nat.reduceLT, reduceIte, Int.reduceToNat, w64_id, cast_succ, hneg2])
  refine SW.condF rfl ?_
  repeat (first | (with_reducible first | refine SW.seq ?_ | refine SW.block ?_ | refine SW.rowC ?_ | refine SW.skip ?_ | refine SW.exit ?_ | intro _ | refine And.intro (by omega) ?_) | simp (config := { maxSteps := 1000000 }) (disch := (first | omega | (simp only [go_sem]; try omega))) only [go_sem, Nat.reduceAdd, Nat.reduceEqDiff, Nat.reduceLeDiff, Nat.reduceMul, Nat.reduceLT, reduceIte, Int.reduceToNat, w64_id, cast_succ])
  refine SW.condF rfl ?_
  repeat (first | (with_reducible first | refine SW.seq ?_ | refine SW.block ?_ | refine SW.rowC ?_ | refine SW.skip ?_ | refine SW.exit ?_ | intro _ | refine And.intro (by omega) ?_) | simp (config := { maxSteps := 1000000 }) (disch := (first | omega | (simp only [go_sem]; try omega))) only [go_sem, Nat.reduceAdd, Nat.reduceEqDiff, Nat.reduceLeDiff, Nat.reduceMul, Nat.reduceLT, reduceIte, Int.reduceToNat, w64_id, cast_succ])
  refine SW.ret ?_; (try simp only [go_sem]); (first | refine FunPost.one ?_ | refine FunPost.two ?_ | refine FunPost.three ?_); (try simp (config := { maxSteps := 1000000 }) (disch := (first | omega | (simp only [go_sem]; try omega))) only [go_sem, Nat.reduceAdd, Nat.reduceEqDiff, Nat.reduceLeDiff, Nat.reduceMul, Nat.reduceLT, reduceIte, Int.reduceToNat, w64_id, cast_succ])
  exact GR.of rfl
end Go.Proofs.Ytmdeibdplpodpaa
