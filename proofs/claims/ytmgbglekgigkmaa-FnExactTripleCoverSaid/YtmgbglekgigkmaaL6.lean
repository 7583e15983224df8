/- The law of SquareCover, as a computation. -/
import Derived.Test.YtmgbglekgigkmaaProg
import Derived.KernelRfl
import Derived.Test.YtmgbglekgigkmaaL5
import Derived.Test.YtmgbglekgigkmaaAv15
set_option linter.unusedSimpArgs false
set_option linter.unusedVariables false
set_option maxHeartbeats 4000000
namespace Go.Proofs.Ytmgbglekgigkmaa
open Go.Av

/-! The abstract code of functions, printed by program and tied to the program by the kernel. -/
/-- loop.example/g00920/laws.FnExactSquareCover -/
abbrev f_laws_FnExactSquareCover : Nat := 3
def c_laws_FnExactSquareCover : SC :=
 .seq (.reg [
     ⟨(some 2), .mv (.const (.bool false)), none⟩] [0])
 (.seq (.reg [
     ⟨(some 12), .mv (.tmp 0), none⟩,
     ⟨(some 13), .call 15 [(.tmp 12)], none⟩,
     ⟨(some 11), .mv (.tmp 13), none⟩,
     ⟨(some 14), .ext (.tmp 11) 0, none⟩,
     ⟨(some 15), .ext (.tmp 11) 1, none⟩,
     ⟨(some 3), .alloc 24 [(.int .i64 0), (.slice none 0 0)], none⟩,
     ⟨none, .store 2 (.tmp 3) (.tmp 14), none⟩,
     ⟨(some 4), .mv (.tmp 15), none⟩] [0, 3, 4])
 (.seq (.reg [
     ⟨(some 17), .mv (.tmp 0), none⟩,
     ⟨(some 18), .call 16 [(.tmp 17)], none⟩,
     ⟨(some 16), .mv (.tmp 18), none⟩,
     ⟨(some 19), .ext (.tmp 16) 0, none⟩,
     ⟨(some 20), .ext (.tmp 16) 1, none⟩,
     ⟨(some 5), .alloc 24 [(.int .i64 0), (.slice none 0 0)], none⟩,
     ⟨none, .store 2 (.tmp 5) (.tmp 19), none⟩,
     ⟨(some 6), .mv (.tmp 20), none⟩] [0, 3, 4, 5, 6])
 (.seq (.seq (.reg [
     ⟨(some 21), .load 2 true (.tmp 5), none⟩,
     ⟨(some 22), .load 2 true (.tmp 3), none⟩,
     ⟨(some 23), .call 17 [(.tmp 21), (.tmp 22)], none⟩,
     ⟨(some 24), .un .not (.tmp 23), none⟩,
     ⟨(some 25), .mv (.tmp 24), none⟩,
     ⟨(some 26), .mv (.tmp 6), (some (25, false))⟩,
     ⟨(some 27), .mv (.tmp 4), (some (25, false))⟩,
     ⟨(some 28), .bin .neq (.tmp 26) (.tmp 27), (some (25, false))⟩,
     ⟨(some 29), .pick (.tmp 25) (.const (.bool true)) (.tmp 28), none⟩] [0, 3, 4, 5, 29])
 (.cond (.tmp 29)
  (.seq (.reg [
      ⟨(some 2), .mv (.const (.bool false)), none⟩] [2])
  (.ret))
  (.skip)))
 (.seq (.reg [
     ⟨(some 7), .mv (.const (.int .i64 1)), none⟩] [0, 3, 4, 5, 7])
 (.seq (.reg [
     ⟨(some 30), .load 2 true (.tmp 5), none⟩,
     ⟨(some 31), .mv (.tmp 7), none⟩,
     ⟨(some 32), .call 18 [(.tmp 30), (.tmp 31)], none⟩,
     ⟨(some 7), .mv (.tmp 32), none⟩] [0, 3, 4, 5, 7])
 (.seq (.reg [
     ⟨(some 8), .mv (.const (.int .i64 1)), none⟩] [0, 3, 4, 5, 7, 8])
 (.seq (.reg [
     ⟨(some 33), .load 2 true (.tmp 5), none⟩,
     ⟨(some 34), .mv (.tmp 8), none⟩,
     ⟨(some 35), .call 19 [(.tmp 33), (.tmp 34)], none⟩,
     ⟨(some 8), .mv (.tmp 35), none⟩] [0, 3, 4, 5, 7, 8])
 (.seq (.seq (.reg [
     ⟨(some 36), .mv (.tmp 8), none⟩,
     ⟨(some 37), .bin .lss (.tmp 36) (.const (.int .i64 0)), none⟩] [0, 3, 4, 5, 7, 8, 37])
 (.cond (.tmp 37)
  (.seq (.reg [
      ⟨(some 2), .mv (.const (.bool false)), none⟩] [2])
  (.ret))
  (.skip)))
 (.seq (.seq (.reg [
     ⟨(some 38), .mv (.tmp 8), none⟩,
     ⟨(some 39), .mv (.tmp 7), none⟩,
     ⟨(some 40), .bin .neq (.tmp 38) (.tmp 39), none⟩] [0, 3, 4, 5, 7, 40])
 (.cond (.tmp 40)
  (.seq (.reg [
      ⟨(some 2), .mv (.const (.bool false)), none⟩] [2])
  (.ret))
  (.skip)))
 (.seq (.reg [
     ⟨(some 42), .mv (.tmp 0), none⟩,
     ⟨(some 43), .call 16 [(.tmp 42)], none⟩,
     ⟨(some 41), .mv (.tmp 43), none⟩,
     ⟨(some 44), .ext (.tmp 41) 0, none⟩,
     ⟨(some 45), .ext (.tmp 41) 1, none⟩,
     ⟨(some 9), .alloc 24 [(.int .i64 0), (.slice none 0 0)], none⟩,
     ⟨none, .store 2 (.tmp 9) (.tmp 44), none⟩,
     ⟨(some 10), .mv (.tmp 45), none⟩] [3, 4, 5, 7, 9, 10])
 (.seq (.seq (.reg [
     ⟨(some 46), .load 2 true (.tmp 9), none⟩,
     ⟨(some 47), .load 2 true (.tmp 3), none⟩,
     ⟨(some 48), .call 17 [(.tmp 46), (.tmp 47)], none⟩,
     ⟨(some 49), .un .not (.tmp 48), none⟩,
     ⟨(some 50), .mv (.tmp 49), none⟩,
     ⟨(some 51), .mv (.tmp 10), (some (50, false))⟩,
     ⟨(some 52), .mv (.tmp 4), (some (50, false))⟩,
     ⟨(some 53), .bin .neq (.tmp 51) (.tmp 52), (some (50, false))⟩,
     ⟨(some 54), .pick (.tmp 50) (.const (.bool true)) (.tmp 53), none⟩] [5, 7, 54])
 (.cond (.tmp 54)
  (.seq (.reg [
      ⟨(some 2), .mv (.const (.bool false)), none⟩] [2])
  (.ret))
  (.skip)))
 (.seq (.reg [
     ⟨(some 8), .mv (.const (.int .i64 1)), none⟩] [5, 7, 8])
 (.seq (.reg [
     ⟨(some 55), .load 2 true (.tmp 5), none⟩,
     ⟨(some 56), .mv (.tmp 8), none⟩,
     ⟨(some 57), .call 19 [(.tmp 55), (.tmp 56)], none⟩,
     ⟨(some 8), .mv (.tmp 57), none⟩] [7, 8])
 (.seq (.seq (.reg [
     ⟨(some 58), .mv (.tmp 8), none⟩,
     ⟨(some 59), .bin .lss (.tmp 58) (.const (.int .i64 0)), none⟩] [7, 8, 59])
 (.cond (.tmp 59)
  (.seq (.reg [
      ⟨(some 2), .mv (.const (.bool false)), none⟩] [2])
  (.ret))
  (.skip)))
 (.seq (.seq (.reg [
     ⟨(some 60), .mv (.tmp 8), none⟩,
     ⟨(some 61), .mv (.tmp 7), none⟩,
     ⟨(some 62), .bin .neq (.tmp 60) (.tmp 61), none⟩] [62])
 (.cond (.tmp 62)
  (.seq (.reg [
      ⟨(some 2), .mv (.const (.bool false)), none⟩] [2])
  (.ret))
  (.skip)))
 (.seq (.reg [
     ⟨(some 2), .mv (.const (.bool true)), none⟩] [2])
 (.ret)))))))))))))))))
theorem s_laws_FnExactSquareCover : stripF Try.prog 3 [[0], [0, 3, 4], [0, 3, 4, 5, 6], [0, 3, 4, 5, 29], [2], [0, 3, 4, 5, 7], [0, 3, 4, 5, 7], [0, 3, 4, 5, 7, 8], [0, 3, 4, 5, 7, 8], [0, 3, 4, 5, 7, 8, 37], [2], [0, 3, 4, 5, 7, 40], [2], [3, 4, 5, 7, 9, 10], [5, 7, 54], [2], [5, 7, 8], [7, 8], [7, 8, 59], [2], [62], [2], [2]] = some (c_laws_FnExactSquareCover, [.tmp 2], 63) := by kernel_rfl


theorem sq_small {n : Nat} (h0 : 1 ≤ n ∧ n ≤ 4) : total (sqI n (n * n)) ≤ 1000 := by
  have : n = 1 ∨ n = 2 ∨ n = 3 ∨ n = 4 := by omega
  rcases this with rfl | rfl | rfl | rfl <;> decide

theorem implSq (n : Int) : ∃ (items code : Int) (xss : List (List Int)), total xss ≤ 1000 ∧ (∀ H, ACalls Try.prog f_spec_SquareCover [I n] H (fun r H' => (∃ w, r = .tup [.agg [I items, w], I code] ∧ w.cell1 = true ∧ partsOf w = [w] ∧ ∀ H, RdSS H w xss) ∧ H' = H)) ∧
    ∀ H, ACalls Try.prog f_impl_SquareCover [I n] H (fun r H' => ∃ ext v, H' = H ++ ext ∧ r = .tup [.agg [I items, v], I code] ∧ OwnSS H' (Btw H.length H'.length) v xss) := by
  by_cases h : 1 ≤ n ∧ n ≤ 4
  · obtain ⟨k, rfl⟩ := Int.eq_ofNat_of_zero_le (show 0 ≤ n by omega)
    have hk : 1 ≤ k ∧ k ≤ 4 := by omega
    refine ⟨_, _, _, sq_small hk, fun H => ?_, fun H => implSq_in H k hk⟩
    refine (specSq_in H k hk).mono ?_
    rintro r H' ⟨rfl, rfl⟩
    refine ⟨⟨_, rfl, rfl, rfl, fun H => ?_⟩, rfl⟩
    rw [sq_same hk]; exact rd_ilSS H _
  · refine ⟨0, 2, [], by simp [total], fun H => ?_, fun H => ?_⟩
    · refine (specSq_out H n h).mono ?_
      rintro r H' ⟨rfl, rfl⟩
      exact ⟨⟨_, rfl, rfl, rfl, fun H => ⟨[], rfl, rfl, fun j c xs h => by simp at h⟩⟩, rfl⟩
    · refine (implSq_out H n h).mono ?_
      rintro r H' ⟨rfl, rfl⟩
      exact ⟨[], nilS, by simp, rfl, .inr ⟨rfl, .inl rfl⟩⟩

theorem OwnSS.cell1 {H : List Blk} {N : Nat → Prop} {v : AV} {xss : List (List Int)} (h : OwnSS H N v xss) : v.cell1 = true ∧ partsOf v = [v] := by
  rcases h with ⟨t, ver, ty, cells, rfl, h⟩ | ⟨rfl, rfl | rfl⟩ <;> exact ⟨rfl, rfl⟩

theorem get_app {H : List Blk} {p : Nat} {b : Blk} (h : H[p]? = some b) (ext : List Blk) : (H ++ ext)[p]? = some b := by
  rw [List.getElem?_append_left (List.getElem?_eq_some_iff.1 h).1]; exact h

theorem lawSq_ok (H : List Blk) (n : Int) : ACalls Try.prog f_laws_FnExactSquareCover [I n] H (fun r _ => r = Bv true) := by
  obtain ⟨items, code, xss, hsmall, hspec, himpl⟩ := implSq n
  refine ACalls.intro s_laws_FnExactSquareCover (by simp) ?_
  refine SW.seq ?_; refine SW.row ?_; simp only [go_sem, Nat.reduceAdd, Nat.reduceEqDiff, Nat.reduceLeDiff, Nat.reduceMul, reduceIte, Nat.zero_ne_one, Nat.one_ne_zero, Nat.zero_add, Nat.add_zero, List.map_cons, List.map_nil, List.length_cons, List.length_nil, decide_true, decide_false, Bool.not_true, Bool.not_false, true_and, and_true, ne_eq, not_true_eq_false, not_false_eq_true, forall_const, List.getElem?_cons_zero, List.getElem?_cons_succ]
  refine SW.seq ?_; refine SW.row ?_; simp only [go_sem, Nat.reduceAdd, Nat.reduceEqDiff, Nat.reduceLeDiff, Nat.reduceMul, reduceIte, Nat.zero_ne_one, Nat.one_ne_zero, Nat.zero_add, Nat.add_zero, List.map_cons, List.map_nil, List.length_cons, List.length_nil, decide_true, decide_false, Bool.not_true, Bool.not_false, true_and, and_true, ne_eq, not_true_eq_false, not_false_eq_true, forall_const, List.getElem?_cons_zero, List.getElem?_cons_succ]
  refine (hspec _).mono ?_
  rintro r H' ⟨⟨w, rfl, w1, w2, w3⟩, rfl⟩
  simp only [go_sem, Nat.reduceAdd, Nat.reduceEqDiff, Nat.reduceLeDiff, Nat.reduceMul, reduceIte, Nat.zero_ne_one, Nat.one_ne_zero, Nat.zero_add, Nat.add_zero, List.map_cons, List.map_nil, List.length_cons, List.length_nil, decide_true, decide_false, Bool.not_true, Bool.not_false, true_and, and_true, ne_eq, not_true_eq_false, not_false_eq_true, forall_const, List.getElem?_cons_zero, List.getElem?_cons_succ, List.all_nil, List.all_cons, List.length_set, List.append_assoc, List.cons_append, List.nil_append, List.length_append, List.length_set, List.set_cons_zero, List.set_cons_succ, acell1_own, acell1_own0, alive_own, alive_own0, acells_own, acells_own0, astore_own, astore_own0, aview_own, aview_own0, PcL_some, PcV_some, PcG_some, PcS_some, NmV_some, setMany_nil, setMany_cons, partsOf_agg, cell1_nm, cell1_nil, cell1_il, cell1_Bv, cell1_pc, partsOf_nm, partsOf_il, partsOf_nil, partsOf_Bv, afill_nil, afill_cons, List.drop_zero, List.drop_succ_cons, List.take_succ_cons, List.take_zero, List.take_nil, and_self, Nat.le_refl, w1]
  refine SW.seq ?_; refine SW.row ?_; simp only [go_sem, Nat.reduceAdd, Nat.reduceEqDiff, Nat.reduceLeDiff, Nat.reduceMul, reduceIte, Nat.zero_ne_one, Nat.one_ne_zero, Nat.zero_add, Nat.add_zero, List.map_cons, List.map_nil, List.length_cons, List.length_nil, decide_true, decide_false, Bool.not_true, Bool.not_false, true_and, and_true, ne_eq, not_true_eq_false, not_false_eq_true, forall_const, List.getElem?_cons_zero, List.getElem?_cons_succ, List.all_nil, List.all_cons, List.length_set, List.append_assoc, List.cons_append, List.nil_append, List.length_append, List.length_set, List.set_cons_zero, List.set_cons_succ, acell1_own, acell1_own0, alive_own, alive_own0, acells_own, acells_own0, astore_own, astore_own0, aview_own, aview_own0, PcL_some, PcV_some, PcG_some, PcS_some, NmV_some, setMany_nil, setMany_cons, partsOf_agg, cell1_nm, cell1_nil, cell1_il, cell1_Bv, cell1_pc, partsOf_nm, partsOf_il, partsOf_nil, partsOf_Bv, afill_nil, afill_cons, List.drop_zero, List.drop_succ_cons, List.take_succ_cons, List.take_zero, List.take_nil, and_self, Nat.le_refl]
  refine (himpl _).mono ?_
  rintro r H1 ⟨ext, v, hH1, rfl, own⟩
  have pw := get_app (show (H' ++ [⟨0, tyCover, 1, [I items, w]⟩])[H'.length]? = some ⟨0, tyCover, 1, [I items, w]⟩ by simp) ext
  rw [← hH1] at pw
  simp only [go_sem, Nat.reduceAdd, Nat.reduceEqDiff, Nat.reduceLeDiff, Nat.reduceMul, reduceIte, Nat.zero_ne_one, Nat.one_ne_zero, Nat.zero_add, Nat.add_zero, List.map_cons, List.map_nil, List.length_cons, List.length_nil, decide_true, decide_false, Bool.not_true, Bool.not_false, true_and, and_true, ne_eq, not_true_eq_false, not_false_eq_true, forall_const, List.getElem?_cons_zero, List.getElem?_cons_succ, List.all_nil, List.all_cons, List.length_set, List.append_assoc, List.cons_append, List.nil_append, List.length_append, List.length_set, List.set_cons_zero, List.set_cons_succ, acell1_own, acell1_own0, alive_own, alive_own0, acells_own, acells_own0, astore_own, astore_own0, aview_own, aview_own0, PcL_some, PcV_some, PcG_some, PcS_some, NmV_some, setMany_nil, setMany_cons, partsOf_agg, cell1_nm, cell1_nil, cell1_il, cell1_Bv, cell1_pc, partsOf_nm, partsOf_il, partsOf_nil, partsOf_Bv, afill_nil, afill_cons, List.drop_zero, List.drop_succ_cons, List.take_succ_cons, List.take_zero, List.take_nil, and_self, Nat.le_refl, own.cell1]
  have pg : (H1 ++ [⟨0, tyCover, 1, [I items, v]⟩])[H1.length]? = some ⟨0, tyCover, 1, [I items, v]⟩ := by simp
  replace pw := get_app pw [⟨0, tyCover, 1, [I items, v]⟩]
  replace own := own.append [⟨0, tyCover, 1, [I items, v]⟩]
  have hlt : H'.length < H1.length := by rw [hH1]; simp
  clear hH1
  generalize hg : H1.length = g at *
  generalize hH2 : H1 ++ [⟨0, tyCover, 1, [I items, v]⟩] = H2 at *
  have hg2 := (List.getElem?_eq_some_iff.1 pg).1
  have hb : (H' ++ [(⟨0, 24, 1, [I items, w]⟩ : Blk)]).length = H'.length + 1 := by simp
  rw [hb] at own
  clear hH2 hg hb
  -- the first comparison
  refine SW.seq ?_; refine SW.seq ?_; refine SW.row ?_; simp only [go_sem, Nat.reduceAdd, Nat.reduceEqDiff, Nat.reduceLeDiff, Nat.reduceMul, reduceIte, Nat.zero_ne_one, Nat.one_ne_zero, Nat.zero_add, Nat.add_zero, List.map_cons, List.map_nil, List.length_cons, List.length_nil, decide_true, decide_false, Bool.not_true, Bool.not_false, true_and, and_true, ne_eq, not_true_eq_false, not_false_eq_true, forall_const, List.getElem?_cons_zero, List.getElem?_cons_succ, List.all_nil, List.all_cons, List.length_set, List.append_assoc, List.cons_append, List.nil_append, List.length_append, List.length_set, List.set_cons_zero, List.set_cons_succ, acell1_own, acell1_own0, alive_own, alive_own0, acells_own, acells_own0, astore_own, astore_own0, aview_own, aview_own0, PcL_some, PcV_some, PcG_some, PcS_some, NmV_some, setMany_nil, setMany_cons, partsOf_agg, cell1_nm, cell1_nil, cell1_il, cell1_Bv, cell1_pc, partsOf_nm, partsOf_il, partsOf_nil, partsOf_Bv, afill_nil, afill_cons, List.drop_zero, List.drop_succ_cons, List.take_succ_cons, List.take_zero, List.take_nil, and_self, Nat.le_refl, pc_lds pg, pc_lds pw]
  refine ACalls.fn (eqCover_ok _ items items v w xss xss own.cell1.1 w1 own.rd (w3 _)) ?_
  simp only [go_sem, Nat.reduceAdd, Nat.reduceEqDiff, Nat.reduceLeDiff, Nat.reduceMul, reduceIte, Nat.zero_ne_one, Nat.one_ne_zero, Nat.zero_add, Nat.add_zero, List.map_cons, List.map_nil, List.length_cons, List.length_nil, decide_true, decide_false, Bool.not_true, Bool.not_false, true_and, and_true, ne_eq, not_true_eq_false, not_false_eq_true, forall_const, List.getElem?_cons_zero, List.getElem?_cons_succ, Bool.and_self]
  refine SW.cond rfl (fun h => ?_) (fun h => ?_)
  · exact absurd h (by simp)
  clear h
  refine SW.skip ?_; simp only [go_sem, Nat.reduceAdd, Nat.reduceEqDiff, Nat.reduceLeDiff, Nat.reduceMul, reduceIte, Nat.zero_ne_one, Nat.one_ne_zero, Nat.zero_add, Nat.add_zero, List.map_cons, List.map_nil, List.length_cons, List.length_nil, decide_true, decide_false, Bool.not_true, Bool.not_false, true_and, and_true, ne_eq, not_true_eq_false, not_false_eq_true, forall_const, List.getElem?_cons_zero, List.getElem?_cons_succ]
  refine SW.seq ?_; refine SW.row ?_; simp only [go_sem, Nat.reduceAdd, Nat.reduceEqDiff, Nat.reduceLeDiff, Nat.reduceMul, reduceIte, Nat.zero_ne_one, Nat.one_ne_zero, Nat.zero_add, Nat.add_zero, List.map_cons, List.map_nil, List.length_cons, List.length_nil, decide_true, decide_false, Bool.not_true, Bool.not_false, true_and, and_true, ne_eq, not_true_eq_false, not_false_eq_true, forall_const, List.getElem?_cons_zero, List.getElem?_cons_succ]
  -- marked
  refine SW.seq ?_; refine SW.row ?_; simp only [go_sem, Nat.reduceAdd, Nat.reduceEqDiff, Nat.reduceLeDiff, Nat.reduceMul, reduceIte, Nat.zero_ne_one, Nat.one_ne_zero, Nat.zero_add, Nat.add_zero, List.map_cons, List.map_nil, List.length_cons, List.length_nil, decide_true, decide_false, Bool.not_true, Bool.not_false, true_and, and_true, ne_eq, not_true_eq_false, not_false_eq_true, forall_const, List.getElem?_cons_zero, List.getElem?_cons_succ, List.all_nil, List.all_cons, List.length_set, List.append_assoc, List.cons_append, List.nil_append, List.length_append, List.length_set, List.set_cons_zero, List.set_cons_succ, acell1_own, acell1_own0, alive_own, alive_own0, acells_own, acells_own0, astore_own, astore_own0, aview_own, aview_own0, PcL_some, PcV_some, PcG_some, PcS_some, NmV_some, setMany_nil, setMany_cons, partsOf_agg, cell1_nm, cell1_nil, cell1_il, cell1_Bv, cell1_pc, partsOf_nm, partsOf_il, partsOf_nil, partsOf_Bv, afill_nil, afill_cons, List.drop_zero, List.drop_succ_cons, List.take_succ_cons, List.take_zero, List.take_nil, and_self, Nat.le_refl, pc_lds pg]
  refine (markCover_ok _ _ items 1 v xss own.cell1.1 own (by omega) (by omega)).mono ?_
  rintro r H3 ⟨rfl, own3, g1, g2⟩
  simp only [go_sem, Nat.reduceAdd, Nat.reduceEqDiff, Nat.reduceLeDiff, Nat.reduceMul, reduceIte, Nat.zero_ne_one, Nat.one_ne_zero, Nat.zero_add, Nat.add_zero, List.map_cons, List.map_nil, List.length_cons, List.length_nil, decide_true, decide_false, Bool.not_true, Bool.not_false, true_and, and_true, ne_eq, not_true_eq_false, not_false_eq_true, forall_const, List.getElem?_cons_zero, List.getElem?_cons_succ]
  replace pw : H3[H'.length]? = _ := (g2 _ (by unfold Btw; omega) (by omega)).trans pw
  replace pg : H3[g]? = _ := (g2 _ (by unfold Btw; omega) (by omega)).trans pg
  have hg3 := (List.getElem?_eq_some_iff.1 pg).1
  clear own g1 g2 hg2
  refine SW.seq ?_; refine SW.row ?_; simp only [go_sem, Nat.reduceAdd, Nat.reduceEqDiff, Nat.reduceLeDiff, Nat.reduceMul, reduceIte, Nat.zero_ne_one, Nat.one_ne_zero, Nat.zero_add, Nat.add_zero, List.map_cons, List.map_nil, List.length_cons, List.length_nil, decide_true, decide_false, Bool.not_true, Bool.not_false, true_and, and_true, ne_eq, not_true_eq_false, not_false_eq_true, forall_const, List.getElem?_cons_zero, List.getElem?_cons_succ]
  -- held
  refine SW.seq ?_; refine SW.row ?_; simp only [go_sem, Nat.reduceAdd, Nat.reduceEqDiff, Nat.reduceLeDiff, Nat.reduceMul, reduceIte, Nat.zero_ne_one, Nat.one_ne_zero, Nat.zero_add, Nat.add_zero, List.map_cons, List.map_nil, List.length_cons, List.length_nil, decide_true, decide_false, Bool.not_true, Bool.not_false, true_and, and_true, ne_eq, not_true_eq_false, not_false_eq_true, forall_const, List.getElem?_cons_zero, List.getElem?_cons_succ, List.all_nil, List.all_cons, List.length_set, List.append_assoc, List.cons_append, List.nil_append, List.length_append, List.length_set, List.set_cons_zero, List.set_cons_succ, acell1_own, acell1_own0, alive_own, alive_own0, acells_own, acells_own0, astore_own, astore_own0, aview_own, aview_own0, PcL_some, PcV_some, PcG_some, PcS_some, NmV_some, setMany_nil, setMany_cons, partsOf_agg, cell1_nm, cell1_nil, cell1_il, cell1_Bv, cell1_pc, partsOf_nm, partsOf_il, partsOf_nil, partsOf_Bv, afill_nil, afill_cons, List.drop_zero, List.drop_succ_cons, List.take_succ_cons, List.take_zero, List.take_nil, and_self, Nat.le_refl, pc_lds pg]
  refine ACalls.fn (heldCover_ok _ items 1 v xss own3.cell1.1 own3.rd (by omega) (by omega)) ?_
  simp only [go_sem, Nat.reduceAdd, Nat.reduceEqDiff, Nat.reduceLeDiff, Nat.reduceMul, reduceIte, Nat.zero_ne_one, Nat.one_ne_zero, Nat.zero_add, Nat.add_zero, List.map_cons, List.map_nil, List.length_cons, List.length_nil, decide_true, decide_false, Bool.not_true, Bool.not_false, true_and, and_true, ne_eq, not_true_eq_false, not_false_eq_true, forall_const, List.getElem?_cons_zero, List.getElem?_cons_succ]
  refine SW.seq ?_; refine SW.seq ?_; refine SW.row ?_; simp only [go_sem, Nat.reduceAdd, Nat.reduceEqDiff, Nat.reduceLeDiff, Nat.reduceMul, reduceIte, Nat.zero_ne_one, Nat.one_ne_zero, Nat.zero_add, Nat.add_zero, List.map_cons, List.map_nil, List.length_cons, List.length_nil, decide_true, decide_false, Bool.not_true, Bool.not_false, true_and, and_true, ne_eq, not_true_eq_false, not_false_eq_true, forall_const, List.getElem?_cons_zero, List.getElem?_cons_succ]; (first | refine SW.cond rfl (fun h => ?_) (fun h => ?_) | (intro _; refine SW.cond rfl (fun h => ?_) (fun h => ?_)) | (intro _ _; refine SW.cond rfl (fun h => ?_) (fun h => ?_)))
  · exfalso
    have := of_decide_eq_true h
    omega
  clear h
  refine SW.skip ?_; simp only [go_sem, Nat.reduceAdd, Nat.reduceEqDiff, Nat.reduceLeDiff, Nat.reduceMul, reduceIte, Nat.zero_ne_one, Nat.one_ne_zero, Nat.zero_add, Nat.add_zero, List.map_cons, List.map_nil, List.length_cons, List.length_nil, decide_true, decide_false, Bool.not_true, Bool.not_false, true_and, and_true, ne_eq, not_true_eq_false, not_false_eq_true, forall_const, List.getElem?_cons_zero, List.getElem?_cons_succ]
  refine SW.seq ?_; refine SW.seq ?_; refine SW.row ?_; simp only [go_sem, Nat.reduceAdd, Nat.reduceEqDiff, Nat.reduceLeDiff, Nat.reduceMul, reduceIte, Nat.zero_ne_one, Nat.one_ne_zero, Nat.zero_add, Nat.add_zero, List.map_cons, List.map_nil, List.length_cons, List.length_nil, decide_true, decide_false, Bool.not_true, Bool.not_false, true_and, and_true, ne_eq, not_true_eq_false, not_false_eq_true, forall_const, List.getElem?_cons_zero, List.getElem?_cons_succ]; (first | refine SW.cond rfl (fun h => ?_) (fun h => ?_) | (intro _; refine SW.cond rfl (fun h => ?_) (fun h => ?_)) | (intro _ _; refine SW.cond rfl (fun h => ?_) (fun h => ?_)))
  · exact absurd h (by simp)
  clear h
  refine SW.skip ?_; simp only [go_sem, Nat.reduceAdd, Nat.reduceEqDiff, Nat.reduceLeDiff, Nat.reduceMul, reduceIte, Nat.zero_ne_one, Nat.one_ne_zero, Nat.zero_add, Nat.add_zero, List.map_cons, List.map_nil, List.length_cons, List.length_nil, decide_true, decide_false, Bool.not_true, Bool.not_false, true_and, and_true, ne_eq, not_true_eq_false, not_false_eq_true, forall_const, List.getElem?_cons_zero, List.getElem?_cons_succ]
  -- called again
  refine SW.seq ?_; refine SW.row ?_; simp only [go_sem, Nat.reduceAdd, Nat.reduceEqDiff, Nat.reduceLeDiff, Nat.reduceMul, reduceIte, Nat.zero_ne_one, Nat.one_ne_zero, Nat.zero_add, Nat.add_zero, List.map_cons, List.map_nil, List.length_cons, List.length_nil, decide_true, decide_false, Bool.not_true, Bool.not_false, true_and, and_true, ne_eq, not_true_eq_false, not_false_eq_true, forall_const, List.getElem?_cons_zero, List.getElem?_cons_succ, List.all_nil, List.all_cons, List.length_set, List.append_assoc, List.cons_append, List.nil_append, List.length_append, List.length_set, List.set_cons_zero, List.set_cons_succ, acell1_own, acell1_own0, alive_own, alive_own0, acells_own, acells_own0, astore_own, astore_own0, aview_own, aview_own0, PcL_some, PcV_some, PcG_some, PcS_some, NmV_some, setMany_nil, setMany_cons, partsOf_agg, cell1_nm, cell1_nil, cell1_il, cell1_Bv, cell1_pc, partsOf_nm, partsOf_il, partsOf_nil, partsOf_Bv, afill_nil, afill_cons, List.drop_zero, List.drop_succ_cons, List.take_succ_cons, List.take_zero, List.take_nil, and_self, Nat.le_refl]
  refine (himpl _).mono ?_
  rintro r H4 ⟨ext2, v', hH4, rfl, own4⟩
  simp only [go_sem, Nat.reduceAdd, Nat.reduceEqDiff, Nat.reduceLeDiff, Nat.reduceMul, reduceIte, Nat.zero_ne_one, Nat.one_ne_zero, Nat.zero_add, Nat.add_zero, List.map_cons, List.map_nil, List.length_cons, List.length_nil, decide_true, decide_false, Bool.not_true, Bool.not_false, true_and, and_true, ne_eq, not_true_eq_false, not_false_eq_true, forall_const, List.getElem?_cons_zero, List.getElem?_cons_succ, List.all_nil, List.all_cons, List.length_set, List.append_assoc, List.cons_append, List.nil_append, List.length_append, List.length_set, List.set_cons_zero, List.set_cons_succ, acell1_own, acell1_own0, alive_own, alive_own0, acells_own, acells_own0, astore_own, astore_own0, aview_own, aview_own0, PcL_some, PcV_some, PcG_some, PcS_some, NmV_some, setMany_nil, setMany_cons, partsOf_agg, cell1_nm, cell1_nil, cell1_il, cell1_Bv, cell1_pc, partsOf_nm, partsOf_il, partsOf_nil, partsOf_Bv, afill_nil, afill_cons, List.drop_zero, List.drop_succ_cons, List.take_succ_cons, List.take_zero, List.take_nil, and_self, Nat.le_refl, own4.cell1]
  replace pw := get_app pw ext2
  replace pg := get_app pg ext2
  replace own3 := own3.append ext2
  rw [← hH4] at pw pg own3
  have ph : (H4 ++ [⟨0, tyCover, 1, [I items, v']⟩])[H4.length]? = some ⟨0, tyCover, 1, [I items, v']⟩ := by simp
  replace pw := get_app pw [⟨0, tyCover, 1, [I items, v']⟩]
  replace pg := get_app pg [⟨0, tyCover, 1, [I items, v']⟩]
  replace own3 := own3.append [⟨0, tyCover, 1, [I items, v']⟩]
  replace own4 := own4.append [⟨0, tyCover, 1, [I items, v']⟩]
  generalize H4.length = q at *
  generalize H4 ++ [⟨0, tyCover, 1, [I items, v']⟩] = H5 at *
  refine SW.seq ?_; refine SW.seq ?_; refine SW.row ?_; simp only [go_sem, Nat.reduceAdd, Nat.reduceEqDiff, Nat.reduceLeDiff, Nat.reduceMul, reduceIte, Nat.zero_ne_one, Nat.one_ne_zero, Nat.zero_add, Nat.add_zero, List.map_cons, List.map_nil, List.length_cons, List.length_nil, decide_true, decide_false, Bool.not_true, Bool.not_false, true_and, and_true, ne_eq, not_true_eq_false, not_false_eq_true, forall_const, List.getElem?_cons_zero, List.getElem?_cons_succ, List.all_nil, List.all_cons, List.length_set, List.append_assoc, List.cons_append, List.nil_append, List.length_append, List.length_set, List.set_cons_zero, List.set_cons_succ, acell1_own, acell1_own0, alive_own, alive_own0, acells_own, acells_own0, astore_own, astore_own0, aview_own, aview_own0, PcL_some, PcV_some, PcG_some, PcS_some, NmV_some, setMany_nil, setMany_cons, partsOf_agg, cell1_nm, cell1_nil, cell1_il, cell1_Bv, cell1_pc, partsOf_nm, partsOf_il, partsOf_nil, partsOf_Bv, afill_nil, afill_cons, List.drop_zero, List.drop_succ_cons, List.take_succ_cons, List.take_zero, List.take_nil, and_self, Nat.le_refl, pc_lds ph, pc_lds pw]
  refine ACalls.fn (eqCover_ok _ items items v' w xss xss own4.cell1.1 w1 own4.rd (w3 _)) ?_
  simp only [go_sem, Nat.reduceAdd, Nat.reduceEqDiff, Nat.reduceLeDiff, Nat.reduceMul, reduceIte, Nat.zero_ne_one, Nat.one_ne_zero, Nat.zero_add, Nat.add_zero, List.map_cons, List.map_nil, List.length_cons, List.length_nil, decide_true, decide_false, Bool.not_true, Bool.not_false, true_and, and_true, ne_eq, not_true_eq_false, not_false_eq_true, forall_const, List.getElem?_cons_zero, List.getElem?_cons_succ, Bool.and_self]
  refine SW.cond rfl (fun h => ?_) (fun h => ?_)
  · exact absurd h (by simp)
  clear h
  refine SW.skip ?_; simp only [go_sem, Nat.reduceAdd, Nat.reduceEqDiff, Nat.reduceLeDiff, Nat.reduceMul, reduceIte, Nat.zero_ne_one, Nat.one_ne_zero, Nat.zero_add, Nat.add_zero, List.map_cons, List.map_nil, List.length_cons, List.length_nil, decide_true, decide_false, Bool.not_true, Bool.not_false, true_and, and_true, ne_eq, not_true_eq_false, not_false_eq_true, forall_const, List.getElem?_cons_zero, List.getElem?_cons_succ]
  refine SW.seq ?_; refine SW.row ?_; simp only [go_sem, Nat.reduceAdd, Nat.reduceEqDiff, Nat.reduceLeDiff, Nat.reduceMul, reduceIte, Nat.zero_ne_one, Nat.one_ne_zero, Nat.zero_add, Nat.add_zero, List.map_cons, List.map_nil, List.length_cons, List.length_nil, decide_true, decide_false, Bool.not_true, Bool.not_false, true_and, and_true, ne_eq, not_true_eq_false, not_false_eq_true, forall_const, List.getElem?_cons_zero, List.getElem?_cons_succ]
  refine SW.seq ?_; refine SW.row ?_; simp only [go_sem, Nat.reduceAdd, Nat.reduceEqDiff, Nat.reduceLeDiff, Nat.reduceMul, reduceIte, Nat.zero_ne_one, Nat.one_ne_zero, Nat.zero_add, Nat.add_zero, List.map_cons, List.map_nil, List.length_cons, List.length_nil, decide_true, decide_false, Bool.not_true, Bool.not_false, true_and, and_true, ne_eq, not_true_eq_false, not_false_eq_true, forall_const, List.getElem?_cons_zero, List.getElem?_cons_succ, List.all_nil, List.all_cons, List.length_set, List.append_assoc, List.cons_append, List.nil_append, List.length_append, List.length_set, List.set_cons_zero, List.set_cons_succ, acell1_own, acell1_own0, alive_own, alive_own0, acells_own, acells_own0, astore_own, astore_own0, aview_own, aview_own0, PcL_some, PcV_some, PcG_some, PcS_some, NmV_some, setMany_nil, setMany_cons, partsOf_agg, cell1_nm, cell1_nil, cell1_il, cell1_Bv, cell1_pc, partsOf_nm, partsOf_il, partsOf_nil, partsOf_Bv, afill_nil, afill_cons, List.drop_zero, List.drop_succ_cons, List.take_succ_cons, List.take_zero, List.take_nil, and_self, Nat.le_refl, pc_lds pg]
  refine ACalls.fn (heldCover_ok _ items 1 v xss own3.cell1.1 own3.rd (by omega) (by omega)) ?_
  simp only [go_sem, Nat.reduceAdd, Nat.reduceEqDiff, Nat.reduceLeDiff, Nat.reduceMul, reduceIte, Nat.zero_ne_one, Nat.one_ne_zero, Nat.zero_add, Nat.add_zero, List.map_cons, List.map_nil, List.length_cons, List.length_nil, decide_true, decide_false, Bool.not_true, Bool.not_false, true_and, and_true, ne_eq, not_true_eq_false, not_false_eq_true, forall_const, List.getElem?_cons_zero, List.getElem?_cons_succ]
  refine SW.seq ?_; refine SW.seq ?_; refine SW.row ?_; simp only [go_sem, Nat.reduceAdd, Nat.reduceEqDiff, Nat.reduceLeDiff, Nat.reduceMul, reduceIte, Nat.zero_ne_one, Nat.one_ne_zero, Nat.zero_add, Nat.add_zero, List.map_cons, List.map_nil, List.length_cons, List.length_nil, decide_true, decide_false, Bool.not_true, Bool.not_false, true_and, and_true, ne_eq, not_true_eq_false, not_false_eq_true, forall_const, List.getElem?_cons_zero, List.getElem?_cons_succ]; (first | refine SW.cond rfl (fun h => ?_) (fun h => ?_) | (intro _; refine SW.cond rfl (fun h => ?_) (fun h => ?_)) | (intro _ _; refine SW.cond rfl (fun h => ?_) (fun h => ?_)))
  · exfalso
    have := of_decide_eq_true h
    omega
  clear h
  refine SW.skip ?_; simp only [go_sem, Nat.reduceAdd, Nat.reduceEqDiff, Nat.reduceLeDiff, Nat.reduceMul, reduceIte, Nat.zero_ne_one, Nat.one_ne_zero, Nat.zero_add, Nat.add_zero, List.map_cons, List.map_nil, List.length_cons, List.length_nil, decide_true, decide_false, Bool.not_true, Bool.not_false, true_and, and_true, ne_eq, not_true_eq_false, not_false_eq_true, forall_const, List.getElem?_cons_zero, List.getElem?_cons_succ]
  refine SW.seq ?_; refine SW.seq ?_; refine SW.row ?_; simp only [go_sem, Nat.reduceAdd, Nat.reduceEqDiff, Nat.reduceLeDiff, Nat.reduceMul, reduceIte, Nat.zero_ne_one, Nat.one_ne_zero, Nat.zero_add, Nat.add_zero, List.map_cons, List.map_nil, List.length_cons, List.length_nil, decide_true, decide_false, Bool.not_true, Bool.not_false, true_and, and_true, ne_eq, not_true_eq_false, not_false_eq_true, forall_const, List.getElem?_cons_zero, List.getElem?_cons_succ]; (first | refine SW.cond rfl (fun h => ?_) (fun h => ?_) | (intro _; refine SW.cond rfl (fun h => ?_) (fun h => ?_)) | (intro _ _; refine SW.cond rfl (fun h => ?_) (fun h => ?_)))
  · exact absurd h (by simp)
  clear h
  refine SW.skip ?_; simp only [go_sem, Nat.reduceAdd, Nat.reduceEqDiff, Nat.reduceLeDiff, Nat.reduceMul, reduceIte, Nat.zero_ne_one, Nat.one_ne_zero, Nat.zero_add, Nat.add_zero, List.map_cons, List.map_nil, List.length_cons, List.length_nil, decide_true, decide_false, Bool.not_true, Bool.not_false, true_and, and_true, ne_eq, not_true_eq_false, not_false_eq_true, forall_const, List.getElem?_cons_zero, List.getElem?_cons_succ]
  refine SW.seq ?_; refine SW.row ?_; simp only [go_sem, Nat.reduceAdd, Nat.reduceEqDiff, Nat.reduceLeDiff, Nat.reduceMul, reduceIte, Nat.zero_ne_one, Nat.one_ne_zero, Nat.zero_add, Nat.add_zero, List.map_cons, List.map_nil, List.length_cons, List.length_nil, decide_true, decide_false, Bool.not_true, Bool.not_false, true_and, and_true, ne_eq, not_true_eq_false, not_false_eq_true, forall_const, List.getElem?_cons_zero, List.getElem?_cons_succ]
  refine SW.ret ?_; (try simp only [go_sem]); refine FunPost.one (GR.of ?_); (try simp only [go_sem, Nat.reduceAdd, Nat.reduceEqDiff, Nat.reduceLeDiff, Nat.reduceMul, reduceIte, Nat.zero_ne_one, Nat.one_ne_zero, Nat.zero_add, Nat.add_zero, List.map_cons, List.map_nil, List.length_cons, List.length_nil, decide_true, decide_false, Bool.not_true, Bool.not_false, true_and, and_true, ne_eq, not_true_eq_false, not_false_eq_true, forall_const, List.getElem?_cons_zero, List.getElem?_cons_succ])
end Go.Proofs.Ytmgbglekgigkmaa
