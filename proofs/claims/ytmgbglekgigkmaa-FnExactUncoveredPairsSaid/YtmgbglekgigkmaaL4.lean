/- SquareCover: what both sides return. -/
import Derived.Test.YtmgbglekgigkmaaProg
import Derived.KernelRfl
import Derived.Test.YtmgbglekgigkmaaL3
set_option linter.unusedSimpArgs false
set_option linter.unusedVariables false
set_option maxHeartbeats 4000000
namespace Go.Proofs.Ytmgbglekgigkmaa
open Go.Av

/-! The abstract code of functions, printed by program and tied to the program by the kernel. -/
/-- loop.example/g00920/impl.SquareCover -/
abbrev f_impl_SquareCover : Nat := 16
def c_impl_SquareCover : SC :=
 .seq (.reg [
     ⟨(some 2), .alloc 24 [(.int .i64 0), (.slice none 0 0)], none⟩,
     ⟨(some 3), .mv (.const (.int .i64 0)), none⟩] [0, 2])
 (.seq (.seq (.reg [
     ⟨(some 7), .mv (.tmp 0), none⟩,
     ⟨(some 8), .call 59 [(.tmp 7), (.const (.int .i64 1)), (.const (.int .i64 4))], none⟩,
     ⟨(some 9), .un .not (.tmp 8), none⟩] [0, 2, 9])
 (.cond (.tmp 9)
  (.seq (.reg [
      ⟨(some 10), .build [(.int .i64 0), (.slice none 0 0)] [], none⟩,
      ⟨none, .store 2 (.tmp 2) (.tmp 10), none⟩,
      ⟨(some 3), .mv (.const (.int .i64 2)), none⟩] [2, 3])
  (.ret))
  (.skip)))
 (.seq (.reg [
     ⟨(some 11), .mv (.tmp 0), none⟩,
     ⟨(some 12), .bin .mul (.const (.int .i64 3)) (.tmp 11), none⟩,
     ⟨(some 13), .mv (.tmp 0), none⟩,
     ⟨(some 14), .bin .mul (.tmp 12) (.tmp 13), none⟩,
     ⟨(some 15), .build [(.int .i64 0), (.slice none 0 0)] [(0, 1, (.tmp 14))], none⟩,
     ⟨(some 4), .alloc 24 [(.int .i64 0), (.slice none 0 0)], none⟩,
     ⟨none, .store 2 (.tmp 4) (.tmp 15), none⟩] [0, 2, 4])
 (.seq (.seq (.reg [
     ⟨(some 16), .mv (.tmp 0), none⟩,
     ⟨(some 17), .mv (.tmp 0), none⟩,
     ⟨(some 18), .bin .mul (.tmp 16) (.tmp 17), none⟩,
     ⟨(some 19), .mv (.const (.int .i64 0)), none⟩] [0, 2, 4, 18, 19])
 (.block 0 (.loop [0, 2, 4, 18, 19]
   (.seq (.reg [
       ⟨(some 20), .bin .lss (.tmp 19) (.tmp 18), none⟩] [0, 2, 4, 18, 19, 20])
   (.seq (.cond (.tmp 20)
    (.skip)
    (.exit 0))
   (.seq (.block 1 (.seq (.reg [
        ⟨(some 21), .mv (.tmp 19), none⟩,
        ⟨(some 5), .mv (.tmp 21), none⟩] [0, 2, 4, 5, 18, 19])
    (.seq (.reg [
        ⟨(some 22), .mv (.tmp 0), none⟩,
        ⟨(some 23), .mv (.const (.int .i64 0)), none⟩] [0, 2, 4, 5, 18, 19, 22, 23])
    (.block 2 (.loop [0, 2, 4, 5, 18, 19, 22, 23]
      (.seq (.reg [
          ⟨(some 24), .bin .lss (.tmp 23) (.tmp 22), none⟩] [0, 2, 4, 5, 18, 19, 22, 23, 24])
      (.seq (.cond (.tmp 24)
       (.skip)
       (.exit 2))
      (.seq (.block 3 (.seq (.reg [
           ⟨(some 25), .mv (.tmp 23), none⟩,
           ⟨(some 6), .mv (.tmp 25), none⟩] [0, 2, 4, 5, 6, 18, 19, 22, 23])
       (.reg [
           ⟨(some 26), .faddr 1 (.tmp 4), none⟩,
           ⟨(some 27), .load 1 false (.tmp 26), none⟩,
           ⟨(some 28), .mv (.tmp 5), none⟩,
           ⟨(some 29), .mv (.tmp 0), none⟩,
           ⟨(some 30), .mv (.tmp 0), none⟩,
           ⟨(some 31), .bin .mul (.tmp 29) (.tmp 30), none⟩,
           ⟨(some 32), .mv (.tmp 5), none⟩,
           ⟨(some 33), .mv (.tmp 0), none⟩,
           ⟨(some 34), .bin .quo (.tmp 32) (.tmp 33), none⟩,
           ⟨(some 35), .mv (.tmp 0), none⟩,
           ⟨(some 36), .bin .mul (.tmp 34) (.tmp 35), none⟩,
           ⟨(some 37), .bin .add (.tmp 31) (.tmp 36), none⟩,
           ⟨(some 38), .mv (.tmp 6), none⟩,
           ⟨(some 39), .bin .add (.tmp 37) (.tmp 38), none⟩,
           ⟨(some 40), .mv (.tmp 0), none⟩,
           ⟨(some 41), .bin .mul (.const (.int .i64 2)) (.tmp 40), none⟩,
           ⟨(some 42), .mv (.tmp 0), none⟩,
           ⟨(some 43), .bin .mul (.tmp 41) (.tmp 42), none⟩,
           ⟨(some 44), .mv (.tmp 5), none⟩,
           ⟨(some 45), .mv (.tmp 0), none⟩,
           ⟨(some 46), .bin .rem (.tmp 44) (.tmp 45), none⟩,
           ⟨(some 47), .mv (.tmp 0), none⟩,
           ⟨(some 48), .bin .mul (.tmp 46) (.tmp 47), none⟩,
           ⟨(some 49), .bin .add (.tmp 43) (.tmp 48), none⟩,
           ⟨(some 50), .mv (.tmp 6), none⟩,
           ⟨(some 51), .bin .add (.tmp 49) (.tmp 50), none⟩,
           ⟨(some 52), .bslice 2 1 3 [(.int .i64 0), (.int .i64 0), (.int .i64 0)] [(0, (.tmp 28)), (1, (.tmp 39)), (2, (.tmp 51))], none⟩,
           ⟨(some 53), .bslice 42 1 1 [(.slice none 0 0)] [(0, (.tmp 52))], none⟩,
           ⟨(some 54), .app 42 1 24 (.tmp 27) (.tmp 53), none⟩,
           ⟨(some 55), .faddr 1 (.tmp 4), none⟩,
           ⟨none, .store 1 (.tmp 55) (.tmp 54), none⟩] [0, 2, 4, 5, 18, 19, 22, 23])))
      (.reg [
          ⟨(some 56), .bin .add (.tmp 23) (.const (.int .i64 1)), none⟩,
          ⟨(some 23), .mv (.tmp 56), none⟩] [0, 2, 4, 5, 18, 19, 22, 23])))))))))
   (.reg [
       ⟨(some 57), .bin .add (.tmp 19) (.const (.int .i64 1)), none⟩,
       ⟨(some 19), .mv (.tmp 57), none⟩] [0, 2, 4, 18, 19])))))))
 (.seq (.reg [
     ⟨(some 58), .load 2 true (.tmp 4), none⟩,
     ⟨none, .store 2 (.tmp 2) (.tmp 58), none⟩,
     ⟨(some 3), .mv (.const (.int .i64 0)), none⟩] [2, 3])
 (.ret)))))
theorem s_impl_SquareCover : stripF Try.prog 16 [[0, 2], [0, 2, 9], [2, 3], [0, 2, 4], [0, 2, 4, 18, 19], [0, 2, 4, 18, 19], [0, 2, 4, 18, 19, 20], [0, 2, 4, 5, 18, 19], [0, 2, 4, 5, 18, 19, 22, 23], [0, 2, 4, 5, 18, 19, 22, 23], [0, 2, 4, 5, 18, 19, 22, 23, 24], [0, 2, 4, 5, 6, 18, 19, 22, 23], [0, 2, 4, 5, 18, 19, 22, 23], [0, 2, 4, 5, 18, 19, 22, 23], [0, 2, 4, 18, 19], [2, 3]] = some (c_impl_SquareCover, [.cell 2 2, .tmp 3], 59) := by kernel_rfl


abbrev tyCover : Nat := 24
abbrev tySS : Nat := 42
/-- A row of impl. -/
def sqI1 (n c s : Int) : List Int := [c, w64 (w64 (w64 (n * n) + w64 (w64 (c.tdiv n) * n)) + s), w64 (w64 (w64 (w64 (2 * n) * n) + w64 (c.tmod n * n)) + s)]
def sqIc (n : Nat) (c : Nat) : List (List Int) := (List.range n).map fun (s : Nat) => sqI1 n c s
def sqI (n c : Nat) : List (List Int) := (List.range c).flatMap (sqIc n)
/-- The box holds a list that grows; the rest of the memory. -/
def Bx (Hb : List Blk) (p : Nat) (hd : AV) (xss : List (List Int)) (H' : List Blk) : Prop :=
  ∃ v, H'[p]? = some ⟨0, tyCover, 1, [hd, v]⟩ ∧ GrowSS H' (p + 1) tySS v xss ∧ p + 1 ≤ H'.length ∧ ∀ j, j < p → H'[j]? = Hb[j]?

theorem sqI_len (n c : Nat) : (sqI n c).length = c * n := by
  unfold sqI
  induction c with
  | zero => simp
  | succ c ih => rw [List.range_succ, List.flatMap_append, List.length_append, ih]; simp [sqIc, Nat.succ_mul]
theorem sqI_succ (n c : Nat) : sqI n (c + 1) = sqI n c ++ sqIc n c := by
  unfold sqI; rw [List.range_succ, List.flatMap_append]; simp
theorem row_succ (f : Nat → List Int) (s : Nat) : (List.range (s + 1)).map f = (List.range s).map f ++ [f s] := by
  rw [List.range_succ, List.map_append]; rfl

theorem sq64 {n : Nat} (h : 1 ≤ n ∧ n ≤ 4) : w64 ((n : Int) * n) = ((n * n : Nat) : Int) := by
  rw [← Int.natCast_mul]
  apply w64_id (by omega)
  have : n * n ≤ 4 * 4 := Nat.mul_le_mul h.2 h.2
  omega

theorem prefix_of {H H' : List Blk} (hl : H.length ≤ H'.length) (h : ∀ j, j < H.length → H'[j]? = H[j]?) : ∃ ext, H' = H ++ ext := by
  refine ⟨H'.drop H.length, ?_⟩
  have : H'.take H.length = H := by
    apply List.ext_getElem?
    intro j
    by_cases hj : j < H.length
    · rw [List.getElem?_take_of_lt hj, h j hj]
    · rw [List.getElem?_eq_none (by simp; omega), List.getElem?_eq_none (by omega)]
  rw [← this, List.length_take, Nat.min_eq_left (by omega), List.take_append_drop]

theorem Bx.put {Hb H3 : List Blk} {p : Nat} {hd v2 v3 : AV} {xss : List (List Int)} (d1 : GrowSS H3 (p + 1) tySS v3 xss) (d2 : p + 1 ≤ H3.length) (d3 : ∀ j, j < p → H3[j]? = Hb[j]?) : Bx Hb p hd xss (H3.set p ⟨0, tyCover, 1, setMany [hd, v2] 1 [v3]⟩) := by
  refine ⟨v3, List.getElem?_set_self (by omega), d1.same (fun j b h1 h2 => ?_), by simpa using d2, fun j hj => ?_⟩
  · rw [List.getElem?_set_ne (by omega)]; exact h2
  · rw [List.getElem?_set_ne (by omega)]; exact d3 j hj

theorem implSq_out (H : List Blk) (n : Int) (h : ¬ (1 ≤ n ∧ n ≤ 4)) : ACalls Try.prog f_impl_SquareCover [I n] H (fun r H' => r = .tup [.agg [I 0, nilS], I 2] ∧ H' = H) := by
  refine ACalls.intro s_impl_SquareCover (by simp) ?_
  refine SW.seq ?_; refine SW.row ?_; simp only [go_sem, Nat.reduceAdd, Nat.reduceEqDiff, Nat.reduceLeDiff, Nat.reduceMul, reduceIte, Nat.zero_ne_one, Nat.one_ne_zero, Nat.zero_add, Nat.add_zero, List.map_cons, List.map_nil, List.length_cons, List.length_nil, decide_true, decide_false, Bool.not_true, Bool.not_false, true_and, and_true, ne_eq, not_true_eq_false, not_false_eq_true, forall_const, List.getElem?_cons_zero, List.getElem?_cons_succ]
  refine SW.seq ?_; refine SW.seq ?_; refine SW.row ?_; simp only [go_sem, Nat.reduceAdd, Nat.reduceEqDiff, Nat.reduceLeDiff, Nat.reduceMul, reduceIte, Nat.zero_ne_one, Nat.one_ne_zero, Nat.zero_add, Nat.add_zero, List.map_cons, List.map_nil, List.length_cons, List.length_nil, decide_true, decide_false, Bool.not_true, Bool.not_false, true_and, and_true, ne_eq, not_true_eq_false, not_false_eq_true, forall_const, List.getElem?_cons_zero, List.getElem?_cons_succ]
  refine ACalls.fn (within_ok _ _ _ _) ?_
  simp only [go_sem, Nat.reduceAdd, Nat.reduceEqDiff, Nat.reduceLeDiff, Nat.reduceMul, reduceIte, Nat.zero_ne_one, Nat.one_ne_zero, Nat.zero_add, Nat.add_zero, List.map_cons, List.map_nil, List.length_cons, List.length_nil, decide_true, decide_false, Bool.not_true, Bool.not_false, true_and, and_true, ne_eq, not_true_eq_false, not_false_eq_true, forall_const, List.getElem?_cons_zero, List.getElem?_cons_succ]
  refine SW.cond rfl (fun h => ?_) (fun h => ?_)
  · refine SW.seq ?_; refine SW.row ?_; simp only [go_sem, Nat.reduceAdd, Nat.reduceEqDiff, Nat.reduceLeDiff, Nat.reduceMul, reduceIte, Nat.zero_ne_one, Nat.one_ne_zero, Nat.zero_add, Nat.add_zero, List.map_cons, List.map_nil, List.length_cons, List.length_nil, decide_true, decide_false, Bool.not_true, Bool.not_false, true_and, and_true, ne_eq, not_true_eq_false, not_false_eq_true, forall_const, List.getElem?_cons_zero, List.getElem?_cons_succ, List.all_nil, List.all_cons, List.length_set, List.append_assoc, List.cons_append, List.nil_append, List.length_append, List.length_set, List.set_cons_zero, List.set_cons_succ, acell1_own, acell1_own0, alive_own, alive_own0, acells_own, acells_own0, astore_own, astore_own0, aview_own, aview_own0, PcL_some, PcV_some, PcG_some, PcS_some, NmV_some, setMany_nil, setMany_cons, partsOf_agg, cell1_nm, cell1_nil, cell1_il, cell1_Bv, cell1_pc, partsOf_nm, partsOf_il, partsOf_nil, partsOf_Bv, afill_nil, afill_cons, List.drop_zero, List.drop_succ_cons, List.take_succ_cons, List.take_zero, List.take_nil, and_self, Nat.le_refl]
    refine SW.ret ?_
    refine FunPost.cell_tmp (cs := [I 0, nilS]) (by simp only [go_sem, Nat.reduceAdd, Nat.reduceEqDiff, Nat.reduceLeDiff, Nat.reduceMul, reduceIte, Nat.zero_ne_one, Nat.one_ne_zero, Nat.zero_add, Nat.add_zero, List.map_cons, List.map_nil, List.length_cons, List.length_nil, decide_true, decide_false, Bool.not_true, Bool.not_false, true_and, and_true, ne_eq, not_true_eq_false, not_false_eq_true, forall_const, List.getElem?_cons_zero, List.getElem?_cons_succ, List.all_nil, List.all_cons, List.length_set, List.append_assoc, List.cons_append, List.nil_append, List.length_append, List.length_set, List.set_cons_zero, List.set_cons_succ, acell1_own, acell1_own0, alive_own, alive_own0, acells_own, acells_own0, astore_own, astore_own0, aview_own, aview_own0, PcL_some, PcV_some, PcG_some, PcS_some, NmV_some, setMany_nil, setMany_cons, partsOf_agg, cell1_nm, cell1_nil, cell1_il, cell1_Bv, cell1_pc, partsOf_nm, partsOf_il, partsOf_nil, partsOf_Bv, afill_nil, afill_cons, List.drop_zero, List.drop_succ_cons, List.take_succ_cons, List.take_zero, List.take_nil, and_self, Nat.le_refl]) (GR.drop (ext := [_]) ?_ ?_)
    · exact .tup _ (by simp [aget]; exact ⟨.agg _ (by simp; exact ⟨.lit _, .lit _⟩), .lit _⟩)
    · simp [aget]
  · exfalso; simp at h; omega

theorem implSq_in (H : List Blk) (n : Nat) (h0 : 1 ≤ n ∧ n ≤ 4) : ACalls Try.prog f_impl_SquareCover [I n] H (fun r H' => ∃ ext v, H' = H ++ ext ∧ r = .tup [.agg [I (w64 (w64 (3 * n) * n)), v], I 0] ∧ OwnSS H' (Btw H.length H'.length) v (sqI n (n * n))) := by
  refine ACalls.intro s_impl_SquareCover (by simp) ?_
  refine SW.seq ?_; refine SW.row ?_; simp only [go_sem, Nat.reduceAdd, Nat.reduceEqDiff, Nat.reduceLeDiff, Nat.reduceMul, reduceIte, Nat.zero_ne_one, Nat.one_ne_zero, Nat.zero_add, Nat.add_zero, List.map_cons, List.map_nil, List.length_cons, List.length_nil, decide_true, decide_false, Bool.not_true, Bool.not_false, true_and, and_true, ne_eq, not_true_eq_false, not_false_eq_true, forall_const, List.getElem?_cons_zero, List.getElem?_cons_succ]
  refine SW.seq ?_; refine SW.seq ?_; refine SW.row ?_; simp only [go_sem, Nat.reduceAdd, Nat.reduceEqDiff, Nat.reduceLeDiff, Nat.reduceMul, reduceIte, Nat.zero_ne_one, Nat.one_ne_zero, Nat.zero_add, Nat.add_zero, List.map_cons, List.map_nil, List.length_cons, List.length_nil, decide_true, decide_false, Bool.not_true, Bool.not_false, true_and, and_true, ne_eq, not_true_eq_false, not_false_eq_true, forall_const, List.getElem?_cons_zero, List.getElem?_cons_succ]
  refine ACalls.fn (within_ok _ _ _ _) ?_
  simp only [go_sem, Nat.reduceAdd, Nat.reduceEqDiff, Nat.reduceLeDiff, Nat.reduceMul, reduceIte, Nat.zero_ne_one, Nat.one_ne_zero, Nat.zero_add, Nat.add_zero, List.map_cons, List.map_nil, List.length_cons, List.length_nil, decide_true, decide_false, Bool.not_true, Bool.not_false, true_and, and_true, ne_eq, not_true_eq_false, not_false_eq_true, forall_const, List.getElem?_cons_zero, List.getElem?_cons_succ]
  refine SW.cond rfl (fun h => ?_) (fun h => ?_)
  · exfalso; simp at h; omega
  refine SW.skip ?_; simp only [go_sem, Nat.reduceAdd, Nat.reduceEqDiff, Nat.reduceLeDiff, Nat.reduceMul, reduceIte, Nat.zero_ne_one, Nat.one_ne_zero, Nat.zero_add, Nat.add_zero, List.map_cons, List.map_nil, List.length_cons, List.length_nil, decide_true, decide_false, Bool.not_true, Bool.not_false, true_and, and_true, ne_eq, not_true_eq_false, not_false_eq_true, forall_const, List.getElem?_cons_zero, List.getElem?_cons_succ]
  refine SW.seq ?_; refine SW.row ?_; simp only [go_sem, Nat.reduceAdd, Nat.reduceEqDiff, Nat.reduceLeDiff, Nat.reduceMul, reduceIte, Nat.zero_ne_one, Nat.one_ne_zero, Nat.zero_add, Nat.add_zero, List.map_cons, List.map_nil, List.length_cons, List.length_nil, decide_true, decide_false, Bool.not_true, Bool.not_false, true_and, and_true, ne_eq, not_true_eq_false, not_false_eq_true, forall_const, List.getElem?_cons_zero, List.getElem?_cons_succ, List.all_nil, List.all_cons, List.length_set, List.append_assoc, List.cons_append, List.nil_append, List.length_append, List.length_set, List.set_cons_zero, List.set_cons_succ, acell1_own, acell1_own0, alive_own, alive_own0, acells_own, acells_own0, astore_own, astore_own0, aview_own, aview_own0, PcL_some, PcV_some, PcG_some, PcS_some, NmV_some, setMany_nil, setMany_cons, partsOf_agg, cell1_nm, cell1_nil, cell1_il, cell1_Bv, cell1_pc, partsOf_nm, partsOf_il, partsOf_nil, partsOf_Bv, afill_nil, afill_cons, List.drop_zero, List.drop_succ_cons, List.take_succ_cons, List.take_zero, List.take_nil, and_self, Nat.le_refl]
  refine SW.seq ?_; refine SW.seq ?_; refine SW.row ?_; simp only [go_sem, Nat.reduceAdd, Nat.reduceEqDiff, Nat.reduceLeDiff, Nat.reduceMul, reduceIte, Nat.zero_ne_one, Nat.one_ne_zero, Nat.zero_add, Nat.add_zero, List.map_cons, List.map_nil, List.length_cons, List.length_nil, decide_true, decide_false, Bool.not_true, Bool.not_false, true_and, and_true, ne_eq, not_true_eq_false, not_false_eq_true, forall_const, List.getElem?_cons_zero, List.getElem?_cons_succ]
  have h16 : n * n ≤ 4 * 4 := Nat.mul_le_mul h0.2 h0.2
  generalize hit : w64 (w64 (3 * (n : Int)) * n) = items
  rw [sq64 h0]
  refine SW.block ?_
  refine SW.loop (fun q E H' => ∃ c : Nat, c ≤ n * n ∧ q = n * n - c ∧ E = [(0, I n), (2, .pc H.length 0 0), (4, .pc (H.length + 1) 0 0), (18, I ((n * n : Nat) : Int)), (19, I c)] ∧
    Bx (H ++ [⟨0, tyCover, 1, [I 0, nilS]⟩]) (H.length + 1) (I items) (sqI n c) H') (n * n) ⟨0, by omega, by omega, rfl, nilS, by simp [hit], .inl ⟨rfl, rfl⟩, by simp, fun j hj => ?_⟩ ?_
  · rw [show H ++ [⟨0, 24, 1, [I 0, nilS]⟩, ⟨0, 24, 1, [I items, nilS]⟩] = (H ++ [⟨0, 24, 1, [I 0, nilS]⟩]) ++ [(⟨0, 24, 1, [I items, nilS]⟩ : Blk)] by simp]
    rw [List.getElem?_append_left (by simp; omega)]
  rintro q E H1 ⟨c, hc, rfl, rfl, v, b1, b2, b3, b4⟩
  refine SW.seq ?_; refine SW.row ?_; simp only [go_sem, Nat.reduceAdd, Nat.reduceEqDiff, Nat.reduceLeDiff, Nat.reduceMul, reduceIte, Nat.zero_ne_one, Nat.one_ne_zero, Nat.zero_add, Nat.add_zero, List.map_cons, List.map_nil, List.length_cons, List.length_nil, decide_true, decide_false, Bool.not_true, Bool.not_false, true_and, and_true, ne_eq, not_true_eq_false, not_false_eq_true, forall_const, List.getElem?_cons_zero, List.getElem?_cons_succ]; refine SW.seq ?_; refine SW.cond rfl (fun h => ?_) (fun h => ?_)
  · have hx : c < n * n := by have := of_decide_eq_true h; omega
    refine SW.skip ?_; simp only [go_sem, Nat.reduceAdd, Nat.reduceEqDiff, Nat.reduceLeDiff, Nat.reduceMul, reduceIte, Nat.zero_ne_one, Nat.one_ne_zero, Nat.zero_add, Nat.add_zero, List.map_cons, List.map_nil, List.length_cons, List.length_nil, decide_true, decide_false, Bool.not_true, Bool.not_false, true_and, and_true, ne_eq, not_true_eq_false, not_false_eq_true, forall_const, List.getElem?_cons_zero, List.getElem?_cons_succ]
    refine SW.seq ?_; refine SW.block ?_; refine SW.seq ?_; refine SW.row ?_; simp only [go_sem, Nat.reduceAdd, Nat.reduceEqDiff, Nat.reduceLeDiff, Nat.reduceMul, reduceIte, Nat.zero_ne_one, Nat.one_ne_zero, Nat.zero_add, Nat.add_zero, List.map_cons, List.map_nil, List.length_cons, List.length_nil, decide_true, decide_false, Bool.not_true, Bool.not_false, true_and, and_true, ne_eq, not_true_eq_false, not_false_eq_true, forall_const, List.getElem?_cons_zero, List.getElem?_cons_succ]
    refine SW.seq ?_; refine SW.row ?_; simp only [go_sem, Nat.reduceAdd, Nat.reduceEqDiff, Nat.reduceLeDiff, Nat.reduceMul, reduceIte, Nat.zero_ne_one, Nat.one_ne_zero, Nat.zero_add, Nat.add_zero, List.map_cons, List.map_nil, List.length_cons, List.length_nil, decide_true, decide_false, Bool.not_true, Bool.not_false, true_and, and_true, ne_eq, not_true_eq_false, not_false_eq_true, forall_const, List.getElem?_cons_zero, List.getElem?_cons_succ]
    refine SW.block ?_
    refine SW.loop (fun q E H' => ∃ s : Nat, s ≤ n ∧ q = n - s ∧ E = [(0, I n), (2, .pc H.length 0 0), (4, .pc (H.length + 1) 0 0), (5, I c), (18, I ((n * n : Nat) : Int)), (19, I c), (22, I n), (23, I s)] ∧
      Bx (H ++ [⟨0, tyCover, 1, [I 0, nilS]⟩]) (H.length + 1) (I items) (sqI n c ++ (List.range s).map fun (s : Nat) => sqI1 n c s) H') n ⟨0, by omega, by omega, rfl, v, b1, by simpa using b2, b3, b4⟩ ?_
    rintro q E H2 ⟨s, hs, rfl, rfl, v2, c1, c2, c3, c4⟩
    refine SW.seq ?_; refine SW.row ?_; simp only [go_sem, Nat.reduceAdd, Nat.reduceEqDiff, Nat.reduceLeDiff, Nat.reduceMul, reduceIte, Nat.zero_ne_one, Nat.one_ne_zero, Nat.zero_add, Nat.add_zero, List.map_cons, List.map_nil, List.length_cons, List.length_nil, decide_true, decide_false, Bool.not_true, Bool.not_false, true_and, and_true, ne_eq, not_true_eq_false, not_false_eq_true, forall_const, List.getElem?_cons_zero, List.getElem?_cons_succ]; refine SW.seq ?_; refine SW.cond rfl (fun h => ?_) (fun h => ?_)
    · have hy : s < n := by have := of_decide_eq_true h; omega
      have hn0 : (n : Int) ≠ 0 := by omega
      refine SW.skip ?_; simp only [go_sem, Nat.reduceAdd, Nat.reduceEqDiff, Nat.reduceLeDiff, Nat.reduceMul, reduceIte, Nat.zero_ne_one, Nat.one_ne_zero, Nat.zero_add, Nat.add_zero, List.map_cons, List.map_nil, List.length_cons, List.length_nil, decide_true, decide_false, Bool.not_true, Bool.not_false, true_and, and_true, ne_eq, not_true_eq_false, not_false_eq_true, forall_const, List.getElem?_cons_zero, List.getElem?_cons_succ]
      refine SW.seq ?_; refine SW.block ?_; refine SW.seq ?_; refine SW.row ?_; simp only [go_sem, Nat.reduceAdd, Nat.reduceEqDiff, Nat.reduceLeDiff, Nat.reduceMul, reduceIte, Nat.zero_ne_one, Nat.one_ne_zero, Nat.zero_add, Nat.add_zero, List.map_cons, List.map_nil, List.length_cons, List.length_nil, decide_true, decide_false, Bool.not_true, Bool.not_false, true_and, and_true, ne_eq, not_true_eq_false, not_false_eq_true, forall_const, List.getElem?_cons_zero, List.getElem?_cons_succ]
      refine SW.row ?_; simp only [go_sem, Nat.reduceAdd, Nat.reduceEqDiff, Nat.reduceLeDiff, Nat.reduceMul, reduceIte, Nat.zero_ne_one, Nat.one_ne_zero, Nat.zero_add, Nat.add_zero, List.map_cons, List.map_nil, List.length_cons, List.length_nil, decide_true, decide_false, Bool.not_true, Bool.not_false, true_and, and_true, ne_eq, not_true_eq_false, not_false_eq_true, forall_const, List.getElem?_cons_zero, List.getElem?_cons_succ, List.all_nil, List.all_cons, List.length_set, List.append_assoc, List.cons_append, List.nil_append, List.length_append, List.length_set, List.set_cons_zero, List.set_cons_succ, acell1_own, acell1_own0, alive_own, alive_own0, acells_own, acells_own0, astore_own, astore_own0, aview_own, aview_own0, PcL_some, PcV_some, PcG_some, PcS_some, NmV_some, setMany_nil, setMany_cons, partsOf_agg, cell1_nm, cell1_nil, cell1_il, cell1_Bv, cell1_pc, partsOf_nm, partsOf_il, partsOf_nil, partsOf_Bv, afill_nil, afill_cons, List.drop_zero, List.drop_succ_cons, List.take_succ_cons, List.take_zero, List.take_nil, and_self, Nat.le_refl, pc_alive c1, pc_ld c1, hn0]
      refine GrowSS.app (xs := sqI1 n c s) c2 c3 ?_ ?_
      · have : c * n ≤ 16 * 4 := Nat.mul_le_mul (by omega) h0.2
        rw [List.length_append, sqI_len, List.length_map, List.length_range]; omega
      intro v3 H3 d1 d2 d3
      have e1 : H3[H.length + 1]? = some ⟨0, tyCover, 1, [I items, v2]⟩ := by rw [d3 _ (by omega)]; exact c1
      simp only [go_sem, Nat.reduceAdd, Nat.reduceEqDiff, Nat.reduceLeDiff, Nat.reduceMul, reduceIte, Nat.zero_ne_one, Nat.one_ne_zero, Nat.zero_add, Nat.add_zero, List.map_cons, List.map_nil, List.length_cons, List.length_nil, decide_true, decide_false, Bool.not_true, Bool.not_false, true_and, and_true, ne_eq, not_true_eq_false, not_false_eq_true, forall_const, List.getElem?_cons_zero, List.getElem?_cons_succ, List.all_nil, List.all_cons, List.length_set, List.append_assoc, List.cons_append, List.nil_append, List.length_append, List.length_set, List.set_cons_zero, List.set_cons_succ, acell1_own, acell1_own0, alive_own, alive_own0, acells_own, acells_own0, astore_own, astore_own0, aview_own, aview_own0, PcL_some, PcV_some, PcG_some, PcS_some, NmV_some, setMany_nil, setMany_cons, partsOf_agg, cell1_nm, cell1_nil, cell1_il, cell1_Bv, cell1_pc, partsOf_nm, partsOf_il, partsOf_nil, partsOf_Bv, afill_nil, afill_cons, List.drop_zero, List.drop_succ_cons, List.take_succ_cons, List.take_zero, List.take_nil, and_self, Nat.le_refl, pc_alive e1, pc_ld e1, d1.parts, d1.cell1]
      rw [pc_st e1 (by simp)]
      simp only [go_sem, Nat.reduceAdd, Nat.reduceEqDiff, Nat.reduceLeDiff, Nat.reduceMul, reduceIte, Nat.zero_ne_one, Nat.one_ne_zero, Nat.zero_add, Nat.add_zero, List.map_cons, List.map_nil, List.length_cons, List.length_nil, decide_true, decide_false, Bool.not_true, Bool.not_false, true_and, and_true, ne_eq, not_true_eq_false, not_false_eq_true, forall_const, List.getElem?_cons_zero, List.getElem?_cons_succ]
      refine SW.row ?_; simp only [go_sem, Nat.reduceAdd, Nat.reduceEqDiff, Nat.reduceLeDiff, Nat.reduceMul, reduceIte, Nat.zero_ne_one, Nat.one_ne_zero, Nat.zero_add, Nat.add_zero, List.map_cons, List.map_nil, List.length_cons, List.length_nil, decide_true, decide_false, Bool.not_true, Bool.not_false, true_and, and_true, ne_eq, not_true_eq_false, not_false_eq_true, forall_const, List.getElem?_cons_zero, List.getElem?_cons_succ, w64_id (show -9223372036854775808 ≤ (s : Int) + 1 by omega) (show (s : Int) + 1 ≤ 9223372036854775807 by omega)]
      refine SLoop.next (n - (s + 1)) (by omega) ⟨s + 1, by omega, rfl, ?_, ?_⟩
      · simp only [go_sem, Nat.reduceAdd, Nat.reduceEqDiff, Nat.reduceLeDiff, Nat.reduceMul, reduceIte, Nat.zero_ne_one, Nat.one_ne_zero, Nat.zero_add, Nat.add_zero, List.map_cons, List.map_nil, List.length_cons, List.length_nil, decide_true, decide_false, Bool.not_true, Bool.not_false, true_and, and_true, ne_eq, not_true_eq_false, not_false_eq_true, forall_const, List.getElem?_cons_zero, List.getElem?_cons_succ]; rfl
      · rw [row_succ (fun (s : Nat) => sqI1 n c s), ← List.append_assoc]
        exact Bx.put d1 (by omega) (fun j hj => by rw [d3 j (by omega)]; exact c4 j hj)
    · have hy : s = n := by
        have := of_decide_eq_false h
        omega
      subst hy
      refine SW.exit ?_; simp only [go_sem, Nat.reduceAdd, Nat.reduceEqDiff, Nat.reduceLeDiff, Nat.reduceMul, reduceIte, Nat.zero_ne_one, Nat.one_ne_zero, Nat.zero_add, Nat.add_zero, List.map_cons, List.map_nil, List.length_cons, List.length_nil, decide_true, decide_false, Bool.not_true, Bool.not_false, true_and, and_true, ne_eq, not_true_eq_false, not_false_eq_true, forall_const, List.getElem?_cons_zero, List.getElem?_cons_succ]
      refine SW.row ?_; simp only [go_sem, Nat.reduceAdd, Nat.reduceEqDiff, Nat.reduceLeDiff, Nat.reduceMul, reduceIte, Nat.zero_ne_one, Nat.one_ne_zero, Nat.zero_add, Nat.add_zero, List.map_cons, List.map_nil, List.length_cons, List.length_nil, decide_true, decide_false, Bool.not_true, Bool.not_false, true_and, and_true, ne_eq, not_true_eq_false, not_false_eq_true, forall_const, List.getElem?_cons_zero, List.getElem?_cons_succ, w64_id (show -9223372036854775808 ≤ (c : Int) + 1 by omega) (show (c : Int) + 1 ≤ 9223372036854775807 by omega)]
      refine SLoop.next (s * s - (c + 1)) (by omega) ⟨c + 1, by omega, rfl, ?_, ?_⟩
      · simp only [go_sem, Nat.reduceAdd, Nat.reduceEqDiff, Nat.reduceLeDiff, Nat.reduceMul, reduceIte, Nat.zero_ne_one, Nat.one_ne_zero, Nat.zero_add, Nat.add_zero, List.map_cons, List.map_nil, List.length_cons, List.length_nil, decide_true, decide_false, Bool.not_true, Bool.not_false, true_and, and_true, ne_eq, not_true_eq_false, not_false_eq_true, forall_const, List.getElem?_cons_zero, List.getElem?_cons_succ]; rfl
      · rw [sqI_succ]; exact ⟨v2, c1, c2, c3, c4⟩
  · have hx : c = n * n := by
      have := of_decide_eq_false h
      omega
    subst hx
    have b5 : H1[H.length]? = some ⟨0, tyCover, 1, [I 0, nilS]⟩ := by rw [b4 _ (by omega)]; simp
    refine SW.exit ?_; simp only [go_sem, Nat.reduceAdd, Nat.reduceEqDiff, Nat.reduceLeDiff, Nat.reduceMul, reduceIte, Nat.zero_ne_one, Nat.one_ne_zero, Nat.zero_add, Nat.add_zero, List.map_cons, List.map_nil, List.length_cons, List.length_nil, decide_true, decide_false, Bool.not_true, Bool.not_false, true_and, and_true, ne_eq, not_true_eq_false, not_false_eq_true, forall_const, List.getElem?_cons_zero, List.getElem?_cons_succ]
    refine SW.seq ?_; refine SW.row ?_; simp only [go_sem, Nat.reduceAdd, Nat.reduceEqDiff, Nat.reduceLeDiff, Nat.reduceMul, reduceIte, Nat.zero_ne_one, Nat.one_ne_zero, Nat.zero_add, Nat.add_zero, List.map_cons, List.map_nil, List.length_cons, List.length_nil, decide_true, decide_false, Bool.not_true, Bool.not_false, true_and, and_true, ne_eq, not_true_eq_false, not_false_eq_true, forall_const, List.getElem?_cons_zero, List.getElem?_cons_succ, List.all_nil, List.all_cons, List.length_set, List.append_assoc, List.cons_append, List.nil_append, List.length_append, List.length_set, List.set_cons_zero, List.set_cons_succ, acell1_own, acell1_own0, alive_own, alive_own0, acells_own, acells_own0, astore_own, astore_own0, aview_own, aview_own0, PcL_some, PcV_some, PcG_some, PcS_some, NmV_some, setMany_nil, setMany_cons, partsOf_agg, cell1_nm, cell1_nil, cell1_il, cell1_Bv, cell1_pc, partsOf_nm, partsOf_il, partsOf_nil, partsOf_Bv, afill_nil, afill_cons, List.drop_zero, List.drop_succ_cons, List.take_succ_cons, List.take_zero, List.take_nil, and_self, Nat.le_refl, pc_alive b1, pc_lds b1, b2.cell1]
    rw [pc_st b5 (by simp)]
    simp only [go_sem, Nat.reduceAdd, Nat.reduceEqDiff, Nat.reduceLeDiff, Nat.reduceMul, reduceIte, Nat.zero_ne_one, Nat.one_ne_zero, Nat.zero_add, Nat.add_zero, List.map_cons, List.map_nil, List.length_cons, List.length_nil, decide_true, decide_false, Bool.not_true, Bool.not_false, true_and, and_true, ne_eq, not_true_eq_false, not_false_eq_true, forall_const, List.getElem?_cons_zero, List.getElem?_cons_succ]
    refine SW.ret ?_
    refine FunPost.cell_tmp (cs := [I items, v]) ?_ (GR.of ?_)
    · simp only [go_sem, Nat.reduceAdd, Nat.reduceEqDiff, Nat.reduceLeDiff, Nat.reduceMul, reduceIte, Nat.zero_ne_one, Nat.one_ne_zero, Nat.zero_add, Nat.add_zero, List.map_cons, List.map_nil, List.length_cons, List.length_nil, decide_true, decide_false, Bool.not_true, Bool.not_false, true_and, and_true, ne_eq, not_true_eq_false, not_false_eq_true, forall_const, List.getElem?_cons_zero, List.getElem?_cons_succ]
      rw [pc_lds (List.getElem?_set_self (List.getElem?_eq_some_iff.1 b5).1) (by simp [setMany])]
      rfl
    · obtain ⟨ext, he⟩ := prefix_of (H := H) (H' := H1.set H.length ⟨0, tyCover, 1, setMany [I 0, nilS] 0 [I items, v]⟩) (by simp; omega) (fun j hj => by
        rw [List.getElem?_set_ne (by omega), b4 j (by omega), List.getElem?_append_left hj])
      refine ⟨ext, v, he, rfl, ?_⟩
      refine GrowSS.own (b2.same (fun j b h1 h2 => ?_)) (by omega)
      rw [List.getElem?_set_ne (by omega)]; exact h2
end Go.Proofs.Ytmgbglekgigkmaa
