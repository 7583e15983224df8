/- Covers: told, marked, held; a list of rows that grows. -/
import Derived.Test.YtdgcgckehihboaaDoorProg
import Derived.KernelRfl
import Derived.Test.YtdgcgckehihboaaDoorL2
import Derived.Test.YtdgcgckehihboaaDoorAvC
set_option linter.unusedSimpArgs false
set_option linter.unusedVariables false
set_option maxHeartbeats 4000000
set_option maxRecDepth 100000
namespace Go.Proofs.YtdgcgckehihboaaDoor
open Go.Av

/-! The abstract code of functions, printed by program and tied to the program by the kernel. -/
/-- loop.example/g00920/spec.l00In -/
abbrev f_spec_l00In : Nat := 25
def c_spec_l00In : SC :=
 .seq (.reg [
     ⟨(some 6), .mv (.const (.bool false)), none⟩] [0, 1, 2])
 (.seq (.reg [
     ⟨(some 7), .mv (.tmp 0), none⟩,
     ⟨(some 8), .mv (.tmp 1), none⟩,
     ⟨(some 9), .bin .geq (.tmp 7) (.tmp 8), none⟩,
     ⟨(some 10), .mv (.tmp 9), none⟩,
     ⟨(some 11), .mv (.tmp 0), (some (10, true))⟩,
     ⟨(some 12), .mv (.tmp 2), (some (10, true))⟩,
     ⟨(some 13), .bin .leq (.tmp 11) (.tmp 12), (some (10, true))⟩,
     ⟨(some 14), .pick (.tmp 10) (.tmp 13) (.const (.bool false)), none⟩,
     ⟨(some 6), .mv (.tmp 14), none⟩] [6])
 (.ret))
theorem s_spec_l00In : stripF Tryd.prog 25 [[0, 1, 2], [6]] = some (c_spec_l00In, [.tmp 6], 15) := by kernel_rfl

/-- loop.example/g00920/impl.within -/
abbrev f_impl_within : Nat := 44
def c_impl_within : SC :=
 .seq (.reg [
     ⟨(some 6), .mv (.const (.bool false)), none⟩] [0, 1, 2])
 (.seq (.reg [
     ⟨(some 7), .mv (.tmp 0), none⟩,
     ⟨(some 8), .mv (.tmp 1), none⟩,
     ⟨(some 9), .bin .geq (.tmp 7) (.tmp 8), none⟩,
     ⟨(some 10), .mv (.tmp 9), none⟩,
     ⟨(some 11), .mv (.tmp 0), (some (10, true))⟩,
     ⟨(some 12), .mv (.tmp 2), (some (10, true))⟩,
     ⟨(some 13), .bin .leq (.tmp 11) (.tmp 12), (some (10, true))⟩,
     ⟨(some 14), .pick (.tmp 10) (.tmp 13) (.const (.bool false)), none⟩,
     ⟨(some 6), .mv (.tmp 14), none⟩] [6])
 (.ret))
theorem s_impl_within : stripF Tryd.prog 44 [[0, 1, 2], [6]] = some (c_impl_within, [.tmp 6], 15) := by kernel_rfl


theorem within_ok (H : List Blk) (n lo hi : Int) : ACalls Tryd.prog f_impl_within [I n, I lo, I hi] H (fun r H' => r = Bv (decide (lo ≤ n) && decide (n ≤ hi)) ∧ H' = H) := by
  refine ACalls.intro s_impl_within (by simp) ?_
  refine SW.seq ?_; refine SW.row ?_; simp only [go_sem, Nat.reduceAdd, Nat.reduceEqDiff, Nat.reduceLeDiff, Nat.reduceMul, reduceIte, Nat.zero_ne_one, Nat.one_ne_zero, Nat.zero_add, Nat.add_zero, List.map_cons, List.map_nil, List.length_cons, List.length_nil, decide_true, decide_false, Bool.not_true, Bool.not_false, true_and, and_true, ne_eq, not_true_eq_false, not_false_eq_true, forall_const, List.getElem?_cons_zero, List.getElem?_cons_succ]
  refine SW.seq ?_; refine SW.row ?_; simp only [go_sem, Nat.reduceAdd, Nat.reduceEqDiff, Nat.reduceLeDiff, Nat.reduceMul, reduceIte, Nat.zero_ne_one, Nat.one_ne_zero, Nat.zero_add, Nat.add_zero, List.map_cons, List.map_nil, List.length_cons, List.length_nil, decide_true, decide_false, Bool.not_true, Bool.not_false, true_and, and_true, ne_eq, not_true_eq_false, not_false_eq_true, forall_const, List.getElem?_cons_zero, List.getElem?_cons_succ]
  refine ⟨fun h => ?_, fun h => ?_⟩
  · refine SW.ret ?_; (try simp only [go_sem]); refine FunPost.one (GR.of ?_); (try simp only [go_sem, Nat.reduceAdd, Nat.reduceEqDiff, Nat.reduceLeDiff, Nat.reduceMul, reduceIte, Nat.zero_ne_one, Nat.one_ne_zero, Nat.zero_add, Nat.add_zero, List.map_cons, List.map_nil, List.length_cons, List.length_nil, decide_true, decide_false, Bool.not_true, Bool.not_false, true_and, and_true, ne_eq, not_true_eq_false, not_false_eq_true, forall_const, List.getElem?_cons_zero, List.getElem?_cons_succ])
    rw [h]; simp [PickW]
  · refine SW.ret ?_; (try simp only [go_sem]); refine FunPost.one (GR.of ?_); (try simp only [go_sem, Nat.reduceAdd, Nat.reduceEqDiff, Nat.reduceLeDiff, Nat.reduceMul, reduceIte, Nat.zero_ne_one, Nat.one_ne_zero, Nat.zero_add, Nat.add_zero, List.map_cons, List.map_nil, List.length_cons, List.length_nil, decide_true, decide_false, Bool.not_true, Bool.not_false, true_and, and_true, ne_eq, not_true_eq_false, not_false_eq_true, forall_const, List.getElem?_cons_zero, List.getElem?_cons_succ])
    rw [h]; simp [PickW]

theorem l00In_ok (H : List Blk) (n lo hi : Int) : ACalls Tryd.prog f_spec_l00In [I n, I lo, I hi] H (fun r H' => r = Bv (decide (lo ≤ n) && decide (n ≤ hi)) ∧ H' = H) := by
  refine ACalls.intro s_spec_l00In (by simp) ?_
  refine SW.seq ?_; refine SW.row ?_; simp only [go_sem, Nat.reduceAdd, Nat.reduceEqDiff, Nat.reduceLeDiff, Nat.reduceMul, reduceIte, Nat.zero_ne_one, Nat.one_ne_zero, Nat.zero_add, Nat.add_zero, List.map_cons, List.map_nil, List.length_cons, List.length_nil, decide_true, decide_false, Bool.not_true, Bool.not_false, true_and, and_true, ne_eq, not_true_eq_false, not_false_eq_true, forall_const, List.getElem?_cons_zero, List.getElem?_cons_succ]
  refine SW.seq ?_; refine SW.row ?_; simp only [go_sem, Nat.reduceAdd, Nat.reduceEqDiff, Nat.reduceLeDiff, Nat.reduceMul, reduceIte, Nat.zero_ne_one, Nat.one_ne_zero, Nat.zero_add, Nat.add_zero, List.map_cons, List.map_nil, List.length_cons, List.length_nil, decide_true, decide_false, Bool.not_true, Bool.not_false, true_and, and_true, ne_eq, not_true_eq_false, not_false_eq_true, forall_const, List.getElem?_cons_zero, List.getElem?_cons_succ]
  refine ⟨fun h => ?_, fun h => ?_⟩
  · refine SW.ret ?_; (try simp only [go_sem]); refine FunPost.one (GR.of ?_); (try simp only [go_sem, Nat.reduceAdd, Nat.reduceEqDiff, Nat.reduceLeDiff, Nat.reduceMul, reduceIte, Nat.zero_ne_one, Nat.one_ne_zero, Nat.zero_add, Nat.add_zero, List.map_cons, List.map_nil, List.length_cons, List.length_nil, decide_true, decide_false, Bool.not_true, Bool.not_false, true_and, and_true, ne_eq, not_true_eq_false, not_false_eq_true, forall_const, List.getElem?_cons_zero, List.getElem?_cons_succ])
    rw [h]; simp
  · refine SW.ret ?_; (try simp only [go_sem]); refine FunPost.one (GR.of ?_); (try simp only [go_sem, Nat.reduceAdd, Nat.reduceEqDiff, Nat.reduceLeDiff, Nat.reduceMul, reduceIte, Nat.zero_ne_one, Nat.one_ne_zero, Nat.zero_add, Nat.add_zero, List.map_cons, List.map_nil, List.length_cons, List.length_nil, decide_true, decide_false, Bool.not_true, Bool.not_false, true_and, and_true, ne_eq, not_true_eq_false, not_false_eq_true, forall_const, List.getElem?_cons_zero, List.getElem?_cons_succ])
    rw [h]; simp

/-! A list of rows that grows. -/
def GrowSS (H : List Blk) (base ty : Nat) (v : AV) (xss : List (List Int)) : Prop :=
  (v = nilS ∧ xss = []) ∨ ∃ t ver cells, v = .nm t ver 0 xss.length ∧ OwnC H (Fr base) t ver ty cells xss

theorem OwnS.weak {H : List Blk} {N N' : Nat → Prop} {t : Nat} {c : AV} {xs : List Int} (h : OwnS H N t c xs) (hN : ∀ r, N r → r < H.length → N' r) : OwnS H N' t c xs := by
  rcases h with ⟨r, ver, ty, hc, h1, h2, h3⟩ | h
  · exact .inl ⟨r, ver, ty, hc, hN r h1 (List.getElem?_eq_some_iff.1 h3).1, h2, h3⟩
  · exact .inr h
theorem OwnC.weak {H : List Blk} {N N' : Nat → Prop} {t ver ty : Nat} {cells : List AV} {xss : List (List Int)} (h : OwnC H N t ver ty cells xss) (hN : ∀ r, N r → r < H.length → N' r) : OwnC H N' t ver ty cells xss := by
  obtain ⟨h1, h2, h3, h4, h5⟩ := h
  exact ⟨hN t h1 (List.getElem?_eq_some_iff.1 h2).1, h2, h3, fun j c xs g1 g2 => (h4 j c xs g1 g2).weak hN, h5⟩
theorem OwnSS.weak {H : List Blk} {N N' : Nat → Prop} {a : AV} {xss : List (List Int)} (h : OwnSS H N a xss) (hN : ∀ r, N r → r < H.length → N' r) : OwnSS H N' a xss := by
  rcases h with ⟨t, ver, ty, cells, ha, h⟩ | h
  · exact .inl ⟨t, ver, ty, cells, ha, h.weak hN⟩
  · exact .inr h
theorem GrowSS.own {H : List Blk} {base ty : Nat} {v : AV} {xss : List (List Int)} (h : GrowSS H base ty v xss) {b : Nat} (hb : b ≤ base) : OwnSS H (Btw b H.length) v xss := by
  rcases h with ⟨rfl, rfl⟩ | ⟨t, ver, cells, rfl, h⟩
  · exact .inr ⟨rfl, .inl rfl⟩
  · exact .inl ⟨t, ver, ty, cells, rfl, h.weak (fun r h1 h2 => ⟨by unfold Fr at h1; omega, h2⟩)⟩
theorem GrowSS.cell1 {H : List Blk} {base ty : Nat} {v : AV} {xss : List (List Int)} (h : GrowSS H base ty v xss) : v.cell1 = true := by
  rcases h with ⟨rfl, rfl⟩ | ⟨t, ver, cells, rfl, h⟩ <;> rfl
theorem GrowSS.parts {H : List Blk} {base ty : Nat} {v : AV} {xss : List (List Int)} (h : GrowSS H base ty v xss) : partsOf v = [v] := by
  rcases h with ⟨rfl, rfl⟩ | ⟨t, ver, cells, rfl, h⟩ <;> rfl

/-- A memory that agrees at the names from base on. -/
theorem OwnS.same {H H' : List Blk} {N : Nat → Prop} {t : Nat} {c : AV} {xs : List Int} (h : OwnS H N t c xs) (hs : ∀ j b, N j → j ≠ t → H[j]? = some b → H'[j]? = some b) : OwnS H' N t c xs := by
  rcases h with ⟨r, ver, ty, hc, h1, h2, h3⟩ | h
  · exact .inl ⟨r, ver, ty, hc, h1, h2, hs r _ h1 h2 h3⟩
  · exact .inr h
theorem GrowSS.same {H H' : List Blk} {base ty : Nat} {v : AV} {xss : List (List Int)} (h : GrowSS H base ty v xss) (hs : ∀ j b, base ≤ j → H[j]? = some b → H'[j]? = some b) : GrowSS H' base ty v xss := by
  rcases h with h | ⟨t, ver, cells, rfl, h1, h2, h3, h4, h5⟩
  · exact .inl h
  · exact .inr ⟨t, ver, cells, rfl, h1, hs t _ h1 h2, h3, fun j c xs g1 g2 => (h4 j c xs g1 g2).same (fun j b q _ => hs j b q), h5⟩

theorem OwnC.nm_lt {H : List Blk} {N : Nat → Prop} {t ver ty : Nat} {cells : List AV} {xss : List (List Int)} (h : OwnC H N t ver ty cells xss) {j r v o l : Nat} (hj : cells[j]? = some (.nm r v o l)) : r < H.length := by
  obtain ⟨h1, h2, h3, h4, h5⟩ := h
  have hlt := (List.getElem?_eq_some_iff.1 hj).1
  rcases h4 j _ _ hj (List.getElem?_eq_getElem (by omega)) with ⟨r', v', ty', hc, _, _, o3⟩ | ⟨_, hc | hc⟩
  · simp only [AV.nm.injEq] at hc
    rw [hc.1]; exact (List.getElem?_eq_some_iff.1 o3).1
  · simp [nilS] at hc
  · simp at hc

theorem OwnC.same {H H' : List Blk} {N : Nat → Prop} {t ver ty : Nat} {cells : List AV} {xss : List (List Int)} (h : OwnC H N t ver ty cells xss) (hs : ∀ j b, N j → H[j]? = some b → H'[j]? = some b) : OwnC H' N t ver ty cells xss := by
  obtain ⟨h1, h2, h3, h4, h5⟩ := h
  exact ⟨h1, hs t _ h1 h2, h3, fun j c xs g1 g2 => (h4 j c xs g1 g2).same (fun j b q _ => hs j b q), h5⟩
theorem OwnSS.same {H H' : List Blk} {N : Nat → Prop} {a : AV} {xss : List (List Int)} (h : OwnSS H N a xss) (hs : ∀ j b, N j → H[j]? = some b → H'[j]? = some b) : OwnSS H' N a xss := by
  rcases h with ⟨t, ver, ty, cells, ha, h⟩ | h
  · exact .inl ⟨t, ver, ty, cells, ha, h.same hs⟩
  · exact .inr h

/-- A fresh row is appended. -/
theorem GrowSS.app {H : List Blk} {base ty rty : Nat} {v : AV} {xss : List (List Int)} {xs : List Int} (h : GrowSS H base ty v xss) (hb : base ≤ H.length) (hl : (xss.length + 1) * 24 ≤ 140737488355328)
    {K : AV → List Blk → Prop} (hk : ∀ v' H', GrowSS H' base ty v' (xss ++ [xs]) → H.length ≤ H'.length → (∀ j, j < base → H'[j]? = H[j]?) → K v' H') :
    swpApp ty 1 24 (H ++ [⟨0, rty, 1, xs.map I⟩, ⟨0, ty, 1, [.nm H.length 0 0 xs.length]⟩]) v (.nm (H.length + 1) 0 0 1) K := by
  have hrow : ∀ H' : List Blk, H'[H.length]? = some ⟨0, rty, 1, xs.map I⟩ → ∀ t, t ≠ H.length → OwnS H' (Fr base) t (.nm H.length 0 0 xs.length) xs := fun H' h t ht => .inl ⟨H.length, 0, rty, rfl, hb, fun e => ht e.symm, h⟩
  rcases h with ⟨rfl, rfl⟩ | ⟨t, ver, cells, rfl, hc⟩
  · simp only [swpApp, aview, hget, nilS]
    simp only [List.getElem?_cons_succ, List.getElem?_cons_zero, if_true, List.drop_zero]
    refine ⟨rfl, by simp [AV.cell1], by omega, by omega, hk _ _ (.inr ⟨H.length + 2, 1, [.nm H.length 0 0 xs.length], by simp, ?_⟩) (by simp) (fun j hj => ?_)⟩
    · refine ⟨show base ≤ H.length + 2 by omega, ?_, rfl, ?_, ?_⟩
      · simp
      · intro j c ys g1 g2
        cases j with
        | zero => simp at g1 g2; subst g1; subst g2; exact hrow _ (by simp) _ (by omega)
        | succ j => simp at g1
      · intro i j r v o l v' o' l' hij g1 g2
        cases i <;> cases j <;> simp at g1 g2 hij
    · rw [List.append_assoc, List.getElem?_append_left (by omega)]
  · obtain ⟨h1, h2, h3, h4, h5⟩ := id hc
    have htl := (List.getElem?_eq_some_iff.1 h2).1
    have h1' : base ≤ t := h1
    simp only [swpApp, aview, hget]
    simp only [List.getElem?_cons_succ, List.getElem?_cons_zero, if_true, List.drop_zero, List.getElem?_append_left htl, h2]
    refine ⟨rfl, by simp [AV.cell1], trivial, trivial, trivial, by omega, by omega, by omega, hk _ _ (.inr ⟨t, ver + 1, cells ++ [.nm H.length 0 0 xs.length], by simp, ?_⟩) (by simp) (fun j hj => ?_)⟩
    · refine ⟨h1, ?_, by simp [h3], ?_, ?_⟩
      · rw [List.getElem?_set_self (by simp; omega)]
        simp [← h3]
      · intro j c ys g1 g2
        by_cases hj : j < cells.length
        · rw [List.getElem?_append_left hj] at g1
          rw [List.getElem?_append_left (by omega)] at g2
          refine (h4 j c ys g1 g2).same ?_
          intro q b q1 q2 q3
          rw [List.getElem?_set_ne (Ne.symm q2), List.getElem?_append_left (List.getElem?_eq_some_iff.1 q3).1]; exact q3
        · rw [List.getElem?_append_right (by omega)] at g1 g2
          have hj' : j = cells.length := by
            have := (List.getElem?_eq_some_iff.1 g1).1
            simp at this; omega
          subst hj'
          rw [Nat.sub_self] at g1
          rw [h3, Nat.sub_self] at g2
          simp at g1 g2; subst g1; subst g2
          refine hrow _ ?_ _ (by omega)
          rw [List.getElem?_set_ne (by omega)]; simp
      · intro i j r v o l v' o' l' hij g1 g2
        by_cases hi : i < cells.length
        · rw [List.getElem?_append_left hi] at g1
          have hr := hc.nm_lt g1
          by_cases hj : j < cells.length
          · rw [List.getElem?_append_left hj] at g2
            exact h5 i j r v o l v' o' l' hij g1 g2
          · rw [List.getElem?_append_right (by omega)] at g2
            have hj' : j = cells.length := by
              have := (List.getElem?_eq_some_iff.1 g2).1
              simp at this; omega
            subst hj'
            simp at g2
            omega
        · rw [List.getElem?_append_right (by omega)] at g1
          have hi' : i = cells.length := by
            have := (List.getElem?_eq_some_iff.1 g1).1
            simp at this; omega
          subst hi'
          simp at g1
          by_cases hj : j < cells.length
          · rw [List.getElem?_append_left hj] at g2
            have hr := hc.nm_lt g2
            omega
          · rw [List.getElem?_append_right (by omega)] at g2
            have := (List.getElem?_eq_some_iff.1 g2).1
            simp at this; omega
    · rw [List.getElem?_set_ne (by omega), List.getElem?_append_left (by omega)]
end Go.Proofs.YtdgcgckehihboaaDoor
