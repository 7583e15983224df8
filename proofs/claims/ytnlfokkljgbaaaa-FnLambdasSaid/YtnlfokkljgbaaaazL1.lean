/- Slices of integers, read. -/
import Derived.Test.YtnlfokkljgbaaaaProg
import Derived.Test.YtnlfokkljgbaaaazAvC
import Derived.KernelRfl
set_option linter.unusedSimpArgs false
set_option linter.unusedVariables false
set_option maxHeartbeats 4000000
set_option maxRecDepth 100000
namespace Go.Proofs.Ytnlfokkljgbaaaa
open Go.Av
abbrev RdS (H : List Blk) (a : AV) (xs : List Int) : Prop := aview H a = some (xs.length, xs.map I)
section
variable {H : List Blk} {a : AV} {xs : List Int} {K : AV → List Blk → Prop}
theorem idx (ha : RdS H a xs) {i : Nat} (h : i < xs.length) : IaddrW 1 a (I i) H K = K (.el a i) H := by
  rw [IaddrW_of (n := 1) (H := H) (Kv := K) (i := i) ha]
  simp only [Int.toNat_natCast, Nat.mul_one]
  exact propext ⟨fun g => g.2.2, fun g => ⟨by omega, by omega, g⟩⟩
end
theorem RdS.append {H : List Blk} {a : AV} {xs : List Int} (h : RdS H a xs) (ext : List Blk) : RdS (H ++ ext) a xs := aview_append h ext
def RdSS (H : List Blk) (a : AV) (xss : List (List Int)) : Prop := ∃ cells, aview H a = some (xss.length, cells) ∧ cells.length = xss.length ∧ ∀ (j : Nat) (c : AV) (xs : List Int), cells[j]? = some c → xss[j]? = some xs → RdS H c xs
theorem RdSS.append {H : List Blk} {a : AV} {xss : List (List Int)} (h : RdSS H a xss) (ext : List Blk) : RdSS (H ++ ext) a xss := by
  obtain ⟨cells, h1, h2, h3⟩ := h
  exact ⟨cells, aview_append h1 ext, h2, fun j c xs g1 g2 => RdS.append (h3 j c xs g1 g2) ext⟩
section
variable {H : List Blk} {a : AV} {n : Nat} {cells : List AV} {K : AV → List Blk → Prop}
theorem view_nm {r ver ty : Nat} (h : H[r]? = some ⟨ver, ty, 1, cells⟩) (hn : cells.length = n) : aview H (.nm r ver 0 n) = some (n, cells) := by
  simp only [aview, h, if_true, List.drop_zero, Nat.mul_one]
  rw [← hn, List.take_length]
end
@[go_sem] theorem partsOf_I (n : Int) : partsOf (I n) = [I n] := (rfl)
@[go_sem] theorem cell1_I (n : Int) : (I n).cell1 = true := (rfl)
@[go_sem] theorem all_nil1 (f : AV → Bool) : ([] : List AV).all f = true := (rfl)
@[go_sem] theorem all_cons1 (f : AV → Bool) (c : AV) (cs : List AV) : (c :: cs).all f = (f c && cs.all f) := (rfl)
attribute [go_sem] Bool.and_true Bool.true_and
end Go.Proofs.Ytnlfokkljgbaaaa
namespace Go.Proofs.Ytnlfokkljgbaaaa
open Go.Av
def OwnS (H : List Blk) (N : Nat → Prop) (t : Nat) (c : AV) (xs : List Int) : Prop :=
  (∃ r ver ty, c = .nm r ver 0 xs.length ∧ N r ∧ r ≠ t ∧ H[r]? = some ⟨ver, ty, 1, xs.map I⟩) ∨ (xs = [] ∧ (c = nilS ∨ c = .il 0 []))
def Fr (b : Nat) : Nat → Prop := fun r => b ≤ r
def Btw (b t : Nat) : Nat → Prop := fun r => b ≤ r ∧ r < t
def OwnC (H : List Blk) (N : Nat → Prop) (t ver ty : Nat) (cells : List AV) (xss : List (List Int)) : Prop :=
  N t ∧ H[t]? = some ⟨ver, ty, 1, cells⟩ ∧ cells.length = xss.length ∧ (∀ (j : Nat) (c : AV) (xs : List Int), cells[j]? = some c → xss[j]? = some xs → OwnS H N t c xs) ∧
  (∀ (i j r v o l v' o' l' : Nat), i ≠ j → cells[i]? = some (.nm r v o l) → cells[j]? ≠ some (.nm r v' o' l'))
def OwnSS (H : List Blk) (N : Nat → Prop) (a : AV) (xss : List (List Int)) : Prop := (∃ t ver ty cells, a = .nm t ver 0 xss.length ∧ OwnC H N t ver ty cells xss) ∨ (xss = [] ∧ (a = nilS ∨ a = .il 0 []))
theorem OwnC.append {H : List Blk} {N : Nat → Prop} {t ver ty : Nat} {cells : List AV} {xss : List (List Int)} (h : OwnC H N t ver ty cells xss) (ext : List Blk) : OwnC (H ++ ext) N t ver ty cells xss := by
  obtain ⟨h1, h2, h3, h4, h5⟩ := h
  have ap : ∀ {r : Nat} {b : Blk}, H[r]? = some b → (H ++ ext)[r]? = some b := by
    intro r b hr
    rw [List.getElem?_append_left (List.getElem?_eq_some_iff.1 hr).1]; exact hr
  refine ⟨h1, ap h2, h3, fun j c xs g1 g2 => ?_, h5⟩
  rcases h4 j c xs g1 g2 with ⟨r, v, ty', hc, o1, o2, o3⟩ | h
  · exact .inl ⟨r, v, ty', hc, o1, o2, ap o3⟩
  · exact .inr h
theorem OwnSS.append {H : List Blk} {N : Nat → Prop} {a : AV} {xss : List (List Int)} (h : OwnSS H N a xss) (ext : List Blk) : OwnSS (H ++ ext) N a xss := by
  rcases h with ⟨t, ver, ty, cells, ha, h⟩ | h
  · exact .inl ⟨t, ver, ty, cells, ha, h.append ext⟩
  · exact .inr h
theorem OwnC.set {H : List Blk} {N : Nat → Prop} {t ver ty : Nat} {cells : List AV} {xss yss : List (List Int)} (h : OwnC H N t ver ty cells xss) {i r v ty' : Nat} {xs ys : List Int} (hi : cells[i]? = some (.nm r v 0 xs.length)) (hx : xss[i]? = some xs) (hr : H[r]? = some ⟨v, ty', 1, xs.map I⟩)
    (hl : ys.length = xs.length) (hy : yss[i]? = some ys) (hyl : yss.length = xss.length) (hyo : ∀ j, j ≠ i → yss[j]? = xss[j]?) (hrt : r ≠ t) : OwnC (H.set r ⟨v, ty', 1, ys.map I⟩) N t ver ty cells yss := by
  obtain ⟨h1, h2, h3, h4, h5⟩ := h
  have hlt := (List.getElem?_eq_some_iff.1 hr).1
  refine ⟨h1, by rw [List.getElem?_set_ne hrt]; exact h2, by rw [h3, hyl], fun j c zs g1 g2 => ?_, h5⟩
  by_cases hji : j = i
  · subst hji
    rw [hi] at g1; cases g1
    rw [hy] at g2; cases g2
    rcases h4 j _ _ hi hx with ⟨r', v', ty2, hc, o1, o2, o3⟩ | ⟨_, hc | hc⟩
    · simp only [AV.nm.injEq] at hc
      obtain ⟨rfl, rfl, _⟩ := hc
      exact .inl ⟨r, v, ty', by rw [hl], o1, o2, List.getElem?_set_self hlt⟩
    · simp [nilS] at hc
    · simp at hc
  · rw [hyo j hji] at g2
    rcases h4 j c zs g1 g2 with ⟨r', v', ty2, hc, o1, o2, o3⟩ | h
    · refine .inl ⟨r', v', ty2, hc, o1, o2, ?_⟩
      have : r ≠ r' := by
        rintro rfl
        rw [hc] at g1
        exact h5 i j r v 0 xs.length v' 0 zs.length (Ne.symm hji) hi g1
      rw [List.getElem?_set_ne this]; exact o3
    · exact .inr h
def ilS (xs : List Int) : AV := .il xs.length (xs.map I)
def ilSS (xss : List (List Int)) : AV := .il xss.length (xss.map ilS)
theorem froz_I (H : List Blk) (base : Nat) (n : Int) : Froz H base (I n) (I n) := .old _ (.lit _)
theorem froz_row {H : List Blk} {base r ver ty : Nat} {xs : List Int} (hb : base ≤ r) (hr : H[r]? = some ⟨ver, ty, 1, xs.map I⟩) : Froz H base (.nm r ver 0 xs.length) (ilS xs) := by
  have hc : ((xs.map I).drop 0).take (xs.length * 1) = xs.map I := by rw [List.drop_zero, Nat.mul_one]; apply List.take_of_length_le; simp
  refine .nm r ver 0 xs.length _ _ hb hr rfl (by simp only [hc]) ?_
  intro j c c' h1 h2
  simp only [hc] at h1
  rw [h1] at h2; cases h2
  rw [List.getElem?_map] at h1
  cases hx : xs[j]? with
  | none => rw [hx] at h1; simp at h1
  | some x => rw [hx] at h1; simp at h1; rw [← h1]; exact froz_I _ _ _
theorem OwnS.froz {H : List Blk} {N : Nat → Prop} {base t : Nat} {c : AV} {xs : List Int} (h : OwnS H N t c xs) (hN : ∀ r, N r → base ≤ r) : Froz H base c (ilS xs) := by
  rcases h with ⟨r, ver, ty, rfl, h1, _, h3⟩ | ⟨rfl, rfl | rfl⟩
  · exact froz_row (hN _ h1) h3
  · exact .nil
  · exact .old _ (.il _ _ (fun c h => by simp at h))
theorem OwnSS.froz {H : List Blk} {N : Nat → Prop} {base : Nat} {a : AV} {xss : List (List Int)} (h : OwnSS H N a xss) (hN : ∀ r, N r → base ≤ r) : Froz H base a (ilSS xss) := by
  rcases h with ⟨t, ver, ty, cells, rfl, h1, h2, h3, h4, _⟩ | ⟨rfl, rfl | rfl⟩
  · have hc : (cells.drop 0).take (xss.length * 1) = cells := by rw [List.drop_zero, Nat.mul_one]; apply List.take_of_length_le; omega
    refine .nm t ver 0 xss.length _ _ (hN _ h1) h2 rfl (by simp only [hc, List.length_map]; exact h3.symm) ?_
    intro j c c' g1 g2
    simp only [hc] at g1
    rw [List.getElem?_map] at g2
    cases hx : xss[j]? with
    | none => rw [hx] at g2; simp at g2
    | some xs => rw [hx] at g2; simp at g2; rw [← g2]; exact (h4 j c xs g1 hx).froz hN
  · exact .nil
  · exact .old _ (.il _ _ (fun c h => by simp at h))
theorem rd_ilS (H : List Blk) (xs : List Int) : RdS H (ilS xs) xs := rfl
end Go.Proofs.Ytnlfokkljgbaaaa
namespace Go.Proofs.Ytnlfokkljgbaaaa
open Go.Av
abbrev f_impl_within : Nat := 43
def c_impl_within : SC :=
 .seq (.reg [
     ⟨(some 6), .mv (.const (.bool false)), none⟩] [0, 1, 2])
 (.seq (.reg [
     ⟨(some 7), .mv (.tmp 0), none⟩,
     ⟨(some 8), .mv (.tmp 1), none⟩,
     ⟨(some 9), .bin .geq (.tmp 7) (.tmp 8), none⟩,
     ⟨(some 10), .mv (.tmp 9), none⟩,
     ⟨(some 11), .mv (.tmp 0), (some (10, true))⟩,
     ⟨(some 12), .mv (.tmp 2), (some (10, true))⟩,
     ⟨(some 13), .bin .leq (.tmp 11) (.tmp 12), (some (10, true))⟩,
     ⟨(some 14), .pick (.tmp 10) (.tmp 13) (.const (.bool false)), none⟩,
     ⟨(some 6), .mv (.tmp 14), none⟩] [6])
 (.ret))
theorem s_impl_within : stripF Try.prog 43 [[0, 1, 2], [6]] = some (c_impl_within, [.tmp 6], 15) := by kernel_rfl
abbrev f_spec_l00In : Nat := 49
def c_spec_l00In : SC :=
 .seq (.reg [
     ⟨(some 6), .mv (.const (.bool false)), none⟩] [0, 1, 2])
 (.seq (.reg [
     ⟨(some 7), .mv (.tmp 0), none⟩,
     ⟨(some 8), .mv (.tmp 1), none⟩,
     ⟨(some 9), .bin .geq (.tmp 7) (.tmp 8), none⟩,
     ⟨(some 10), .mv (.tmp 9), none⟩,
     ⟨(some 11), .mv (.tmp 0), (some (10, true))⟩,
     ⟨(some 12), .mv (.tmp 2), (some (10, true))⟩,
     ⟨(some 13), .bin .leq (.tmp 11) (.tmp 12), (some (10, true))⟩,
     ⟨(some 14), .pick (.tmp 10) (.tmp 13) (.const (.bool false)), none⟩,
     ⟨(some 6), .mv (.tmp 14), none⟩] [6])
 (.ret))
theorem s_spec_l00In : stripF Try.prog 49 [[0, 1, 2], [6]] = some (c_spec_l00In, [.tmp 6], 15) := by kernel_rfl
theorem within_ok (H : List Blk) (n lo hi : Int) : ACalls Try.prog f_impl_within [I n, I lo, I hi] H (fun r H' => r = Bv (decide (lo ≤ n) && decide (n ≤ hi)) ∧ H' = H) := by
  refine ACalls.intro s_impl_within (by simp) ?_
  refine SW.seq ?_; refine SW.row ?_; simp only [go_sem, Nat.reduceAdd, Nat.reduceEqDiff, Nat.reduceLeDiff, Nat.reduceMul, reduceIte, Nat.zero_ne_one, Nat.one_ne_zero, Nat.zero_add, Nat.add_zero, List.map_cons, List.map_nil, List.length_cons, List.length_nil, decide_true, decide_false, Bool.not_true, Bool.not_false, true_and, and_true, ne_eq, not_true_eq_false, not_false_eq_true, forall_const, List.getElem?_cons_zero, List.getElem?_cons_succ]
  refine SW.seq ?_; refine SW.row ?_; simp only [go_sem, Nat.reduceAdd, Nat.reduceEqDiff, Nat.reduceLeDiff, Nat.reduceMul, reduceIte, Nat.zero_ne_one, Nat.one_ne_zero, Nat.zero_add, Nat.add_zero, List.map_cons, List.map_nil, List.length_cons, List.length_nil, decide_true, decide_false, Bool.not_true, Bool.not_false, true_and, and_true, ne_eq, not_true_eq_false, not_false_eq_true, forall_const, List.getElem?_cons_zero, List.getElem?_cons_succ]
  refine ⟨fun h => ?_, fun h => ?_⟩
  · refine SW.ret ?_; (try simp only [go_sem]); refine FunPost.one (GR.of ?_); (try simp only [go_sem, Nat.reduceAdd, Nat.reduceEqDiff, Nat.reduceLeDiff, Nat.reduceMul, reduceIte, Nat.zero_ne_one, Nat.one_ne_zero, Nat.zero_add, Nat.add_zero, List.map_cons, List.map_nil, List.length_cons, List.length_nil, decide_true, decide_false, Bool.not_true, Bool.not_false, true_and, and_true, ne_eq, not_true_eq_false, not_false_eq_true, forall_const, List.getElem?_cons_zero, List.getElem?_cons_succ])
    rw [h]; simp [PickW]
  · refine SW.ret ?_; (try simp only [go_sem]); refine FunPost.one (GR.of ?_); (try simp only [go_sem, Nat.reduceAdd, Nat.reduceEqDiff, Nat.reduceLeDiff, Nat.reduceMul, reduceIte, Nat.zero_ne_one, Nat.one_ne_zero, Nat.zero_add, Nat.add_zero, List.map_cons, List.map_nil, List.length_cons, List.length_nil, decide_true, decide_false, Bool.not_true, Bool.not_false, true_and, and_true, ne_eq, not_true_eq_false, not_false_eq_true, forall_const, List.getElem?_cons_zero, List.getElem?_cons_succ])
    rw [h]; simp [PickW]
theorem l00In_ok (H : List Blk) (n lo hi : Int) : ACalls Try.prog f_spec_l00In [I n, I lo, I hi] H (fun r H' => r = Bv (decide (lo ≤ n) && decide (n ≤ hi)) ∧ H' = H) := by
  refine ACalls.intro s_spec_l00In (by simp) ?_
  refine SW.seq ?_; refine SW.row ?_; simp only [go_sem, Nat.reduceAdd, Nat.reduceEqDiff, Nat.reduceLeDiff, Nat.reduceMul, reduceIte, Nat.zero_ne_one, Nat.one_ne_zero, Nat.zero_add, Nat.add_zero, List.map_cons, List.map_nil, List.length_cons, List.length_nil, decide_true, decide_false, Bool.not_true, Bool.not_false, true_and, and_true, ne_eq, not_true_eq_false, not_false_eq_true, forall_const, List.getElem?_cons_zero, List.getElem?_cons_succ]
  refine SW.seq ?_; refine SW.row ?_; simp only [go_sem, Nat.reduceAdd, Nat.reduceEqDiff, Nat.reduceLeDiff, Nat.reduceMul, reduceIte, Nat.zero_ne_one, Nat.one_ne_zero, Nat.zero_add, Nat.add_zero, List.map_cons, List.map_nil, List.length_cons, List.length_nil, decide_true, decide_false, Bool.not_true, Bool.not_false, true_and, and_true, ne_eq, not_true_eq_false, not_false_eq_true, forall_const, List.getElem?_cons_zero, List.getElem?_cons_succ]
  refine ⟨fun h => ?_, fun h => ?_⟩
  · refine SW.ret ?_; (try simp only [go_sem]); refine FunPost.one (GR.of ?_); (try simp only [go_sem, Nat.reduceAdd, Nat.reduceEqDiff, Nat.reduceLeDiff, Nat.reduceMul, reduceIte, Nat.zero_ne_one, Nat.one_ne_zero, Nat.zero_add, Nat.add_zero, List.map_cons, List.map_nil, List.length_cons, List.length_nil, decide_true, decide_false, Bool.not_true, Bool.not_false, true_and, and_true, ne_eq, not_true_eq_false, not_false_eq_true, forall_const, List.getElem?_cons_zero, List.getElem?_cons_succ])
    rw [h]; simp
  · refine SW.ret ?_; (try simp only [go_sem]); refine FunPost.one (GR.of ?_); (try simp only [go_sem, Nat.reduceAdd, Nat.reduceEqDiff, Nat.reduceLeDiff, Nat.reduceMul, reduceIte, Nat.zero_ne_one, Nat.one_ne_zero, Nat.zero_add, Nat.add_zero, List.map_cons, List.map_nil, List.length_cons, List.length_nil, decide_true, decide_false, Bool.not_true, Bool.not_false, true_and, and_true, ne_eq, not_true_eq_false, not_false_eq_true, forall_const, List.getElem?_cons_zero, List.getElem?_cons_succ])
    rw [h]; simp
def GrowSS (H : List Blk) (base ty : Nat) (v : AV) (xss : List (List Int)) : Prop :=
  (v = nilS ∧ xss = []) ∨ ∃ t ver cells, v = .nm t ver 0 xss.length ∧ OwnC H (Fr base) t ver ty cells xss
theorem OwnS.weak {H : List Blk} {N N' : Nat → Prop} {t : Nat} {c : AV} {xs : List Int} (h : OwnS H N t c xs) (hN : ∀ r, N r → r < H.length → N' r) : OwnS H N' t c xs := by
  rcases h with ⟨r, ver, ty, hc, h1, h2, h3⟩ | h
  · exact .inl ⟨r, ver, ty, hc, hN r h1 (List.getElem?_eq_some_iff.1 h3).1, h2, h3⟩
  · exact .inr h
theorem OwnC.weak {H : List Blk} {N N' : Nat → Prop} {t ver ty : Nat} {cells : List AV} {xss : List (List Int)} (h : OwnC H N t ver ty cells xss) (hN : ∀ r, N r → r < H.length → N' r) : OwnC H N' t ver ty cells xss := by
  obtain ⟨h1, h2, h3, h4, h5⟩ := h
  exact ⟨hN t h1 (List.getElem?_eq_some_iff.1 h2).1, h2, h3, fun j c xs g1 g2 => (h4 j c xs g1 g2).weak hN, h5⟩
theorem OwnSS.weak {H : List Blk} {N N' : Nat → Prop} {a : AV} {xss : List (List Int)} (h : OwnSS H N a xss) (hN : ∀ r, N r → r < H.length → N' r) : OwnSS H N' a xss := by
  rcases h with ⟨t, ver, ty, cells, ha, h⟩ | h
  · exact .inl ⟨t, ver, ty, cells, ha, h.weak hN⟩
  · exact .inr h
theorem GrowSS.own {H : List Blk} {base ty : Nat} {v : AV} {xss : List (List Int)} (h : GrowSS H base ty v xss) {b : Nat} (hb : b ≤ base) : OwnSS H (Btw b H.length) v xss := by
  rcases h with ⟨rfl, rfl⟩ | ⟨t, ver, cells, rfl, h⟩
  · exact .inr ⟨rfl, .inl rfl⟩
  · exact .inl ⟨t, ver, ty, cells, rfl, h.weak (fun r h1 h2 => ⟨by unfold Fr at h1; omega, h2⟩)⟩
theorem GrowSS.cell1 {H : List Blk} {base ty : Nat} {v : AV} {xss : List (List Int)} (h : GrowSS H base ty v xss) : v.cell1 = true := by
  rcases h with ⟨rfl, rfl⟩ | ⟨t, ver, cells, rfl, h⟩ <;> rfl
theorem GrowSS.parts {H : List Blk} {base ty : Nat} {v : AV} {xss : List (List Int)} (h : GrowSS H base ty v xss) : partsOf v = [v] := by
  rcases h with ⟨rfl, rfl⟩ | ⟨t, ver, cells, rfl, h⟩ <;> rfl
theorem OwnS.same {H H' : List Blk} {N : Nat → Prop} {t : Nat} {c : AV} {xs : List Int} (h : OwnS H N t c xs) (hs : ∀ j b, N j → j ≠ t → H[j]? = some b → H'[j]? = some b) : OwnS H' N t c xs := by
  rcases h with ⟨r, ver, ty, hc, h1, h2, h3⟩ | h
  · exact .inl ⟨r, ver, ty, hc, h1, h2, hs r _ h1 h2 h3⟩
  · exact .inr h
theorem GrowSS.same {H H' : List Blk} {base ty : Nat} {v : AV} {xss : List (List Int)} (h : GrowSS H base ty v xss) (hs : ∀ j b, base ≤ j → H[j]? = some b → H'[j]? = some b) : GrowSS H' base ty v xss := by
  rcases h with h | ⟨t, ver, cells, rfl, h1, h2, h3, h4, h5⟩
  · exact .inl h
  · exact .inr ⟨t, ver, cells, rfl, h1, hs t _ h1 h2, h3, fun j c xs g1 g2 => (h4 j c xs g1 g2).same (fun j b q _ => hs j b q), h5⟩
theorem OwnC.nm_lt {H : List Blk} {N : Nat → Prop} {t ver ty : Nat} {cells : List AV} {xss : List (List Int)} (h : OwnC H N t ver ty cells xss) {j r v o l : Nat} (hj : cells[j]? = some (.nm r v o l)) : r < H.length := by
  obtain ⟨h1, h2, h3, h4, h5⟩ := h
  have hlt := (List.getElem?_eq_some_iff.1 hj).1
  rcases h4 j _ _ hj (List.getElem?_eq_getElem (by omega)) with ⟨r', v', ty', hc, _, _, o3⟩ | ⟨_, hc | hc⟩
  · simp only [AV.nm.injEq] at hc
    rw [hc.1]; exact (List.getElem?_eq_some_iff.1 o3).1
  · simp [nilS] at hc
  · simp at hc
theorem OwnC.same {H H' : List Blk} {N : Nat → Prop} {t ver ty : Nat} {cells : List AV} {xss : List (List Int)} (h : OwnC H N t ver ty cells xss) (hs : ∀ j b, N j → H[j]? = some b → H'[j]? = some b) : OwnC H' N t ver ty cells xss := by
  obtain ⟨h1, h2, h3, h4, h5⟩ := h
  exact ⟨h1, hs t _ h1 h2, h3, fun j c xs g1 g2 => (h4 j c xs g1 g2).same (fun j b q _ => hs j b q), h5⟩
theorem OwnSS.same {H H' : List Blk} {N : Nat → Prop} {a : AV} {xss : List (List Int)} (h : OwnSS H N a xss) (hs : ∀ j b, N j → H[j]? = some b → H'[j]? = some b) : OwnSS H' N a xss := by
  rcases h with ⟨t, ver, ty, cells, ha, h⟩ | h
  · exact .inl ⟨t, ver, ty, cells, ha, h.same hs⟩
  · exact .inr h
theorem GrowSS.app {H : List Blk} {base ty rty : Nat} {v : AV} {xss : List (List Int)} {xs : List Int} (h : GrowSS H base ty v xss) (hb : base ≤ H.length) (hl : (xss.length + 1) * 24 ≤ 140737488355328)
    {K : AV → List Blk → Prop} (hk : ∀ v' H', GrowSS H' base ty v' (xss ++ [xs]) → H.length ≤ H'.length → (∀ j, j < base → H'[j]? = H[j]?) → K v' H') :
    swpApp ty 1 24 (H ++ [⟨0, rty, 1, xs.map I⟩, ⟨0, ty, 1, [.nm H.length 0 0 xs.length]⟩]) v (.nm (H.length + 1) 0 0 1) K := by
  have hrow : ∀ H' : List Blk, H'[H.length]? = some ⟨0, rty, 1, xs.map I⟩ → ∀ t, t ≠ H.length → OwnS H' (Fr base) t (.nm H.length 0 0 xs.length) xs := fun H' h t ht => .inl ⟨H.length, 0, rty, rfl, hb, fun e => ht e.symm, h⟩
  rcases h with ⟨rfl, rfl⟩ | ⟨t, ver, cells, rfl, hc⟩
  · simp only [swpApp, aview, hget, nilS]
    simp only [List.getElem?_cons_succ, List.getElem?_cons_zero, if_true, List.drop_zero]
    refine ⟨rfl, by simp [AV.cell1], by omega, by omega, hk _ _ (.inr ⟨H.length + 2, 1, [.nm H.length 0 0 xs.length], by simp, ?_⟩) (by simp) (fun j hj => ?_)⟩
    · refine ⟨show base ≤ H.length + 2 by omega, ?_, rfl, ?_, ?_⟩
      · simp
      · intro j c ys g1 g2
        cases j with
        | zero => simp at g1 g2; subst g1; subst g2; exact hrow _ (by simp) _ (by omega)
        | succ j => simp at g1
      · intro i j r v o l v' o' l' hij g1 g2
        cases i <;> cases j <;> simp at g1 g2 hij
    · rw [List.append_assoc, List.getElem?_append_left (by omega)]
  · obtain ⟨h1, h2, h3, h4, h5⟩ := id hc
    have htl := (List.getElem?_eq_some_iff.1 h2).1
    have h1' : base ≤ t := h1
    simp only [swpApp, aview, hget]
    simp only [List.getElem?_cons_succ, List.getElem?_cons_zero, if_true, List.drop_zero, List.getElem?_append_left htl, h2]
    refine ⟨rfl, by simp [AV.cell1], trivial, trivial, trivial, by omega, by omega, by omega, hk _ _ (.inr ⟨t, ver + 1, cells ++ [.nm H.length 0 0 xs.length], by simp, ?_⟩) (by simp) (fun j hj => ?_)⟩
    · refine ⟨h1, ?_, by simp [h3], ?_, ?_⟩
      · rw [List.getElem?_set_self (by simp; omega)]
        simp [← h3]
      · intro j c ys g1 g2
        by_cases hj : j < cells.length
        · rw [List.getElem?_append_left hj] at g1
          rw [List.getElem?_append_left (by omega)] at g2
          refine (h4 j c ys g1 g2).same ?_
          intro q b q1 q2 q3
          rw [List.getElem?_set_ne (Ne.symm q2), List.getElem?_append_left (List.getElem?_eq_some_iff.1 q3).1]; exact q3
        · rw [List.getElem?_append_right (by omega)] at g1 g2
          have hj' : j = cells.length := by
            have := (List.getElem?_eq_some_iff.1 g1).1
            simp at this; omega
          subst hj'
          rw [Nat.sub_self] at g1
          rw [h3, Nat.sub_self] at g2
          simp at g1 g2; subst g1; subst g2
          refine hrow _ ?_ _ (by omega)
          rw [List.getElem?_set_ne (by omega)]; simp
      · intro i j r v o l v' o' l' hij g1 g2
        by_cases hi : i < cells.length
        · rw [List.getElem?_append_left hi] at g1
          have hr := hc.nm_lt g1
          by_cases hj : j < cells.length
          · rw [List.getElem?_append_left hj] at g2
            exact h5 i j r v o l v' o' l' hij g1 g2
          · rw [List.getElem?_append_right (by omega)] at g2
            have hj' : j = cells.length := by
              have := (List.getElem?_eq_some_iff.1 g2).1
              simp at this; omega
            subst hj'
            simp at g2
            omega
        · rw [List.getElem?_append_right (by omega)] at g1
          have hi' : i = cells.length := by
            have := (List.getElem?_eq_some_iff.1 g1).1
            simp at this; omega
          subst hi'
          simp at g1
          by_cases hj : j < cells.length
          · rw [List.getElem?_append_left hj] at g2
            have hr := hc.nm_lt g2
            omega
          · rw [List.getElem?_append_right (by omega)] at g2
            have := (List.getElem?_eq_some_iff.1 g2).1
            simp at this; omega
    · rw [List.getElem?_set_ne (by omega), List.getElem?_append_left (by omega)]
end Go.Proofs.Ytnlfokkljgbaaaa
namespace Go.Proofs.Ytnlfokkljgbaaaa
open Go.Av
abbrev tyCover : Nat := 34
abbrev tySS : Nat := 29
def Bx (Hb : List Blk) (p : Nat) (hd : AV) (xss : List (List Int)) (H' : List Blk) : Prop :=
  ∃ v, H'[p]? = some ⟨0, tyCover, 1, [hd, v]⟩ ∧ GrowSS H' (p + 1) tySS v xss ∧ p + 1 ≤ H'.length ∧ ∀ j, j < p → H'[j]? = Hb[j]?
theorem Bx.put {Hb H3 : List Blk} {p : Nat} {hd v2 v3 : AV} {xss : List (List Int)} (d1 : GrowSS H3 (p + 1) tySS v3 xss) (d2 : p + 1 ≤ H3.length) (d3 : ∀ j, j < p → H3[j]? = Hb[j]?) : Bx Hb p hd xss (H3.set p ⟨0, tyCover, 1, setMany [hd, v2] 1 [v3]⟩) := by
  refine ⟨v3, List.getElem?_set_self (by omega), d1.same (fun j b h1 h2 => ?_), by simpa using d2, fun j hj => ?_⟩
  · rw [List.getElem?_set_ne (by omega)]; exact h2
  · rw [List.getElem?_set_ne (by omega)]; exact d3 j hj
end Go.Proofs.Ytnlfokkljgbaaaa
