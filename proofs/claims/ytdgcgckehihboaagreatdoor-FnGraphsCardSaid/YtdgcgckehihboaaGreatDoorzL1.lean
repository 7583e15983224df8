/- Slices of integers, read. -/
import Derived.Test.YtdgcgckehihboaaGreatDoorProg
import Derived.Test.YtdgcgckehihboaaGreatDoorzAvC
import Derived.KernelRfl
set_option linter.unusedSimpArgs false
set_option linter.unusedVariables false
set_option linter.unusedSectionVars false
set_option maxHeartbeats 4000000
set_option maxRecDepth 100000
namespace Go.Proofs.YtdgcgckehihboaaGreatDoor
variable [Go.Av.DoorC]
open Go.Av
abbrev RdS (H : List Blk) (a : AV) (xs : List Int) : Prop := aview H a = some (xs.length, xs.map I)
theorem rd_get (xs : List Int) {i : Nat} (h : i < xs.length) : (xs.map I)[i]? = some (I xs[i]) := by
  simp [List.getElem?_eq_getElem h]
section
variable {H : List Blk} {a : AV} {xs : List Int} {K : AV → List Blk → Prop}
theorem idx (ha : RdS H a xs) {i : Nat} (h : i < xs.length) : IaddrW 1 a (I i) H K = K (.el a i) H := by
  rw [IaddrW_of (n := 1) (H := H) (Kv := K) (i := i) ha]
  simp only [Int.toNat_natCast, Nat.mul_one]
  exact propext ⟨fun g => g.2.2, fun g => ⟨by omega, by omega, g⟩⟩
theorem ld (ha : RdS H a xs) {i : Nat} (h : i < xs.length) : acell1 H (.el a i) = some (I xs[i]) := by
  simp only [acell1, ha]
  exact rd_get xs h
end
theorem w64_succ {i n : Nat} (h : i < n) (hn : n ≤ 9223372036854775807) : w64 ((i : Int) + 1) = ((i + 1 : Nat) : Int) := by
  rw [w64_id (by omega) (by omega)]; omega
theorem RdS.append {H : List Blk} {a : AV} {xs : List Int} (h : RdS H a xs) (ext : List Blk) : RdS (H ++ ext) a xs := aview_append h ext
def RdSS (H : List Blk) (a : AV) (xss : List (List Int)) : Prop := ∃ cells, aview H a = some (xss.length, cells) ∧ cells.length = xss.length ∧ ∀ (j : Nat) (c : AV) (xs : List Int), cells[j]? = some c → xss[j]? = some xs → RdS H c xs
theorem RdSS.append {H : List Blk} {a : AV} {xss : List (List Int)} (h : RdSS H a xss) (ext : List Blk) : RdSS (H ++ ext) a xss := by
  obtain ⟨cells, h1, h2, h3⟩ := h
  exact ⟨cells, aview_append h1 ext, h2, fun j c xs g1 g2 => RdS.append (h3 j c xs g1 g2) ext⟩
section
variable {H : List Blk} {a : AV} {n : Nat} {cells : List AV} {K : AV → List Blk → Prop}
theorem view_nm {r ver ty : Nat} (h : H[r]? = some ⟨ver, ty, 1, cells⟩) (hn : cells.length = n) : aview H (.nm r ver 0 n) = some (n, cells) := by
  simp only [aview, h, if_true, List.drop_zero, Nat.mul_one]
  rw [← hn, List.take_length]
theorem store_nm {r ver ty : Nat} {c : AV} (h : H[r]? = some ⟨ver, ty, 1, cells⟩) {i : Nat} (hi : i < cells.length) : astore H [c] (.el (.nm r ver 0 n) i) = some (H.set r ⟨ver, ty, 1, cells.set i c⟩) := by
  simp only [astore, h, List.length_cons, List.length_nil, Nat.zero_add, setMany]
  rw [if_pos ⟨trivial, by omega⟩]
end
@[go_sem] theorem partsOf_I (n : Int) : partsOf (I n) = [I n] := (rfl)
@[go_sem] theorem cell1_I (n : Int) : (I n).cell1 = true := (rfl)
@[go_sem] theorem all_nil1 (f : AV → Bool) : ([] : List AV).all f = true := (rfl)
@[go_sem] theorem all_cons1 (f : AV → Bool) (c : AV) (cs : List AV) : (c :: cs).all f = (f c && cs.all f) := (rfl)
attribute [go_sem] Bool.and_true Bool.true_and
def ms (k : Int) (xs : List Int) (i : Nat) : List Int := (List.range i).map (fun (j : Nat) => k + (j : Int)) ++ xs.drop i
end Go.Proofs.YtdgcgckehihboaaGreatDoor
namespace Go.Proofs.YtdgcgckehihboaaGreatDoor
variable [Go.Av.DoorC]
open Go.Av
def OwnS (H : List Blk) (N : Nat → Prop) (t : Nat) (c : AV) (xs : List Int) : Prop :=
  (∃ r ver ty, c = .nm r ver 0 xs.length ∧ N r ∧ r ≠ t ∧ H[r]? = some ⟨ver, ty, 1, xs.map I⟩) ∨ (xs = [] ∧ (c = nilS ∨ c = .il 0 []))
def Fr (b : Nat) : Nat → Prop := fun r => b ≤ r
def Btw (b t : Nat) : Nat → Prop := fun r => b ≤ r ∧ r < t
def OwnC (H : List Blk) (N : Nat → Prop) (t ver ty : Nat) (cells : List AV) (xss : List (List Int)) : Prop :=
  N t ∧ H[t]? = some ⟨ver, ty, 1, cells⟩ ∧ cells.length = xss.length ∧ (∀ (j : Nat) (c : AV) (xs : List Int), cells[j]? = some c → xss[j]? = some xs → OwnS H N t c xs) ∧
  (∀ (i j r v o l v' o' l' : Nat), i ≠ j → cells[i]? = some (.nm r v o l) → cells[j]? ≠ some (.nm r v' o' l'))
def OwnSS (H : List Blk) (N : Nat → Prop) (a : AV) (xss : List (List Int)) : Prop := (∃ t ver ty cells, a = .nm t ver 0 xss.length ∧ OwnC H N t ver ty cells xss) ∨ (xss = [] ∧ (a = nilS ∨ a = .il 0 []))
theorem OwnS.rd {H : List Blk} {N : Nat → Prop} {t : Nat} {c : AV} {xs : List Int} (h : OwnS H N t c xs) : RdS H c xs := by
  rcases h with ⟨r, ver, ty, rfl, _, _, h3⟩ | ⟨rfl, rfl | rfl⟩
  · exact view_nm h3 (by simp)
  · rfl
  · rfl
theorem OwnC.rd {H : List Blk} {N : Nat → Prop} {t ver ty : Nat} {cells : List AV} {xss : List (List Int)} (h : OwnC H N t ver ty cells xss) : RdSS H (.nm t ver 0 xss.length) xss :=
  ⟨cells, view_nm h.2.1 h.2.2.1, h.2.2.1, fun j c xs g1 g2 => (h.2.2.2.1 j c xs g1 g2).rd⟩
theorem OwnSS.rd {H : List Blk} {N : Nat → Prop} {a : AV} {xss : List (List Int)} (h : OwnSS H N a xss) : RdSS H a xss := by
  rcases h with ⟨t, ver, ty, cells, rfl, h⟩ | ⟨rfl, rfl | rfl⟩
  · exact h.rd
  · exact ⟨[], rfl, rfl, fun j c xs h => by simp at h⟩
  · exact ⟨[], rfl, rfl, fun j c xs h => by simp at h⟩
theorem OwnC.append {H : List Blk} {N : Nat → Prop} {t ver ty : Nat} {cells : List AV} {xss : List (List Int)} (h : OwnC H N t ver ty cells xss) (ext : List Blk) : OwnC (H ++ ext) N t ver ty cells xss := by
  obtain ⟨h1, h2, h3, h4, h5⟩ := h
  have ap : ∀ {r : Nat} {b : Blk}, H[r]? = some b → (H ++ ext)[r]? = some b := by
    intro r b hr
    rw [List.getElem?_append_left (List.getElem?_eq_some_iff.1 hr).1]; exact hr
  refine ⟨h1, ap h2, h3, fun j c xs g1 g2 => ?_, h5⟩
  rcases h4 j c xs g1 g2 with ⟨r, v, ty', hc, o1, o2, o3⟩ | h
  · exact .inl ⟨r, v, ty', hc, o1, o2, ap o3⟩
  · exact .inr h
theorem OwnSS.append {H : List Blk} {N : Nat → Prop} {a : AV} {xss : List (List Int)} (h : OwnSS H N a xss) (ext : List Blk) : OwnSS (H ++ ext) N a xss := by
  rcases h with ⟨t, ver, ty, cells, ha, h⟩ | h
  · exact .inl ⟨t, ver, ty, cells, ha, h.append ext⟩
  · exact .inr h
theorem OwnC.set {H : List Blk} {N : Nat → Prop} {t ver ty : Nat} {cells : List AV} {xss yss : List (List Int)} (h : OwnC H N t ver ty cells xss) {i r v ty' : Nat} {xs ys : List Int} (hi : cells[i]? = some (.nm r v 0 xs.length)) (hx : xss[i]? = some xs) (hr : H[r]? = some ⟨v, ty', 1, xs.map I⟩)
    (hl : ys.length = xs.length) (hy : yss[i]? = some ys) (hyl : yss.length = xss.length) (hyo : ∀ j, j ≠ i → yss[j]? = xss[j]?) (hrt : r ≠ t) : OwnC (H.set r ⟨v, ty', 1, ys.map I⟩) N t ver ty cells yss := by
  obtain ⟨h1, h2, h3, h4, h5⟩ := h
  have hlt := (List.getElem?_eq_some_iff.1 hr).1
  refine ⟨h1, by rw [List.getElem?_set_ne hrt]; exact h2, by rw [h3, hyl], fun j c zs g1 g2 => ?_, h5⟩
  by_cases hji : j = i
  · subst hji
    rw [hi] at g1; cases g1
    rw [hy] at g2; cases g2
    rcases h4 j _ _ hi hx with ⟨r', v', ty2, hc, o1, o2, o3⟩ | ⟨_, hc | hc⟩
    · simp only [AV.nm.injEq] at hc
      obtain ⟨rfl, rfl, _⟩ := hc
      exact .inl ⟨r, v, ty', by rw [hl], o1, o2, List.getElem?_set_self hlt⟩
    · simp [nilS] at hc
    · simp at hc
  · rw [hyo j hji] at g2
    rcases h4 j c zs g1 g2 with ⟨r', v', ty2, hc, o1, o2, o3⟩ | h
    · refine .inl ⟨r', v', ty2, hc, o1, o2, ?_⟩
      have : r ≠ r' := by
        rintro rfl
        rw [hc] at g1
        exact h5 i j r v 0 xs.length v' 0 zs.length (Ne.symm hji) hi g1
      rw [List.getElem?_set_ne this]; exact o3
    · exact .inr h
def ilS (xs : List Int) : AV := .il xs.length (xs.map I)
def ilSS (xss : List (List Int)) : AV := .il xss.length (xss.map ilS)
theorem froz_I (H : List Blk) (base : Nat) (n : Int) : Froz H base (I n) (I n) := .old _ (.lit _)
theorem froz_row {H : List Blk} {base r ver ty : Nat} {xs : List Int} (hb : base ≤ r) (hr : H[r]? = some ⟨ver, ty, 1, xs.map I⟩) : Froz H base (.nm r ver 0 xs.length) (ilS xs) := by
  have hc : ((xs.map I).drop 0).take (xs.length * 1) = xs.map I := by rw [List.drop_zero, Nat.mul_one]; apply List.take_of_length_le; simp
  refine .nm r ver 0 xs.length _ _ hb hr rfl (by simp only [hc]) ?_
  intro j c c' h1 h2
  simp only [hc] at h1
  rw [h1] at h2; cases h2
  rw [List.getElem?_map] at h1
  cases hx : xs[j]? with
  | none => rw [hx] at h1; simp at h1
  | some x => rw [hx] at h1; simp at h1; rw [← h1]; exact froz_I _ _ _
theorem OwnS.froz {H : List Blk} {N : Nat → Prop} {base t : Nat} {c : AV} {xs : List Int} (h : OwnS H N t c xs) (hN : ∀ r, N r → base ≤ r) : Froz H base c (ilS xs) := by
  rcases h with ⟨r, ver, ty, rfl, h1, _, h3⟩ | ⟨rfl, rfl | rfl⟩
  · exact froz_row (hN _ h1) h3
  · exact .nil
  · exact .old _ (.il _ _ (fun c h => by simp at h))
theorem OwnSS.froz {H : List Blk} {N : Nat → Prop} {base : Nat} {a : AV} {xss : List (List Int)} (h : OwnSS H N a xss) (hN : ∀ r, N r → base ≤ r) : Froz H base a (ilSS xss) := by
  rcases h with ⟨t, ver, ty, cells, rfl, h1, h2, h3, h4, _⟩ | ⟨rfl, rfl | rfl⟩
  · have hc : (cells.drop 0).take (xss.length * 1) = cells := by rw [List.drop_zero, Nat.mul_one]; apply List.take_of_length_le; omega
    refine .nm t ver 0 xss.length _ _ (hN _ h1) h2 rfl (by simp only [hc, List.length_map]; exact h3.symm) ?_
    intro j c c' g1 g2
    simp only [hc] at g1
    rw [List.getElem?_map] at g2
    cases hx : xss[j]? with
    | none => rw [hx] at g2; simp at g2
    | some xs => rw [hx] at g2; simp at g2; rw [← g2]; exact (h4 j c xs g1 hx).froz hN
  · exact .nil
  · exact .old _ (.il _ _ (fun c h => by simp at h))
theorem rd_ilS (H : List Blk) (xs : List Int) : RdS H (ilS xs) xs := rfl
end Go.Proofs.YtdgcgckehihboaaGreatDoor
namespace Go.Proofs.YtdgcgckehihboaaGreatDoor
variable [Go.Av.DoorC]
open Go.Av
abbrev f_impl_within : Nat := 45
def c_impl_within : SC :=
 .seq (.reg [
     ⟨(some 6), .mv (.const (.bool false)), none⟩] [0, 1, 2])
 (.seq (.reg [
     ⟨(some 7), .mv (.tmp 0), none⟩,
     ⟨(some 8), .mv (.tmp 1), none⟩,
     ⟨(some 9), .bin .geq (.tmp 7) (.tmp 8), none⟩,
     ⟨(some 10), .mv (.tmp 9), none⟩,
     ⟨(some 11), .mv (.tmp 0), (some (10, true))⟩,
     ⟨(some 12), .mv (.tmp 2), (some (10, true))⟩,
     ⟨(some 13), .bin .leq (.tmp 11) (.tmp 12), (some (10, true))⟩,
     ⟨(some 14), .pick (.tmp 10) (.tmp 13) (.const (.bool false)), none⟩,
     ⟨(some 6), .mv (.tmp 14), none⟩] [6])
 (.ret))
theorem s_impl_within : stripF Tryz.prog 45 [[0, 1, 2], [6]] = some (c_impl_within, [.tmp 6], 15) := by kernel_rfl
abbrev f_spec_l00In : Nat := 50
def c_spec_l00In : SC :=
 .seq (.reg [
     ⟨(some 6), .mv (.const (.bool false)), none⟩] [0, 1, 2])
 (.seq (.reg [
     ⟨(some 7), .mv (.tmp 0), none⟩,
     ⟨(some 8), .mv (.tmp 1), none⟩,
     ⟨(some 9), .bin .geq (.tmp 7) (.tmp 8), none⟩,
     ⟨(some 10), .mv (.tmp 9), none⟩,
     ⟨(some 11), .mv (.tmp 0), (some (10, true))⟩,
     ⟨(some 12), .mv (.tmp 2), (some (10, true))⟩,
     ⟨(some 13), .bin .leq (.tmp 11) (.tmp 12), (some (10, true))⟩,
     ⟨(some 14), .pick (.tmp 10) (.tmp 13) (.const (.bool false)), none⟩,
     ⟨(some 6), .mv (.tmp 14), none⟩] [6])
 (.ret))
theorem s_spec_l00In : stripF Tryz.prog 50 [[0, 1, 2], [6]] = some (c_spec_l00In, [.tmp 6], 15) := by kernel_rfl
theorem within_ok (H : List Blk) (n lo hi : Int) : ACalls Tryz.prog f_impl_within [I n, I lo, I hi] H (fun r H' => r = Bv (decide (lo ≤ n) && decide (n ≤ hi)) ∧ H' = H) := by
  refine ACalls.intro s_impl_within (by simp) ?_
  refine SW.seq ?_; refine SW.row ?_; simp only [go_sem, Nat.reduceAdd, Nat.reduceEqDiff, Nat.reduceLeDiff, Nat.reduceMul, reduceIte, Nat.zero_ne_one, Nat.one_ne_zero, Nat.zero_add, Nat.add_zero, List.map_cons, List.map_nil, List.length_cons, List.length_nil, decide_true, decide_false, Bool.not_true, Bool.not_false, true_and, and_true, ne_eq, not_true_eq_false, not_false_eq_true, forall_const, List.getElem?_cons_zero, List.getElem?_cons_succ]
  refine SW.seq ?_; refine SW.row ?_; simp only [go_sem, Nat.reduceAdd, Nat.reduceEqDiff, Nat.reduceLeDiff, Nat.reduceMul, reduceIte, Nat.zero_ne_one, Nat.one_ne_zero, Nat.zero_add, Nat.add_zero, List.map_cons, List.map_nil, List.length_cons, List.length_nil, decide_true, decide_false, Bool.not_true, Bool.not_false, true_and, and_true, ne_eq, not_true_eq_false, not_false_eq_true, forall_const, List.getElem?_cons_zero, List.getElem?_cons_succ]
  refine ⟨fun h => ?_, fun h => ?_⟩
  · refine SW.ret ?_; (try simp only [go_sem]); refine FunPost.one (GR.of ?_); (try simp only [go_sem, Nat.reduceAdd, Nat.reduceEqDiff, Nat.reduceLeDiff, Nat.reduceMul, reduceIte, Nat.zero_ne_one, Nat.one_ne_zero, Nat.zero_add, Nat.add_zero, List.map_cons, List.map_nil, List.length_cons, List.length_nil, decide_true, decide_false, Bool.not_true, Bool.not_false, true_and, and_true, ne_eq, not_true_eq_false, not_false_eq_true, forall_const, List.getElem?_cons_zero, List.getElem?_cons_succ])
    rw [h]; simp [PickW]
  · refine SW.ret ?_; (try simp only [go_sem]); refine FunPost.one (GR.of ?_); (try simp only [go_sem, Nat.reduceAdd, Nat.reduceEqDiff, Nat.reduceLeDiff, Nat.reduceMul, reduceIte, Nat.zero_ne_one, Nat.one_ne_zero, Nat.zero_add, Nat.add_zero, List.map_cons, List.map_nil, List.length_cons, List.length_nil, decide_true, decide_false, Bool.not_true, Bool.not_false, true_and, and_true, ne_eq, not_true_eq_false, not_false_eq_true, forall_const, List.getElem?_cons_zero, List.getElem?_cons_succ])
    rw [h]; simp [PickW]
theorem l00In_ok (H : List Blk) (n lo hi : Int) : ACalls Tryz.prog f_spec_l00In [I n, I lo, I hi] H (fun r H' => r = Bv (decide (lo ≤ n) && decide (n ≤ hi)) ∧ H' = H) := by
  refine ACalls.intro s_spec_l00In (by simp) ?_
  refine SW.seq ?_; refine SW.row ?_; simp only [go_sem, Nat.reduceAdd, Nat.reduceEqDiff, Nat.reduceLeDiff, Nat.reduceMul, reduceIte, Nat.zero_ne_one, Nat.one_ne_zero, Nat.zero_add, Nat.add_zero, List.map_cons, List.map_nil, List.length_cons, List.length_nil, decide_true, decide_false, Bool.not_true, Bool.not_false, true_and, and_true, ne_eq, not_true_eq_false, not_false_eq_true, forall_const, List.getElem?_cons_zero, List.getElem?_cons_succ]
  refine SW.seq ?_; refine SW.row ?_; simp only [go_sem, Nat.reduceAdd, Nat.reduceEqDiff, Nat.reduceLeDiff, Nat.reduceMul, reduceIte, Nat.zero_ne_one, Nat.one_ne_zero, Nat.zero_add, Nat.add_zero, List.map_cons, List.map_nil, List.length_cons, List.length_nil, decide_true, decide_false, Bool.not_true, Bool.not_false, true_and, and_true, ne_eq, not_true_eq_false, not_false_eq_true, forall_const, List.getElem?_cons_zero, List.getElem?_cons_succ]
  refine ⟨fun h => ?_, fun h => ?_⟩
  · refine SW.ret ?_; (try simp only [go_sem]); refine FunPost.one (GR.of ?_); (try simp only [go_sem, Nat.reduceAdd, Nat.reduceEqDiff, Nat.reduceLeDiff, Nat.reduceMul, reduceIte, Nat.zero_ne_one, Nat.one_ne_zero, Nat.zero_add, Nat.add_zero, List.map_cons, List.map_nil, List.length_cons, List.length_nil, decide_true, decide_false, Bool.not_true, Bool.not_false, true_and, and_true, ne_eq, not_true_eq_false, not_false_eq_true, forall_const, List.getElem?_cons_zero, List.getElem?_cons_succ])
    rw [h]; simp
  · refine SW.ret ?_; (try simp only [go_sem]); refine FunPost.one (GR.of ?_); (try simp only [go_sem, Nat.reduceAdd, Nat.reduceEqDiff, Nat.reduceLeDiff, Nat.reduceMul, reduceIte, Nat.zero_ne_one, Nat.one_ne_zero, Nat.zero_add, Nat.add_zero, List.map_cons, List.map_nil, List.length_cons, List.length_nil, decide_true, decide_false, Bool.not_true, Bool.not_false, true_and, and_true, ne_eq, not_true_eq_false, not_false_eq_true, forall_const, List.getElem?_cons_zero, List.getElem?_cons_succ])
    rw [h]; simp
def GrowSS (H : List Blk) (base ty : Nat) (v : AV) (xss : List (List Int)) : Prop :=
  (v = nilS ∧ xss = []) ∨ ∃ t ver cells, v = .nm t ver 0 xss.length ∧ OwnC H (Fr base) t ver ty cells xss
theorem OwnS.weak {H : List Blk} {N N' : Nat → Prop} {t : Nat} {c : AV} {xs : List Int} (h : OwnS H N t c xs) (hN : ∀ r, N r → r < H.length → N' r) : OwnS H N' t c xs := by
  rcases h with ⟨r, ver, ty, hc, h1, h2, h3⟩ | h
  · exact .inl ⟨r, ver, ty, hc, hN r h1 (List.getElem?_eq_some_iff.1 h3).1, h2, h3⟩
  · exact .inr h
theorem OwnC.weak {H : List Blk} {N N' : Nat → Prop} {t ver ty : Nat} {cells : List AV} {xss : List (List Int)} (h : OwnC H N t ver ty cells xss) (hN : ∀ r, N r → r < H.length → N' r) : OwnC H N' t ver ty cells xss := by
  obtain ⟨h1, h2, h3, h4, h5⟩ := h
  exact ⟨hN t h1 (List.getElem?_eq_some_iff.1 h2).1, h2, h3, fun j c xs g1 g2 => (h4 j c xs g1 g2).weak hN, h5⟩
theorem OwnSS.weak {H : List Blk} {N N' : Nat → Prop} {a : AV} {xss : List (List Int)} (h : OwnSS H N a xss) (hN : ∀ r, N r → r < H.length → N' r) : OwnSS H N' a xss := by
  rcases h with ⟨t, ver, ty, cells, ha, h⟩ | h
  · exact .inl ⟨t, ver, ty, cells, ha, h.weak hN⟩
  · exact .inr h
theorem GrowSS.own {H : List Blk} {base ty : Nat} {v : AV} {xss : List (List Int)} (h : GrowSS H base ty v xss) {b : Nat} (hb : b ≤ base) : OwnSS H (Btw b H.length) v xss := by
  rcases h with ⟨rfl, rfl⟩ | ⟨t, ver, cells, rfl, h⟩
  · exact .inr ⟨rfl, .inl rfl⟩
  · exact .inl ⟨t, ver, ty, cells, rfl, h.weak (fun r h1 h2 => ⟨by unfold Fr at h1; omega, h2⟩)⟩
theorem GrowSS.cell1 {H : List Blk} {base ty : Nat} {v : AV} {xss : List (List Int)} (h : GrowSS H base ty v xss) : v.cell1 = true := by
  rcases h with ⟨rfl, rfl⟩ | ⟨t, ver, cells, rfl, h⟩ <;> rfl
theorem GrowSS.parts {H : List Blk} {base ty : Nat} {v : AV} {xss : List (List Int)} (h : GrowSS H base ty v xss) : partsOf v = [v] := by
  rcases h with ⟨rfl, rfl⟩ | ⟨t, ver, cells, rfl, h⟩ <;> rfl
theorem OwnS.same {H H' : List Blk} {N : Nat → Prop} {t : Nat} {c : AV} {xs : List Int} (h : OwnS H N t c xs) (hs : ∀ j b, N j → j ≠ t → H[j]? = some b → H'[j]? = some b) : OwnS H' N t c xs := by
  rcases h with ⟨r, ver, ty, hc, h1, h2, h3⟩ | h
  · exact .inl ⟨r, ver, ty, hc, h1, h2, hs r _ h1 h2 h3⟩
  · exact .inr h
theorem GrowSS.same {H H' : List Blk} {base ty : Nat} {v : AV} {xss : List (List Int)} (h : GrowSS H base ty v xss) (hs : ∀ j b, base ≤ j → H[j]? = some b → H'[j]? = some b) : GrowSS H' base ty v xss := by
  rcases h with h | ⟨t, ver, cells, rfl, h1, h2, h3, h4, h5⟩
  · exact .inl h
  · exact .inr ⟨t, ver, cells, rfl, h1, hs t _ h1 h2, h3, fun j c xs g1 g2 => (h4 j c xs g1 g2).same (fun j b q _ => hs j b q), h5⟩
theorem OwnC.nm_lt {H : List Blk} {N : Nat → Prop} {t ver ty : Nat} {cells : List AV} {xss : List (List Int)} (h : OwnC H N t ver ty cells xss) {j r v o l : Nat} (hj : cells[j]? = some (.nm r v o l)) : r < H.length := by
  obtain ⟨h1, h2, h3, h4, h5⟩ := h
  have hlt := (List.getElem?_eq_some_iff.1 hj).1
  rcases h4 j _ _ hj (List.getElem?_eq_getElem (by omega)) with ⟨r', v', ty', hc, _, _, o3⟩ | ⟨_, hc | hc⟩
  · simp only [AV.nm.injEq] at hc
    rw [hc.1]; exact (List.getElem?_eq_some_iff.1 o3).1
  · simp [nilS] at hc
  · simp at hc
theorem OwnC.same {H H' : List Blk} {N : Nat → Prop} {t ver ty : Nat} {cells : List AV} {xss : List (List Int)} (h : OwnC H N t ver ty cells xss) (hs : ∀ j b, N j → H[j]? = some b → H'[j]? = some b) : OwnC H' N t ver ty cells xss := by
  obtain ⟨h1, h2, h3, h4, h5⟩ := h
  exact ⟨h1, hs t _ h1 h2, h3, fun j c xs g1 g2 => (h4 j c xs g1 g2).same (fun j b q _ => hs j b q), h5⟩
theorem OwnSS.same {H H' : List Blk} {N : Nat → Prop} {a : AV} {xss : List (List Int)} (h : OwnSS H N a xss) (hs : ∀ j b, N j → H[j]? = some b → H'[j]? = some b) : OwnSS H' N a xss := by
  rcases h with ⟨t, ver, ty, cells, ha, h⟩ | h
  · exact .inl ⟨t, ver, ty, cells, ha, h.same hs⟩
  · exact .inr h
theorem GrowSS.app {H : List Blk} {base ty rty : Nat} {v : AV} {xss : List (List Int)} {xs : List Int} (h : GrowSS H base ty v xss) (hb : base ≤ H.length) (hl : (xss.length + 1) * 24 ≤ 140737488355328)
    {K : AV → List Blk → Prop} (hk : ∀ v' H', GrowSS H' base ty v' (xss ++ [xs]) → H.length ≤ H'.length → (∀ j, j < base → H'[j]? = H[j]?) → K v' H') :
    swpApp ty 1 24 (H ++ [⟨0, rty, 1, xs.map I⟩, ⟨0, ty, 1, [.nm H.length 0 0 xs.length]⟩]) v (.nm (H.length + 1) 0 0 1) K := by
  have hrow : ∀ H' : List Blk, H'[H.length]? = some ⟨0, rty, 1, xs.map I⟩ → ∀ t, t ≠ H.length → OwnS H' (Fr base) t (.nm H.length 0 0 xs.length) xs := fun H' h t ht => .inl ⟨H.length, 0, rty, rfl, hb, fun e => ht e.symm, h⟩
  rcases h with ⟨rfl, rfl⟩ | ⟨t, ver, cells, rfl, hc⟩
  · simp only [swpApp, aview, hget, nilS]
    simp only [List.getElem?_cons_succ, List.getElem?_cons_zero, if_true, List.drop_zero]
    refine ⟨rfl, by simp [AV.cell1], by omega, by omega, hk _ _ (.inr ⟨H.length + 2, 1, [.nm H.length 0 0 xs.length], by simp, ?_⟩) (by simp) (fun j hj => ?_)⟩
    · refine ⟨show base ≤ H.length + 2 by omega, ?_, rfl, ?_, ?_⟩
      · simp
      · intro j c ys g1 g2
        cases j with
        | zero => simp at g1 g2; subst g1; subst g2; exact hrow _ (by simp) _ (by omega)
        | succ j => simp at g1
      · intro i j r v o l v' o' l' hij g1 g2
        cases i <;> cases j <;> simp at g1 g2 hij
    · rw [List.append_assoc, List.getElem?_append_left (by omega)]
  · obtain ⟨h1, h2, h3, h4, h5⟩ := id hc
    have htl := (List.getElem?_eq_some_iff.1 h2).1
    have h1' : base ≤ t := h1
    simp only [swpApp, aview, hget]
    simp only [List.getElem?_cons_succ, List.getElem?_cons_zero, if_true, List.drop_zero, List.getElem?_append_left htl, h2]
    refine ⟨rfl, by simp [AV.cell1], trivial, trivial, trivial, by omega, by omega, by omega, hk _ _ (.inr ⟨t, ver + 1, cells ++ [.nm H.length 0 0 xs.length], by simp, ?_⟩) (by simp) (fun j hj => ?_)⟩
    · refine ⟨h1, ?_, by simp [h3], ?_, ?_⟩
      · rw [List.getElem?_set_self (by simp; omega)]
        simp [← h3]
      · intro j c ys g1 g2
        by_cases hj : j < cells.length
        · rw [List.getElem?_append_left hj] at g1
          rw [List.getElem?_append_left (by omega)] at g2
          refine (h4 j c ys g1 g2).same ?_
          intro q b q1 q2 q3
          rw [List.getElem?_set_ne (Ne.symm q2), List.getElem?_append_left (List.getElem?_eq_some_iff.1 q3).1]; exact q3
        · rw [List.getElem?_append_right (by omega)] at g1 g2
          have hj' : j = cells.length := by
            have := (List.getElem?_eq_some_iff.1 g1).1
            simp at this; omega
          subst hj'
          rw [Nat.sub_self] at g1
          rw [h3, Nat.sub_self] at g2
          simp at g1 g2; subst g1; subst g2
          refine hrow _ ?_ _ (by omega)
          rw [List.getElem?_set_ne (by omega)]; simp
      · intro i j r v o l v' o' l' hij g1 g2
        by_cases hi : i < cells.length
        · rw [List.getElem?_append_left hi] at g1
          have hr := hc.nm_lt g1
          by_cases hj : j < cells.length
          · rw [List.getElem?_append_left hj] at g2
            exact h5 i j r v o l v' o' l' hij g1 g2
          · rw [List.getElem?_append_right (by omega)] at g2
            have hj' : j = cells.length := by
              have := (List.getElem?_eq_some_iff.1 g2).1
              simp at this; omega
            subst hj'
            simp at g2
            omega
        · rw [List.getElem?_append_right (by omega)] at g1
          have hi' : i = cells.length := by
            have := (List.getElem?_eq_some_iff.1 g1).1
            simp at this; omega
          subst hi'
          simp at g1
          by_cases hj : j < cells.length
          · rw [List.getElem?_append_left hj] at g2
            have hr := hc.nm_lt g2
            omega
          · rw [List.getElem?_append_right (by omega)] at g2
            have := (List.getElem?_eq_some_iff.1 g2).1
            simp at this; omega
    · rw [List.getElem?_set_ne (by omega), List.getElem?_append_left (by omega)]
end Go.Proofs.YtdgcgckehihboaaGreatDoor
namespace Go.Proofs.YtdgcgckehihboaaGreatDoor
variable [Go.Av.DoorC]
open Go.Av
theorem prefix_of {H H' : List Blk} (hl : H.length ≤ H'.length) (h : ∀ j, j < H.length → H'[j]? = H[j]?) : ∃ ext, H' = H ++ ext := by
  refine ⟨H'.drop H.length, ?_⟩
  have : H'.take H.length = H := by
    apply List.ext_getElem?
    intro j
    by_cases hj : j < H.length
    · rw [List.getElem?_take_of_lt hj, h j hj]
    · rw [List.getElem?_eq_none (by simp; omega), List.getElem?_eq_none (by omega)]
  rw [← this, List.length_take, Nat.min_eq_left (by omega), List.take_append_drop]
end Go.Proofs.YtdgcgckehihboaaGreatDoor
namespace Go.Proofs.YtdgcgckehihboaaGreatDoor
variable [Go.Av.DoorC]
open Go.Av
def nmsB : Nat → List (List Int) → List AV
  | _, [] => []
  | k, xs :: r => .nm k 0 0 xs.length :: nmsB (k + 1) r
def rowsB (xss : List (List Int)) : List Blk := xss.map fun xs => ⟨0, 2, 1, xs.map I⟩
theorem nmsB_length (k : Nat) (xss : List (List Int)) : (nmsB k xss).length = xss.length := by
  induction xss generalizing k with
  | nil => rfl
  | cons xs r ih => simp [nmsB, ih]
theorem nmsB_get (k : Nat) (xss : List (List Int)) (j : Nat) : (nmsB k xss)[j]? = xss[j]?.map fun xs => .nm (k + j) 0 0 xs.length := by
  induction xss generalizing k j with
  | nil => simp [nmsB]
  | cons ys r ih =>
    cases j with
    | zero => simp [nmsB]
    | succ j => simp only [nmsB, List.getElem?_cons_succ, ih]; rw [show k + 1 + j = k + (j + 1) by omega]
theorem OwnC.names {H : List Blk} {ext : List Blk} {ver ty : Nat} (xss : List (List Int)) : OwnC (H ++ ⟨ver, ty, 1, nmsB (H.length + 1) xss⟩ :: (rowsB xss ++ ext)) (Btw H.length (H.length + 1 + xss.length)) H.length ver ty (nmsB (H.length + 1) xss) xss := by
  refine ⟨⟨by omega, by omega⟩, by simp, nmsB_length _ _, ?_, ?_⟩
  · intro j c xs h1 h2
    rw [nmsB_get, h2] at h1
    simp only [Option.map_some, Option.some.injEq] at h1
    subst h1
    have hlt := (List.getElem?_eq_some_iff.1 h2).1
    refine .inl ⟨_, 0, 2, rfl, ⟨by omega, by omega⟩, by omega, ?_⟩
    rw [show H.length + 1 + j = H.length + (j + 1) by omega, hget, List.getElem?_cons_succ, List.getElem?_append_left (by simpa [rowsB] using hlt)]
    simp [rowsB, h2]
  · intro i j r v o l v' o' l' hij h1 h2
    rw [nmsB_get] at h1 h2
    cases hi : xss[i]? with
    | none => rw [hi] at h1; simp at h1
    | some x =>
      cases hj : xss[j]? with
      | none => rw [hj] at h2; simp at h2
      | some y =>
        rw [hi] at h1; rw [hj] at h2
        simp at h1 h2
        omega
theorem _root_.Go.Av.ACalls.gr {P : Program} {f : FuncId} {args : List AV} {H : List Blk} {R0 R : AV → List Blk → Prop} (h : ACalls P f args H R0) (hg : ∀ r H', R0 r H' → GR H R r H') : ACalls P f args H R := by
  intro B W0 F m w vs h1 h2
  refine (h B W0 F m w vs h1 h2).mono ?_
  rintro e w' ⟨F', m', H', r, v, rfl, g2, g3, g4, g5, g6⟩
  obtain ⟨F2, m2, r2, H2, k1, k2, k3, k4, k5⟩ := hg r H' g6 B W0 F m w F' m' w' v h2 g2 g3 g4 g5
  exact ⟨F2, m2, H2, r2, v, rfl, k1, k2, k3, k4, k5⟩
end Go.Proofs.YtdgcgckehihboaaGreatDoor
namespace Go.Av
variable [Go.Av.DoorC]
section
variable {P : Program} {n k0 : Nat} {Q : SX → Env → List Blk → Prop} {E : Env} {H : List Blk}
theorem SW.seqM {x y : SC} (M : Env → List Blk → Prop) (h1 : SW P n k0 x (fun s E' H' => match s with | .nrm => M E' H' | s => Q s E' H') E H) (h2 : ∀ E' H', M E' H' → SW P n k0 y Q E' H') : SW P n k0 (.seq x y) Q E H := by
  refine SW.seq (SW.mono ?_ h1)
  intro s E' H' h
  cases s with
  | nrm => exact h2 _ _ h
  | ext id => exact h
  | ret => exact h
theorem SW.loopE {live : List Nat} {x : SC} (J : Env → List Blk → Nat → Env → List Blk → Prop) (k : Nat) (h : J (keep live E) H k (keep live E) H)
    (round : ∀ q E' H', J (keep live E) H q E' H' → SW P n k0 x (SLoop k0 live (J (keep live E) H) q Q) E' H') : SW P n k0 (.loop live x) Q E H := SW.loop (J (keep live E) H) k h round
theorem SW.condD {c : Operand} {x y : SC} {p : Prop} [Decidable p] (hc : ev (aget E) c = Bv (decide p)) (h1 : p → SW P n k0 x Q E H) (h2 : ¬ p → SW P n k0 y Q E H) : SW P n k0 (.cond c x y) Q E H :=
  SW.cond hc (fun h => h1 (of_decide_eq_true h)) (fun h => h2 (of_decide_eq_false h))
theorem SW.condN {c : Operand} {x y : SC} {p : Prop} [Decidable p] (hc : ev (aget E) c = Bv (!decide p)) (h1 : ¬ p → SW P n k0 x Q E H) (h2 : p → SW P n k0 y Q E H) : SW P n k0 (.cond c x y) Q E H :=
  SW.cond hc (fun h => h1 (by simpa using h)) (fun h => h2 (by simpa using h))
theorem SW.condB {c : Operand} {x y : SC} {b : Bool} (hc : ev (aget E) c = Bv b) (h1 : b = true → SW P n k0 x Q E H) (h2 : b = false → SW P n k0 y Q E H) : SW P n k0 (.cond c x y) Q E H := SW.cond hc h1 h2
theorem SW.condNB {c : Operand} {x y : SC} {b : Bool} (hc : ev (aget E) c = Bv (!b)) (h1 : b = false → SW P n k0 x Q E H) (h2 : b = true → SW P n k0 y Q E H) : SW P n k0 (.cond c x y) Q E H :=
  SW.cond hc (fun h => h1 (by simpa using h)) (fun h => h2 (by simpa using h))
theorem SW.condT {c : Operand} {x y : SC} (hc : ev (aget E) c = Bv true) (h1 : SW P n k0 x Q E H) : SW P n k0 (.cond c x y) Q E H :=
  SW.cond hc (fun _ => h1) (fun h => by cases h)
theorem SW.condF {c : Operand} {x y : SC} (hc : ev (aget E) c = Bv false) (h1 : SW P n k0 y Q E H) : SW P n k0 (.cond c x y) Q E H :=
  SW.cond hc (fun h => by cases h) (fun _ => h1)
end
def pushO (E : Env) : Option Nat → AV → Env
  | some k, v => (k, v) :: E
  | none, _ => E
def swpC (P : Program) : List SOper → Env → List Blk → (Env → List Blk → Prop) → Prop
  | [], E, H, K => K E H
  | ⟨d, op, none⟩ :: rest, E, H, K => swpOp P op (ev (aget E)) H fun v H' => swpC P rest (pushO E d v) H' K
  | ⟨d, op, some (t, want)⟩ :: rest, E, H, K => match aget E t with
    | .lit (.bool b) => GSplit b want (swpOp P op (ev (aget ((t, Bv want) :: E))) H fun v H' => swpC P rest (pushO ((t, Bv want) :: E) d v) H' K) (swpC P rest (pushO ((t, Bv (!want)) :: E) d (.lit undef)) H K)
    | .lit _ => swpC P rest (pushO E d (.lit undef)) H K
    | _ => False
theorem aget_pushO (E : Env) (d : Option Nat) (v : AV) : aget (pushO E d v) = updO (aget E) d v := by
  cases d with
  | none => rfl
  | some k => funext j; simp [pushO, aget, updO]
theorem swpC_ops {P : Program} {K : Env → List Blk → Prop} (hK : ∀ E E' H, aget E = aget E' → K E H → K E' H) : ∀ (l : List SOper) (E : Env) (H : List Blk), swpC P l E H K → swpOps P l E H K
  | [], E, H, h => h
  | ⟨d, op, none⟩ :: rest, E, H, h => by
    simp only [swpOps, aStepV, swpC] at h ⊢
    exact swpOp_mono (fun v H' g => swpOps_congr hK rest _ _ H' (by rw [aget_pushO, aget_aputO]) (swpC_ops hK rest _ _ g)) h
  | ⟨d, op, some (t, want)⟩ :: rest, E, H, h => by
    simp only [swpOps, aStepV]
    simp only [swpC] at h
    split at h
    · rename_i b hb
      simp only [hb]
      have same : ∀ x : Bool, b = x → aget ((t, Bv x) :: E) = aget E := by
        intro x hx
        funext j
        simp only [aget]
        split
        · rename_i hj; rw [hj, hb, hx]; rfl
        · rfl
      refine ⟨fun hw => ?_, fun hw => ?_⟩
      · have h1 := h.1 hw
        rw [same want hw] at h1
        refine swpOp_mono (fun v H' g => ?_) h1
        exact swpOps_congr hK rest _ _ H' (by rw [aget_pushO, aget_aputO, same want hw]) (swpC_ops hK rest _ _ g)
      · have hw' : b = !want := by cases b <;> cases want <;> simp_all
        exact swpOps_congr hK rest _ _ H (by rw [aget_pushO, aget_aputO, same _ hw']) (swpC_ops hK rest _ _ (h.2 hw'))
    · rename_i v hnb hv
      simp only [hv]
      cases v <;> first | exact swpOps_congr hK rest _ _ H (by rw [aget_pushO, aget_aputO]) (swpC_ops hK rest _ _ h) | exact absurd rfl (hnb _)
    · exact h.elim
theorem SW.rowC {P : Program} {n k0 : Nat} {Q : SX → Env → List Blk → Prop} {E : Env} {H : List Blk} {ops : List SOper} {live : List Nat} (h : swpC P ops E H (RK live Q)) : SW P n k0 (.reg ops live) Q E H :=
  SW.reg (swpC_ops (K := RK live Q) (fun E E' H he h => by unfold RK at h ⊢; rw [← keep_congr he]; exact h) ops E H h)
def OKp (P : Program) (rest : List SOper) (d : Option Nat) (E : Env) (K : Env → List Blk → Prop) (v : AV) (H : List Blk) : Prop := swpC P rest (pushO E d v) H K
def GuardC (P : Program) (rest : List SOper) (d : Option Nat) (op : SO) (t : Nat) (want : Bool) (E : Env) (H : List Blk) (K : Env → List Blk → Prop) : AV → Prop
  | .lit (.bool b) => GSplit b want (swpOp P op (ev (aget ((t, Bv want) :: E))) H (OKp P rest d ((t, Bv want) :: E) K)) (swpC P rest (pushO ((t, Bv (!want)) :: E) d (.lit undef)) H K)
  | .lit _ => swpC P rest (pushO E d (.lit undef)) H K
  | _ => False
section
variable (P : Program) (rest : List SOper) (d : Option Nat) (op : SO) (t k : Nat) (b want : Bool) (E : Env) (H : List Blk) (K : Env → List Blk → Prop) (v : AV)
@[go_sem] theorem swpC_nil : swpC P [] E H K = K E H := (rfl)
@[go_sem] theorem swpC_cons : swpC P (⟨d, op, none⟩ :: rest) E H K = swpOp P op (ev (aget E)) H (OKp P rest d E K) := (rfl)
@[go_sem] theorem swpC_guard : swpC P (⟨d, op, some (t, want)⟩ :: rest) E H K = GuardC P rest d op t want E H K (aget E t) := by
  simp only [swpC, GuardC]
  split <;> rfl
@[go_sem] theorem GuardC_bool : GuardC P rest d op t want E H K (Bv b) = GSplit b want (swpOp P op (ev (aget ((t, Bv want) :: E))) H (OKp P rest d ((t, Bv want) :: E) K)) (swpC P rest (pushO ((t, Bv (!want)) :: E) d (.lit undef)) H K) := (rfl)
@[go_sem] theorem GuardC_undef : GuardC P rest d op t want E H K (.lit undef) = swpC P rest (pushO E d (.lit undef)) H K := (rfl)
@[go_sem] theorem OKp_app : OKp P rest d E K v H = swpC P rest (pushO E d v) H K := (rfl)
@[go_sem] theorem pushO_some : pushO E (some k) v = (k, v) :: E := (rfl)
@[go_sem] theorem pushO_none : pushO E none v = E := (rfl)
end
section
variable {p q r : Prop} {b : Bool} [Decidable r]
theorem GSplit.df (h1 : ¬ r → p) (h2 : r → q) : GSplit (decide r) false p q := ⟨fun h => h1 (of_decide_eq_false h), fun h => h2 (of_decide_eq_true h)⟩
theorem GSplit.dt (h1 : r → p) (h2 : ¬ r → q) : GSplit (decide r) true p q := ⟨fun h => h1 (of_decide_eq_true h), fun h => h2 (of_decide_eq_false h)⟩
theorem GSplit.ndf (h1 : r → p) (h2 : ¬ r → q) : GSplit (!decide r) false p q := ⟨fun h => h1 (by simpa using h), fun h => h2 (by simpa using h)⟩
theorem GSplit.ndt (h1 : ¬ r → p) (h2 : r → q) : GSplit (!decide r) true p q := ⟨fun h => h1 (by simpa using h), fun h => h2 (by simpa using h)⟩
theorem GSplit.nbf (h1 : b = true → p) (h2 : b = false → q) : GSplit (!b) false p q := ⟨fun h => h1 (by simpa using h), fun h => h2 (by simpa using h)⟩
theorem GSplit.nbt (h1 : b = false → p) (h2 : b = true → q) : GSplit (!b) true p q := ⟨fun h => h1 (by simpa using h), fun h => h2 (by simpa using h)⟩
theorem GSplit.bf (h1 : b = false → p) (h2 : b = true → q) : GSplit b false p q := ⟨h1, h2⟩
theorem GSplit.bt (h1 : b = true → p) (h2 : b = false → q) : GSplit b true p q := ⟨h1, h2⟩
end
def EB (k : Nat) : Env → Prop
  | [] => True
  | (_, v) :: r => Bel k v ∧ EB k r
def BB (k : Nat) : List Blk → Prop
  | [] => True
  | b :: r => (∀ c ∈ b.cells, Bel k c) ∧ BB k r
def HB (H : List Blk) : Prop := ∀ b ∈ H, ∀ c ∈ b.cells, Bel H.length c
theorem EB.get {k : Nat} : ∀ {E : Env}, EB k E → ∀ j, Bel k (aget E j)
  | [], _, j => .junk
  | (i, v) :: r, h, j => by
    simp only [aget]
    split
    · exact h.1
    · exact EB.get h.2 j
theorem Bel.mono {k k' : Nat} {c : AV} (h : Bel k c) (hk : k ≤ k') : Bel k' c := by
  induction h with
  | lit v => exact .lit v
  | junk => exact .junk
  | il len cells _ ih => exact .il _ _ ih
  | nm i ver off len h => exact .nm _ _ _ _ (by omega)
  | pc i ver off h => exact .pc _ _ _ (by omega)
  | mp i ver h => exact .mp _ _ (by omega)
  | el s j _ ih => exact .el _ _ ih
  | agg cs _ ih => exact .agg _ ih
  | tup cs _ ih => exact .tup _ ih
  | fn f cs _ ih => exact .fn _ _ ih
theorem BB.all {k : Nat} : ∀ {bs : List Blk}, BB k bs → ∀ b ∈ bs, ∀ c ∈ b.cells, Bel k c
  | [], _, b, h => by simp at h
  | b :: r, h, b', hb => by
    rcases List.mem_cons.1 hb with rfl | hb
    · exact h.1
    · exact BB.all h.2 b' hb
theorem Bel_lit (k : Nat) (v : Value) : Bel k (.lit v) = True := eq_true (.lit v)
theorem Bel_I (k : Nat) (x : Int) : Bel k (I x) = True := eq_true (.lit _)
theorem Bel_Bv (k : Nat) (x : Bool) : Bel k (Bv x) = True := eq_true (.lit _)
theorem Bel_nil (k : Nat) : Bel k nilS = True := eq_true (.lit _)
theorem Bel_junk (k : Nat) : Bel k .junk = True := eq_true .junk
theorem Bel_nm (k i ver off len : Nat) : Bel k (.nm i ver off len) = (i < k) := propext ⟨fun h => by cases h; assumption, fun h => .nm _ _ _ _ h⟩
theorem Bel_mp (k i ver : Nat) : Bel k (.mp i ver) = (i < k) := propext ⟨fun h => by cases h; assumption, fun h => .mp _ _ h⟩
theorem Bel_pc (k i ver off : Nat) : Bel k (.pc i ver off) = (i < k) := propext ⟨fun h => by cases h; assumption, fun h => .pc _ _ _ h⟩
theorem Bel_il (k len : Nat) (cs : List AV) : Bel k (.il len cs) = ∀ c ∈ cs, Bel k c := propext ⟨fun h => by cases h; assumption, fun h => .il _ _ h⟩
theorem Bel_agg (k : Nat) (cs : List AV) : Bel k (.agg cs) = ∀ c ∈ cs, Bel k c := propext ⟨fun h => by cases h; assumption, fun h => .agg _ h⟩
theorem Bel_tup (k : Nat) (cs : List AV) : Bel k (.tup cs) = ∀ c ∈ cs, Bel k c := propext ⟨fun h => by cases h; assumption, fun h => .tup _ h⟩
theorem Bel_fn (k : Nat) (f : FuncId) (cs : List AV) : Bel k (.fn f cs) = ∀ c ∈ cs, Bel k c := propext ⟨fun h => by cases h; assumption, fun h => .fn _ _ h⟩
theorem Bel_el (k : Nat) (s : AV) (j : Nat) : Bel k (.el s j) = Bel k s := propext ⟨fun h => by cases h; assumption, fun h => .el _ _ h⟩
theorem all_mapI (k : Nat) (xs : List Int) : (∀ c ∈ xs.map I, Bel k c) = True := eq_true (by intro c h; obtain ⟨x, _, rfl⟩ := List.mem_map.1 h; exact .lit _)
theorem all_mapB (k : Nat) (xs : List Bool) : (∀ c ∈ xs.map Bv, Bel k c) = True := eq_true (by intro c h; obtain ⟨x, _, rfl⟩ := List.mem_map.1 h; exact .lit _)
theorem all_nilB (k : Nat) : (∀ c ∈ ([] : List AV), Bel k c) = True := eq_true (by intro c h; simp at h)
theorem all_consB (k : Nat) (c : AV) (cs : List AV) : (∀ d ∈ c :: cs, Bel k d) = (Bel k c ∧ ∀ d ∈ cs, Bel k d) := propext List.forall_mem_cons
theorem EB_nil (k : Nat) : EB k [] = True := rfl
theorem EB_cons (k j : Nat) (v : AV) (r : Env) : EB k ((j, v) :: r) = (Bel k v ∧ EB k r) := rfl
theorem BB_nil (k : Nat) : BB k [] = True := rfl
theorem BB_cons (k : Nat) (b : Blk) (r : List Blk) : BB k (b :: r) = ((∀ c ∈ b.cells, Bel k c) ∧ BB k r) := rfl
theorem HB.app {H bs : List Blk} {k : Nat} (h : HB H) (hb : BB k bs) (hk : k ≤ (H ++ bs).length) : HB (H ++ bs) := by
  intro b hb' c hc
  rcases List.mem_append.1 hb' with hm | hm
  · exact (h b hm c hc).mono (by simp)
  · exact (hb.all b hm c hc).mono hk
theorem SLoop.nextT {k0 : Nat} {live : List Nat} {I' : Nat → Env → List Blk → Prop} {k : Nat} {Q : SX → Env → List Blk → Prop} {E : Env} {H bs : List Blk} (j k' : Nat) (hB : HB H) (h0 : k0 ≤ H.length) (hk : k' < k) (hj : j ≤ bs.length)
    (hE : EB (H.length + j) (keep live E)) (hb : BB (H.length + j) (bs.take j)) (h : I' k' (keep live E) (H ++ bs.take j)) : SLoop k0 live I' k Q .nrm E (H ++ bs) := by
  have hl : (H ++ bs.take j).length = H.length + j := by simp; omega
  refine ⟨k', keep live E, H ++ bs.take j, hk, ?_, h⟩
  have := Gh.drop (k0 := k0) (E := keep live E) (H := H ++ bs.take j) (ext := bs.drop j) (by omega) (by rw [hl]; exact hE.get) (hB.app hb (by omega))
  rwa [List.append_assoc, List.take_append_drop] at this
theorem ACalls.introB {P : Program} {f : FuncId} {anns : List (List Nat)} {sc : SC} {rs : List RV} {n : Nat} (hs : stripF P f anns = some (sc, rs, n)) {args : List AV} {H : List Blk} {R : AV → List Blk → Prop} (hl : args.length ≤ n)
    (h : HB H → (∀ a ∈ args, Bel H.length a) → SW P n H.length sc (FunPost rs H R) (argEnv 0 args) H) : ACalls P f args H R := by
  intro B W0 F m w vs hr hsim
  have hA : ∀ a ∈ args, Bel H.length a := by
    intro a ha
    obtain ⟨i, hi⟩ := List.getElem?_of_mem ha
    have hlt : i < vs.length := by rw [← hr.1]; exact (List.getElem?_eq_some_iff.1 hi).1
    rw [← hsim.len]
    exact (hr.2 i a _ hi (List.getElem?_eq_getElem hlt)).bel
  exact ACalls.intro hs hl (h hsim.bel hA) B W0 F m w vs hr hsim
def PFn (P : Program) (f : FuncId) (args : List AV) (v : AV) : Prop := ∀ H, ACalls P f args H fun r H' => r = v ∧ H' = H
section
variable {P : Program} {f : FuncId} {args args' : List AV} {v : AV} {H : List Blk} {K : AV → List Blk → Prop}
theorem PFn.fn (h : PFn P f args v) (H : List Blk) : AFn P f args H v := fun ext => h _
theorem PFn.use (h : PFn P f args v) (hk : K v H) : ACalls P f args H K := ACalls.fn (h H) hk
theorem PFn.useq (h : PFn P f args v) (hk : K v H) : QcallW P f args H K := ⟨v, h.fn H, hk⟩
inductive Frozs (H : List Blk) : List AV → List AV → Prop
  | nil : Frozs H [] []
  | cons {a a' : AV} {l l' : List AV} (h : Froz H 0 a a') (hs : Frozs H l l') : Frozs H (a :: l) (a' :: l')
theorem Frozs.rels {B : Nat} {W0 : World} {F : Fz} {m : List Ent} {H : List Blk} {w : World} (hs : Sim B W0 F m H w) {l l' : List AV} (hf : Frozs H l l') : ∀ {vs : List Value}, Rels F m l vs →
    Rels (fun b o v => F b o v ∨ ((∃ i e, 0 ≤ i ∧ m[i]? = some e ∧ e.blk = some b) ∧ w.cell? ⟨b, o, none⟩ = some v)) (m.take 0) l' vs := by
  induction hf with
  | nil => intro vs hr; rw [hr.inv_nil]; exact Rels.nil _ _
  | cons h _ ih =>
    intro vs hr
    obtain ⟨u, us, rfl, h1, h2⟩ := hr.inv_cons
    exact Rels.cons (froz_rel hs h h1) (ih h2)
theorem PFn.lend {u : Value} (h : PFn P f args' (.lit u)) (hf : Frozs H args args') : ACalls P f args H fun r H' => r = .lit u ∧ H' = H := by
  intro B W0 F m w vs hr hs
  have hr2 := hf.rels hs hr
  rw [List.take_zero] at hr2
  have hs2 : Sim w.heap.size w (fun b o v => F b o v ∨ ((∃ i e, 0 ≤ i ∧ m[i]? = some e ∧ e.blk = some b) ∧ w.cell? ⟨b, o, none⟩ = some v)) [] [] w := by
    refine ⟨rfl, Blw.refl _ _, Nat.le_refl _, ?_, fun _ _ _ _ _ h => by simp at h, fun _ _ _ _ _ h => by simp at h, fun _ _ _ h => by simp at h, hs.glob.step hs.below hs.base⟩
    intro b o u hu
    rcases hu with hu | ⟨⟨i, e, _, he, hb⟩, hc⟩
    · exact hs.fz b o u hu
    · obtain ⟨k, hk, hok⟩ := hs.getm he
      exact ⟨hc, hok.one hb hc⟩
  refine (h [] w.heap.size w _ [] w vs hr2 hs2).mono ?_
  rintro e w' ⟨F', m', H', r, v, rfl, g1, g2, g3, g4, rfl, rfl⟩
  exact ⟨F, m, H, .lit u, v, rfl, FLe.refl _, MLe.refl _, by rw [g3.lit_inv]; exact .lit _, hs.world g4.below, rfl, rfl⟩
theorem Froz.append {H : List Blk} {b : Nat} {a a' : AV} (h : Froz H b a a') (ext : List Blk) : Froz (H ++ ext) b a a' := by
  induction h with
  | old c h => exact .old c h
  | nil => exact .nil
  | nm i ver off len k cs hi hk hv hl _ ih => exact .nm i ver off len k cs hi (by rw [List.getElem?_append_left (List.getElem?_eq_some_iff.1 hk).1]; exact hk) hv hl ih
  | agg cs cs' hl _ ih => exact .agg cs cs' hl ih
  | tup cs cs' hl _ ih => exact .tup cs cs' hl ih
theorem Frozs.append {H : List Blk} {l l' : List AV} (h : Frozs H l l') (ext : List Blk) : Frozs (H ++ ext) l l' := by
  induction h with
  | nil => exact .nil
  | cons h _ ih => exact .cons (h.append ext) ih
theorem PFn.uselq {u : Value} (h : PFn P f args' (.lit u)) (hf : Frozs H args args') (hk : K (.lit u) H) : QcallW P f args H K := ⟨_, fun ext => h.lend (hf.append ext), hk⟩
theorem Froz.I {H : List Blk} (n : Int) : Froz H 0 (I n) (I n) := .old _ (.lit _)
theorem Froz.B {H : List Blk} (n : Bool) : Froz H 0 (Bv n) (Bv n) := .old _ (.lit _)
end
def IaddrG (sz : Nat) (s : AV) (z : Int) (H : List Blk) (K : AV → List Blk → Prop) : Option (Nat × List AV) → Prop
  | some (n, _) => 0 ≤ z ∧ z < n ∧ K (.el s (z.toNat * sz)) H
  | none => False
def ElG (k : Nat) : Option (Nat × List AV) → Option AV
  | some (_, cells) => cells[k]?
  | none => none
def ElsG (k c : Nat) : Option (Nat × List AV) → Option (List AV)
  | some (_, cells) => if k + c ≤ cells.length then some ((cells.drop k).take c) else none
  | none => none
def ElV : Option (Nat × List AV) → Prop
  | some (n, _) => 0 < n
  | none => False
def AppX (ty sz bytes : Nat) (H : List Blk) (s : AV) (K : AV → List Blk → Prop) : Option (Nat × List AV) → Prop
  | some (n, xs) => xs.length = n * sz ∧ (∀ c ∈ xs, c.cell1 = true) ∧ match s with
    | .nm i ver 0 len => match H[i]? with
      | some k => k.ver = ver ∧ k.ty = ty ∧ k.sz = sz ∧ len * sz ≤ k.cells.length ∧ (len + n) * bytes ≤ 140737488355328 ∧ len + n ≤ 140737488355328 ∧
        K (.nm i (ver + 1) 0 (len + n)) (H.set i ⟨ver + 1, ty, sz, k.cells.take (len * sz) ++ xs⟩)
      | none => False
    | .lit (.slice none 0 0) => n * bytes ≤ 140737488355328 ∧ n ≤ 140737488355328 ∧ K (.nm H.length 1 0 n) (H ++ [⟨1, ty, sz, xs⟩])
    | _ => False
  | none => False
def AppN (ty sz bytes i ver len n : Nat) (xs : List AV) (H : List Blk) (K : AV → List Blk → Prop) : Option Blk → Prop
  | some k => k.ver = ver ∧ k.ty = ty ∧ k.sz = sz ∧ len * sz ≤ k.cells.length ∧ (len + n) * bytes ≤ 140737488355328 ∧ len + n ≤ 140737488355328 ∧
        K (.nm i (ver + 1) 0 (len + n)) (H.set i ⟨ver + 1, ty, sz, k.cells.take (len * sz) ++ xs⟩)
  | none => False
def SlcG (sz : Nat) (x : AV) (lo hi : Int) (H : List Blk) (K : AV → Prop) : Option (Nat × List AV) → Prop
  | some (n, cells) => 0 ≤ lo ∧ lo ≤ hi ∧ hi ≤ n ∧ (∀ i ver off len, x = .nm i ver off len → (H[i]?).map Blk.sz = some sz) ∧ K (match x with
      | .nm i ver off _ => if lo = 0 then .nm i ver off hi.toNat else if lo = hi then .il 0 [] else .nm i ver (off + lo.toNat * sz) (hi.toNat - lo.toNat)
      | _ => .il (hi.toNat - lo.toNat) ((cells.drop (lo.toNat * sz)).take ((hi.toNat - lo.toNat) * sz)))
  | none => False
section
variable (P : Program) (H bs : List Blk) (K : AV → List Blk → Prop) (Ks : AV → Prop) (s v : AV) (sz n k c j ver ty off len : Nat) (z : Int) (cells cs xs : List AV)
@[go_sem] theorem IaddrW_eq : IaddrW sz s (I z) H K = IaddrG sz s z H K (aview H s) := by
  simp only [IaddrW, I]
  cases aview H s <;> rfl
@[go_sem] theorem IaddrG_in (h0 : 0 ≤ z) (h1 : z < n) : IaddrG sz s z H K (some (n, cells)) = K (.el s (z.toNat * sz)) H := by
  simp [IaddrG, h0, h1]
@[go_sem] theorem acell1_el : acell1 H (.el s k) = ElG k (aview H s) := by
  simp only [acell1]
  cases aview H s <;> rfl
@[go_sem] theorem ElG_some : ElG k (some (n, cells)) = cells[k]? := rfl
@[go_sem] theorem acells_el : acells H c (.el s k) = ElsG k c (aview H s) := by
  simp only [acells]
  cases aview H s <;> rfl
@[go_sem] theorem ElsG_some (h : k + c ≤ cells.length) : ElsG k c (some (n, cells)) = some ((cells.drop k).take c) := by simp [ElsG, h]
@[go_sem] theorem alive_el : alive H (.el s k) = ElV (aview H s) := by
  simp only [alive]
  cases aview H s with
  | none => simp [ElV]
  | some p =>
    obtain ⟨a, b⟩ := p
    cases a <;> simp [ElV]
@[go_sem] theorem ElV_some (h : 0 < n) : ElV (some (n, cells)) = True := eq_true h
@[go_sem] theorem aview_il : aview H (.il n cells) = some (n, cells) := rfl
@[go_sem] theorem aview_nil : aview H nilS = some (0, []) := rfl
@[go_sem] theorem astore_own1 : astore (H ++ bs) cs (.el (.nm (H.length + j) ver off len) k) = PcS H bs j ver (off + k) cs bs[j]? := by
  simp only [astore, hget]
  cases bs[j]? <;> simp [PcS, hset]
@[go_sem] theorem astore_own10 : astore (H ++ bs) cs (.el (.nm H.length ver off len) k) = PcS H bs 0 ver (off + k) cs bs[0]? := astore_own1 H bs k 0 ver off len cs
@[go_sem] theorem PcG_in (h : k + c ≤ cells.length) : PcG ver k c (some ⟨ver, ty, sz, cells⟩) = some ((cells.drop k).take c) := by rw [PcG_some, if_pos h]
@[go_sem] theorem PcS_in (h : k + cs.length ≤ cells.length) : PcS H bs j ver k cs (some ⟨ver, ty, sz, cells⟩) = some (H ++ bs.set j ⟨ver, ty, sz, setMany cells k cs⟩) := by rw [PcS_some, if_pos h]
@[go_sem] theorem swpApp_eq (bytes : Nat) : swpApp ty sz bytes H s v K = AppX ty sz bytes H s K (aview H v) := by
  simp only [swpApp, AppX]
  cases aview H v with
  | none => rfl
  | some p => rfl
@[go_sem] theorem AppX_nm (bytes i : Nat) (h1 : xs.length = n * sz) (h2 : xs.all AV.cell1 = true) : AppX ty sz bytes H (.nm i ver 0 len) K (some (n, xs)) = AppN ty sz bytes i ver len n xs H K H[i]? := by
  replace h2 : ∀ c ∈ xs, c.cell1 = true := fun c hc => List.all_eq_true.1 h2 c hc
  simp only [AppX, AppN]
  rw [eq_true h1, eq_true h2]
  cases H[i]? <;> simp
@[go_sem] theorem AppX_nil (bytes : Nat) (h1 : xs.length = n * sz) (h2 : xs.all AV.cell1 = true) (h3 : n * bytes ≤ 140737488355328) (h4 : n ≤ 140737488355328) : AppX ty sz bytes H nilS K (some (n, xs)) = K (.nm H.length 1 0 n) (H ++ [⟨1, ty, sz, xs⟩]) := by
  replace h2 : ∀ c ∈ xs, c.cell1 = true := fun c hc => List.all_eq_true.1 h2 c hc
  simp only [AppX, nilS]
  rw [eq_true h1, eq_true h2, eq_true h3, eq_true h4]
  simp
@[go_sem] theorem AppN_in (bytes i : Nat) (h1 : len * sz ≤ cells.length) (h2 : (len + n) * bytes ≤ 140737488355328) (h3 : len + n ≤ 140737488355328) :
    AppN ty sz bytes i ver len n xs H K (some ⟨ver, ty, sz, cells⟩) = K (.nm i (ver + 1) 0 (len + n)) (H.set i ⟨ver + 1, ty, sz, cells.take (len * sz) ++ xs⟩) := by
  simp [AppN, h1, h2, h3]
@[go_sem] theorem swpSlc_00 : swpSlc sz H s none none Ks = match aview H s with | some (n, _) => SlcG sz s 0 n H Ks (aview H s) | none => False := by
  simp only [swpSlc, SlcG]
  cases aview H s with
  | none => rfl
  | some p => rfl
@[go_sem] theorem swpSlc_10 : swpSlc sz H s (some (I z)) none Ks = match aview H s with | some (n, _) => SlcG sz s z n H Ks (aview H s) | none => False := by
  simp only [swpSlc, SlcG, I]
  cases aview H s with
  | none => rfl
  | some p => rfl
@[go_sem] theorem swpSlc_01 : swpSlc sz H s none (some (I z)) Ks = SlcG sz s 0 z H Ks (aview H s) := by
  simp only [swpSlc, SlcG, I]
  cases aview H s with
  | none => rfl
  | some p => rfl
@[go_sem] theorem swpSlc_11 (y : Int) : swpSlc sz H s (some (I z)) (some (I y)) Ks = SlcG sz s z y H Ks (aview H s) := by
  simp only [swpSlc, SlcG, I]
  cases aview H s with
  | none => rfl
  | some p => rfl
@[go_sem] theorem SlcG_il (y : Int) (n' : Nat) (cells' : List AV) (h0 : 0 ≤ z) (h1 : z ≤ y) (h2 : y ≤ n) : SlcG sz (.il n' cells') z y H Ks (some (n, cells)) = Ks (.il (y.toNat - z.toNat) ((cells.drop (z.toNat * sz)).take ((y.toNat - z.toNat) * sz))) := by
  simp [SlcG, h0, h1, h2]
end
section
variable {i : Nat} (k : Nat)
@[go_sem] theorem getI {xs : List Int} (h : i < xs.length) : (xs.map I)[i]? = some (I (xs.getD i 0)) := by simp [List.getElem?_eq_getElem h]
@[go_sem] theorem getB {xs : List Bool} (h : i < xs.length) : (xs.map Bv)[i]? = some (Bv (xs.getD i false)) := by simp [List.getElem?_eq_getElem h]
@[go_sem] theorem setI (xs : List Int) (v : Int) : (xs.map I).set k (I v) = (xs.set k v).map I := by rw [List.map_set]
@[go_sem] theorem setB (xs : List Bool) (v : Bool) : (xs.map Bv).set k (Bv v) = (xs.set k v).map Bv := by rw [List.map_set]
theorem appI (xs : List Int) (v : Int) : xs.map I ++ [I v] = (xs ++ [v]).map I := by simp
theorem appB (xs : List Bool) (v : Bool) : xs.map Bv ++ [Bv v] = (xs ++ [v]).map Bv := by simp
@[go_sem] theorem appII (xs ys : List Int) : xs.map I ++ ys.map I = (xs ++ ys).map I := by simp
@[go_sem] theorem takeI (xs : List Int) : (xs.map I).take xs.length = xs.map I := List.take_of_length_le (by simp)
@[go_sem] theorem takeB (xs : List Bool) : (xs.map Bv).take xs.length = xs.map Bv := List.take_of_length_le (by simp)
theorem cast_succ (n : Nat) : (n : Int) + 1 = ((n + 1 : Nat) : Int) := rfl
end
attribute [go_sem] appI appB Int.toNat_natCast Nat.mul_one Nat.one_mul List.map_cons List.map_nil List.length_cons List.length_nil List.length_map List.length_set List.getElem?_cons_zero List.getElem?_cons_succ List.append_assoc List.cons_append List.nil_append List.length_append List.set_cons_zero List.set_cons_succ acell1_own acell1_own0 alive_own alive_own0 acells_own acells_own0 astore_own astore_own0 aview_own aview_own0 PcL_some PcV_some NmV_some setMany_nil setMany_cons partsOf_agg cell1_nm cell1_nil cell1_il cell1_Bv cell1_pc partsOf_nm partsOf_il partsOf_nil partsOf_Bv afill_nil afill_cons List.drop_zero List.drop_succ_cons List.take_succ_cons List.take_zero List.take_nil and_self Nat.le_refl hget hget0 hset hset0 Nat.zero_add Nat.add_zero decide_true decide_false Bool.not_true Bool.not_false true_and and_true ne_eq not_true_eq_false not_false_eq_true forall_const Nat.zero_ne_one Nat.one_ne_zero List.all_nil List.all_cons
end Go.Av
namespace Go.Proofs.YtdgcgckehihboaaGreatDoor
variable [Go.Av.DoorC]
open Go.Av
section
variable {H : List Blk} {i : Nat}
@[go_sem] theorem aview_ilS (xs : List Int) : aview H (ilS xs) = some (xs.length, xs.map I) := rfl
@[go_sem] theorem aview_ilSS (xss : List (List Int)) : aview H (ilSS xss) = some (xss.length, xss.map ilS) := rfl
@[go_sem] theorem getS {xss : List (List Int)} (h : i < xss.length) : (xss.map ilS)[i]? = some (ilS (xss.getD i [])) := by simp [List.getElem?_eq_getElem h]
@[go_sem] theorem setS (k : Nat) (xs : List (List Int)) (v : List Int) : (xs.map ilS).set k (ilS v) = (xs.set k v).map ilS := by rw [List.map_set]
@[go_sem] theorem appS (xs : List (List Int)) (v : List Int) : xs.map ilS ++ [ilS v] = (xs ++ [v]).map ilS := by simp
@[go_sem] theorem takeS (xs : List (List Int)) : (xs.map ilS).take xs.length = xs.map ilS := List.take_of_length_le (by simp)
@[go_sem] theorem cell1_ilS (xs : List Int) : (ilS xs).cell1 = true := rfl
@[go_sem] theorem cell1_ilSS (xs : List (List Int)) : (ilSS xs).cell1 = true := rfl
@[go_sem] theorem partsOf_ilS (xs : List Int) : partsOf (ilS xs) = [ilS xs] := rfl
@[go_sem] theorem partsOf_ilSS (xs : List (List Int)) : partsOf (ilSS xs) = [ilSS xs] := rfl
theorem Bel_ilS (k : Nat) (xs : List Int) : Bel k (ilS xs) = True := eq_true (.il _ _ (by rw [all_mapI]; trivial))
theorem all_mapS (k : Nat) (xs : List (List Int)) : (∀ c ∈ xs.map ilS, Bel k c) = True := eq_true (by intro c h; obtain ⟨x, _, rfl⟩ := List.mem_map.1 h; rw [Bel_ilS]; trivial)
theorem Bel_ilSS (k : Nat) (xs : List (List Int)) : Bel k (ilSS xs) = True := eq_true (.il _ _ (by rw [all_mapS]; trivial))
theorem slc_ilS (sz : Nat) (K : AV → Prop) (xs : List Int) (z y : Int) (h0 : 0 ≤ z) (h1 : z ≤ y) (h2 : y ≤ xs.length) : SlcG 1 (ilS xs) z y H K (some (xs.length, xs.map I)) = K (ilS ((xs.drop z.toNat).take (y.toNat - z.toNat))) := by
  unfold ilS
  rw [SlcG_il (h0 := h0) (h1 := h1) (h2 := h2)]
  simp only [Nat.mul_one, ← List.map_drop, ← List.map_take, List.length_take, List.length_drop]
  rw [Nat.min_eq_left (by omega)]
end
attribute [go_sem] slc_ilS
section
variable {H : List Blk} {b : Nat}
@[go_sem] theorem repB (k : Nat) (v : Bool) : List.replicate k (Bv v) = (List.replicate k v).map Bv := by rw [List.map_replicate]
@[go_sem] theorem allI1 (xs : List Int) : (xs.map I).all AV.cell1 = true := by rw [List.all_eq_true]; intro c hc; obtain ⟨x, _, rfl⟩ := List.mem_map.1 hc; rfl
@[go_sem] theorem allB1 (xs : List Bool) : (xs.map Bv).all AV.cell1 = true := by rw [List.all_eq_true]; intro c hc; obtain ⟨x, _, rfl⟩ := List.mem_map.1 hc; rfl
@[go_sem] theorem allS1 (xs : List (List Int)) : (xs.map ilS).all AV.cell1 = true := by rw [List.all_eq_true]; intro c hc; obtain ⟨x, _, rfl⟩ := List.mem_map.1 hc; rfl
@[go_sem] theorem repI (k : Nat) (v : Int) : List.replicate k (I v) = (List.replicate k v).map I := by rw [List.map_replicate]
theorem froz_own {e : Nat → AV} {r ver ty : Nat} {cs cs' : List AV} (hb : b ≤ r) (hr : H[r]? = some ⟨ver, ty, 1, cs⟩) (hl : cs'.length = cs.length) (h : ∀ (j : Nat) (c c' : AV), cs[j]? = some c → cs'[j]? = some c' → Froz H b c c') : Froz H b (.nm r ver 0 cs.length) (.il cs.length cs') := by
  refine .nm r ver 0 cs.length _ cs' hb hr rfl (by simp [hl]) ?_
  simp only [List.drop_zero, Nat.mul_one, List.take_length]
  exact h
theorem froz_rowI {r ver ty : Nat} {xs : List Int} (hb : b ≤ r) (hr : H[r]? = some ⟨ver, ty, 1, xs.map I⟩) : Froz H b (.nm r ver 0 xs.length) (ilS xs) := froz_row hb hr
theorem froz_2 {a a' c c' : AV} (h1 : Froz H b a a') (h2 : Froz H b c c') : ∀ (j : Nat) (x y : AV), [a, c][j]? = some x → [a', c'][j]? = some y → Froz H b x y := by
  intro j x y g1 g2
  match j with
  | 0 => simp at g1 g2; subst g1; subst g2; exact h1
  | 1 => simp at g1 g2; subst g1; subst g2; exact h2
  | j + 2 => simp at g1
theorem froz_tup2 {a a' c c' : AV} (h1 : Froz H b a a') (h2 : Froz H b c c') : Froz H b (.tup [a, c]) (.tup [a', c']) := .tup _ _ rfl (froz_2 h1 h2)
theorem froz_agg2 {a a' c c' : AV} (h1 : Froz H b a a') (h2 : Froz H b c c') : Froz H b (.agg [a, c]) (.agg [a', c']) := .agg _ _ rfl (froz_2 h1 h2)
theorem froz_I' (n : Int) : Froz H b (I n) (I n) := .old _ (.lit _)
theorem froz_B' (n : Bool) : Froz H b (Bv n) (Bv n) := .old _ (.lit _)
end
attribute [go_sem ↓] GSplit_t GSplit_f GSplit_tf GSplit_ft
attribute [go_sem] bne_self_eq_false beq_self_eq_true Bool.false_eq_true Bool.and_true Bool.true_and Bool.and_false Bool.false_and Bool.not_not
attribute [go_sem] Bel_lit Bel_I Bel_Bv Bel_nil Bel_junk Bel_nm Bel_mp Bel_pc Bel_il Bel_agg Bel_tup Bel_fn Bel_el all_mapI all_mapB all_mapS all_nilB all_consB EB_nil EB_cons BB_nil BB_cons Bel_ilS Bel_ilSS keep_nil keep_cons
end Go.Proofs.YtdgcgckehihboaaGreatDoor
