/- Slices of slices of the call's own: marked, held. -/
import Derived.Test.YtdgcgckehihboaaDoorL1
import Derived.Test.YtdgcgckehihboaaDoorAvC
set_option linter.unusedSimpArgs false
set_option linter.unusedVariables false
set_option maxHeartbeats 4000000
set_option maxRecDepth 100000
namespace Go.Proofs.YtdgcgckehihboaaDoor
open Go.Av

def OwnS (H : List Blk) (N : Nat → Prop) (t : Nat) (c : AV) (xs : List Int) : Prop :=
  (∃ r ver ty, c = .nm r ver 0 xs.length ∧ N r ∧ r ≠ t ∧ H[r]? = some ⟨ver, ty, 1, xs.map I⟩) ∨ (xs = [] ∧ (c = nilS ∨ c = .il 0 []))

/-- Names from b on. -/
def Fr (b : Nat) : Nat → Prop := fun r => b ≤ r
/-- Names from b on, below t. -/
def Btw (b t : Nat) : Nat → Prop := fun r => b ≤ r ∧ r < t

/-- Memory of the call's own: a slice of slices, no two of which share. -/
def OwnC (H : List Blk) (N : Nat → Prop) (t ver ty : Nat) (cells : List AV) (xss : List (List Int)) : Prop :=
  N t ∧ H[t]? = some ⟨ver, ty, 1, cells⟩ ∧ cells.length = xss.length ∧ (∀ (j : Nat) (c : AV) (xs : List Int), cells[j]? = some c → xss[j]? = some xs → OwnS H N t c xs) ∧
  (∀ (i j r v o l v' o' l' : Nat), i ≠ j → cells[i]? = some (.nm r v o l) → cells[j]? ≠ some (.nm r v' o' l'))

def OwnSS (H : List Blk) (N : Nat → Prop) (a : AV) (xss : List (List Int)) : Prop := (∃ t ver ty cells, a = .nm t ver 0 xss.length ∧ OwnC H N t ver ty cells xss) ∨ (xss = [] ∧ (a = nilS ∨ a = .il 0 []))

theorem OwnS.rd {H : List Blk} {N : Nat → Prop} {t : Nat} {c : AV} {xs : List Int} (h : OwnS H N t c xs) : RdS H c xs := by
  rcases h with ⟨r, ver, ty, rfl, _, _, h3⟩ | ⟨rfl, rfl | rfl⟩
  · exact view_nm h3 (by simp)
  · rfl
  · rfl

theorem OwnC.rd {H : List Blk} {N : Nat → Prop} {t ver ty : Nat} {cells : List AV} {xss : List (List Int)} (h : OwnC H N t ver ty cells xss) : RdSS H (.nm t ver 0 xss.length) xss :=
  ⟨cells, view_nm h.2.1 h.2.2.1, h.2.2.1, fun j c xs g1 g2 => (h.2.2.2.1 j c xs g1 g2).rd⟩

theorem OwnSS.rd {H : List Blk} {N : Nat → Prop} {a : AV} {xss : List (List Int)} (h : OwnSS H N a xss) : RdSS H a xss := by
  rcases h with ⟨t, ver, ty, cells, rfl, h⟩ | ⟨rfl, rfl | rfl⟩
  · exact h.rd
  · exact ⟨[], rfl, rfl, fun j c xs h => by simp at h⟩
  · exact ⟨[], rfl, rfl, fun j c xs h => by simp at h⟩

theorem OwnC.append {H : List Blk} {N : Nat → Prop} {t ver ty : Nat} {cells : List AV} {xss : List (List Int)} (h : OwnC H N t ver ty cells xss) (ext : List Blk) : OwnC (H ++ ext) N t ver ty cells xss := by
  obtain ⟨h1, h2, h3, h4, h5⟩ := h
  have ap : ∀ {r : Nat} {b : Blk}, H[r]? = some b → (H ++ ext)[r]? = some b := by
    intro r b hr
    rw [List.getElem?_append_left (List.getElem?_eq_some_iff.1 hr).1]; exact hr
  refine ⟨h1, ap h2, h3, fun j c xs g1 g2 => ?_, h5⟩
  rcases h4 j c xs g1 g2 with ⟨r, v, ty', hc, o1, o2, o3⟩ | h
  · exact .inl ⟨r, v, ty', hc, o1, o2, ap o3⟩
  · exact .inr h

theorem OwnSS.append {H : List Blk} {N : Nat → Prop} {a : AV} {xss : List (List Int)} (h : OwnSS H N a xss) (ext : List Blk) : OwnSS (H ++ ext) N a xss := by
  rcases h with ⟨t, ver, ty, cells, ha, h⟩ | h
  · exact .inl ⟨t, ver, ty, cells, ha, h.append ext⟩
  · exact .inr h

def total (xss : List (List Int)) : Nat := (xss.map List.length).sum

/-- Rows of numbers from k on. -/
def numbered (k : Int) : List (List Int) → List (List Int)
  | [] => []
  | xs :: r => (List.range xs.length).map (fun (q : Nat) => k + (q : Int)) :: numbered (k + xs.length) r

theorem numbered_length (k : Int) (xss : List (List Int)) : (numbered k xss).length = xss.length := by
  induction xss generalizing k with
  | nil => rfl
  | cons xs r ih => simp [numbered, ih]

theorem total_cons (xs : List Int) (r : List (List Int)) : total (xs :: r) = xs.length + total r := by simp [total]
theorem total_take_succ (xss : List (List Int)) {i : Nat} (h : i < xss.length) : total (xss.take (i + 1)) = total (xss.take i) + xss[i].length := by
  unfold total
  rw [List.take_add_one, List.getElem?_eq_getElem h, List.map_append, List.sum_append]
  simp
theorem total_take_le (xss : List (List Int)) (i : Nat) : total (xss.take i) ≤ total xss := by
  induction xss generalizing i with
  | nil => simp
  | cons xs r ih => cases i with
    | zero => simp [total]
    | succ i => simp only [List.take_succ_cons, total_cons]; have := ih i; omega

theorem numbered_get (k : Int) (xss : List (List Int)) {i : Nat} (h : i < xss.length) : (numbered k xss)[i]? = some ((List.range xss[i].length).map (fun (q : Nat) => (k + total (xss.take i)) + (q : Int))) := by
  induction xss generalizing k i with
  | nil => simp at h
  | cons xs r ih =>
    cases i with
    | zero => simp [numbered, total]
    | succ i =>
      simp only [List.length_cons] at h
      simp only [numbered, List.getElem?_cons_succ, List.getElem_cons_succ, List.take_succ_cons, total_cons]
      rw [ih (k + xs.length) (by omega)]
      have : k + (xs.length : Int) + (total (r.take i) : Int) = k + ((xs.length + total (r.take i) : Nat) : Int) := by omega
      rw [this]

/-- Behind i rounds: the first i rows are numbered. -/
def mss (k : Int) (xss : List (List Int)) (i : Nat) : List (List Int) := (numbered k xss).take i ++ xss.drop i
theorem mss_length (k : Int) (xss : List (List Int)) (i : Nat) : (mss k xss i).length = xss.length := by
  unfold mss; simp [numbered_length]; omega
theorem mss_get_lt (k : Int) (xss : List (List Int)) {i j : Nat} (h : j < i) : (mss k xss i)[j]? = (numbered k xss)[j]? := by
  unfold mss
  by_cases hj : j < xss.length
  · rw [List.getElem?_append_left (by simp [numbered_length]; omega), List.getElem?_take_of_lt h]
  · rw [List.getElem?_append_right (by simp [numbered_length]; omega), List.getElem?_eq_none (by simp [numbered_length]; omega), List.getElem?_eq_none (by rw [numbered_length]; omega)]
theorem mss_get_ge (k : Int) (xss : List (List Int)) {i j : Nat} (hi : i ≤ xss.length) (h : i ≤ j) : (mss k xss i)[j]? = xss[j]? := by
  unfold mss
  have hl : ((numbered k xss).take i).length = i := by simp [numbered_length]; omega
  rw [List.getElem?_append_right (by omega), List.getElem?_drop, hl]
  congr 1; omega

theorem markInt64S_nil (H : List Blk) (c : AV) (k : Int) (hc : aview H c = some (0, [])) :
    ACalls Tryd.prog f_laws_markInt64S [c, I k] H (fun v H' => v = I k ∧ H' = H) := by
  refine ACalls.intro s_laws_markInt64S (by simp) ?_
  refine SW.seq ?_; refine SW.row ?_; simp only [go_sem, Nat.reduceAdd, Nat.reduceEqDiff, Nat.reduceLeDiff, Nat.reduceMul, reduceIte, Nat.zero_ne_one, Nat.one_ne_zero, Nat.zero_add, Nat.add_zero, List.map_cons, List.map_nil, List.length_cons, List.length_nil, decide_true, decide_false, Bool.not_true, Bool.not_false, true_and, and_true, ne_eq, not_true_eq_false, not_false_eq_true, forall_const, List.getElem?_cons_zero, List.getElem?_cons_succ]
  refine SW.seq ?_; refine SW.seq ?_; refine SW.row ?_; simp only [go_sem, Nat.reduceAdd, Nat.reduceEqDiff, Nat.reduceLeDiff, Nat.reduceMul, reduceIte, Nat.zero_ne_one, Nat.one_ne_zero, Nat.zero_add, Nat.add_zero, List.map_cons, List.map_nil, List.length_cons, List.length_nil, decide_true, decide_false, Bool.not_true, Bool.not_false, true_and, and_true, ne_eq, not_true_eq_false, not_false_eq_true, forall_const, List.getElem?_cons_zero, List.getElem?_cons_succ]
  refine SW.block ?_
  refine SW.loop (fun q E H' => q = 0 ∧ E = [(0, c), (1, I k), (5, I 0)] ∧ H' = H) 0 ⟨rfl, rfl, rfl⟩ ?_
  rintro q E H' ⟨rfl, rfl, rfl⟩
  refine SW.seq ?_; refine SW.seq ?_; refine SW.row ?_; simp only [go_sem, Nat.reduceAdd, Nat.reduceEqDiff, Nat.reduceLeDiff, Nat.reduceMul, reduceIte, Nat.zero_ne_one, Nat.one_ne_zero, Nat.zero_add, Nat.add_zero, List.map_cons, List.map_nil, List.length_cons, List.length_nil, decide_true, decide_false, Bool.not_true, Bool.not_false, true_and, and_true, ne_eq, not_true_eq_false, not_false_eq_true, forall_const, List.getElem?_cons_zero, List.getElem?_cons_succ, hc]; (first | refine SW.cond rfl (fun h => ?_) (fun h => ?_) | (intro _; refine SW.cond rfl (fun h => ?_) (fun h => ?_)) | (intro _ _; refine SW.cond rfl (fun h => ?_) (fun h => ?_)))
  · simp at h
  · refine SW.exit ?_; simp only [go_sem, Nat.reduceAdd, Nat.reduceEqDiff, Nat.reduceLeDiff, Nat.reduceMul, reduceIte, Nat.zero_ne_one, Nat.one_ne_zero, Nat.zero_add, Nat.add_zero, List.map_cons, List.map_nil, List.length_cons, List.length_nil, decide_true, decide_false, Bool.not_true, Bool.not_false, true_and, and_true, ne_eq, not_true_eq_false, not_false_eq_true, forall_const, List.getElem?_cons_zero, List.getElem?_cons_succ]
    refine SW.seq ?_; refine SW.row ?_; simp only [go_sem, Nat.reduceAdd, Nat.reduceEqDiff, Nat.reduceLeDiff, Nat.reduceMul, reduceIte, Nat.zero_ne_one, Nat.one_ne_zero, Nat.zero_add, Nat.add_zero, List.map_cons, List.map_nil, List.length_cons, List.length_nil, decide_true, decide_false, Bool.not_true, Bool.not_false, true_and, and_true, ne_eq, not_true_eq_false, not_false_eq_true, forall_const, List.getElem?_cons_zero, List.getElem?_cons_succ]
    refine SW.ret ?_; (try simp only [go_sem]); refine FunPost.one (GR.of ?_); (try simp only [go_sem, Nat.reduceAdd, Nat.reduceEqDiff, Nat.reduceLeDiff, Nat.reduceMul, reduceIte, Nat.zero_ne_one, Nat.one_ne_zero, Nat.zero_add, Nat.add_zero, List.map_cons, List.map_nil, List.length_cons, List.length_nil, decide_true, decide_false, Bool.not_true, Bool.not_false, true_and, and_true, ne_eq, not_true_eq_false, not_false_eq_true, forall_const, List.getElem?_cons_zero, List.getElem?_cons_succ])

theorem OwnC.set {H : List Blk} {N : Nat → Prop} {t ver ty : Nat} {cells : List AV} {xss yss : List (List Int)} (h : OwnC H N t ver ty cells xss) {i r v ty' : Nat} {xs ys : List Int} (hi : cells[i]? = some (.nm r v 0 xs.length)) (hx : xss[i]? = some xs) (hr : H[r]? = some ⟨v, ty', 1, xs.map I⟩)
    (hl : ys.length = xs.length) (hy : yss[i]? = some ys) (hyl : yss.length = xss.length) (hyo : ∀ j, j ≠ i → yss[j]? = xss[j]?) (hrt : r ≠ t) : OwnC (H.set r ⟨v, ty', 1, ys.map I⟩) N t ver ty cells yss := by
  obtain ⟨h1, h2, h3, h4, h5⟩ := h
  have hlt := (List.getElem?_eq_some_iff.1 hr).1
  refine ⟨h1, by rw [List.getElem?_set_ne hrt]; exact h2, by rw [h3, hyl], fun j c zs g1 g2 => ?_, h5⟩
  by_cases hji : j = i
  · subst hji
    rw [hi] at g1; cases g1
    rw [hy] at g2; cases g2
    rcases h4 j _ _ hi hx with ⟨r', v', ty2, hc, o1, o2, o3⟩ | ⟨_, hc | hc⟩
    · simp only [AV.nm.injEq] at hc
      obtain ⟨rfl, rfl, _⟩ := hc
      exact .inl ⟨r, v, ty', by rw [hl], o1, o2, List.getElem?_set_self hlt⟩
    · simp [nilS] at hc
    · simp at hc
  · rw [hyo j hji] at g2
    rcases h4 j c zs g1 g2 with ⟨r', v', ty2, hc, o1, o2, o3⟩ | h
    · refine .inl ⟨r', v', ty2, hc, o1, o2, ?_⟩
      have : r ≠ r' := by
        rintro rfl
        rw [hc] at g1
        exact h5 i j r v 0 xs.length v' 0 zs.length (Ne.symm hji) hi g1
      rw [List.getElem?_set_ne this]; exact o3
    · exact .inr h

theorem numbered_all (k : Int) (xss : List (List Int)) {i : Nat} (h : i < xss.length) {cells : List AV} {H : List Blk} (hr : ∀ (j : Nat) (c : AV) (xs : List Int), cells[j]? = some c → (numbered k xss)[j]? = some xs → RdS H c xs) {c : AV} (hc : cells[i]? = some c) :
    RdS H c ((List.range xss[i].length).map (fun (q : Nat) => (k + total (xss.take i)) + (q : Int))) := hr i c _ hc (numbered_get k xss h)

/-! Told by their content. -/
def ilS (xs : List Int) : AV := .il xs.length (xs.map I)
def ilSS (xss : List (List Int)) : AV := .il xss.length (xss.map ilS)

theorem froz_I (H : List Blk) (base : Nat) (n : Int) : Froz H base (I n) (I n) := .old _ (.lit _)
theorem froz_Bv (H : List Blk) (base : Nat) (b : Bool) : Froz H base (Bv b) (Bv b) := .old _ (.lit _)

theorem froz_row {H : List Blk} {base r ver ty : Nat} {xs : List Int} (hb : base ≤ r) (hr : H[r]? = some ⟨ver, ty, 1, xs.map I⟩) : Froz H base (.nm r ver 0 xs.length) (ilS xs) := by
  have hc : ((xs.map I).drop 0).take (xs.length * 1) = xs.map I := by rw [List.drop_zero, Nat.mul_one]; apply List.take_of_length_le; simp
  refine .nm r ver 0 xs.length _ _ hb hr rfl (by simp only [hc]) ?_
  intro j c c' h1 h2
  simp only [hc] at h1
  rw [h1] at h2; cases h2
  rw [List.getElem?_map] at h1
  cases hx : xs[j]? with
  | none => rw [hx] at h1; simp at h1
  | some x => rw [hx] at h1; simp at h1; rw [← h1]; exact froz_I _ _ _

theorem OwnS.froz {H : List Blk} {N : Nat → Prop} {base t : Nat} {c : AV} {xs : List Int} (h : OwnS H N t c xs) (hN : ∀ r, N r → base ≤ r) : Froz H base c (ilS xs) := by
  rcases h with ⟨r, ver, ty, rfl, h1, _, h3⟩ | ⟨rfl, rfl | rfl⟩
  · exact froz_row (hN _ h1) h3
  · exact .nil
  · exact .old _ (.il _ _ (fun c h => by simp at h))

theorem OwnSS.froz {H : List Blk} {N : Nat → Prop} {base : Nat} {a : AV} {xss : List (List Int)} (h : OwnSS H N a xss) (hN : ∀ r, N r → base ≤ r) : Froz H base a (ilSS xss) := by
  rcases h with ⟨t, ver, ty, cells, rfl, h1, h2, h3, h4, _⟩ | ⟨rfl, rfl | rfl⟩
  · have hc : (cells.drop 0).take (xss.length * 1) = cells := by rw [List.drop_zero, Nat.mul_one]; apply List.take_of_length_le; omega
    refine .nm t ver 0 xss.length _ _ (hN _ h1) h2 rfl (by simp only [hc, List.length_map]; exact h3.symm) ?_
    intro j c c' g1 g2
    simp only [hc] at g1
    rw [List.getElem?_map] at g2
    cases hx : xss[j]? with
    | none => rw [hx] at g2; simp at g2
    | some xs => rw [hx] at g2; simp at g2; rw [← g2]; exact (h4 j c xs g1 hx).froz hN
  · exact .nil
  · exact .old _ (.il _ _ (fun c h => by simp at h))

theorem rd_ilS (H : List Blk) (xs : List Int) : RdS H (ilS xs) xs := rfl
theorem rd_ilSS (H : List Blk) (xss : List (List Int)) : RdSS H (ilSS xss) xss := by
  refine ⟨xss.map ilS, rfl, by simp, ?_⟩
  intro j c xs h1 h2
  rw [List.getElem?_map, h2] at h1
  simp at h1
  rw [← h1]; exact rd_ilS H xs
end Go.Proofs.YtdgcgckehihboaaDoor
