/- Slices of slices of the call's own: marked, held. -/
import Derived.Test.YtflnjgeoegofdaaProg
import Derived.KernelRfl
import Derived.Test.YtflnjgeoegofdaazL1
import Derived.Test.YtflnjgeoegofdaazAvC
set_option linter.unusedSimpArgs false
set_option linter.unusedVariables false
set_option maxHeartbeats 4000000
set_option maxRecDepth 100000
namespace Go.Proofs.Ytflnjgeoegofdaa
open Go.Av
abbrev f_laws_markInt64SS : Nat := 9
def c_laws_markInt64SS : SC :=
 .seq (.reg [
     ⟨(some 4), .mv (.const (.int .i64 0)), none⟩] [0, 1])
 (.seq (.seq (.reg [
     ⟨(some 5), .mv (.const (.int .i64 0)), none⟩] [0, 1, 5])
 (.block 0 (.loop [0, 1, 5]
   (.seq (.seq (.reg [
       ⟨(some 6), .mv (.tmp 5), none⟩,
       ⟨(some 7), .mv (.tmp 0), none⟩,
       ⟨(some 8), .len (.tmp 7), none⟩,
       ⟨(some 9), .bin .lss (.tmp 6) (.tmp 8), none⟩] [0, 1, 5, 9])
   (.cond (.tmp 9)
    (.skip)
    (.exit 0)))
   (.seq (.block 1 (.reg [
        ⟨(some 12), .mv (.tmp 0), none⟩,
        ⟨(some 13), .mv (.tmp 5), none⟩,
        ⟨(some 14), .iaddr 1 (.tmp 12) (.tmp 13), none⟩,
        ⟨(some 15), .load 1 false (.tmp 14), none⟩,
        ⟨(some 16), .mv (.tmp 1), none⟩,
        ⟨(some 17), .call 25 [(.tmp 15), (.tmp 16)], none⟩,
        ⟨(some 1), .mv (.tmp 17), none⟩] [0, 1, 5]))
   (.reg [
       ⟨(some 10), .mv (.tmp 5), none⟩,
       ⟨(some 11), .bin .add (.tmp 10) (.const (.int .i64 1)), none⟩,
       ⟨(some 5), .mv (.tmp 11), none⟩] [0, 1, 5]))))))
 (.seq (.reg [
     ⟨(some 18), .mv (.tmp 1), none⟩,
     ⟨(some 4), .mv (.tmp 18), none⟩] [4])
 (.ret)))
theorem s_laws_markInt64SS : stripF Try.prog 9 [[0, 1], [0, 1, 5], [0, 1, 5], [0, 1, 5, 9], [0, 1, 5], [0, 1, 5], [4]] = some (c_laws_markInt64SS, [.tmp 4], 19) := by kernel_rfl
abbrev f_laws_heldInt64SS : Nat := 10
def c_laws_heldInt64SS : SC :=
 .seq (.reg [
     ⟨(some 4), .mv (.const (.int .i64 0)), none⟩] [0, 1])
 (.seq (.seq (.reg [
     ⟨(some 5), .mv (.const (.int .i64 0)), none⟩] [0, 1, 5])
 (.block 0 (.loop [0, 1, 5]
   (.seq (.seq (.reg [
       ⟨(some 6), .mv (.tmp 5), none⟩,
       ⟨(some 7), .mv (.tmp 0), none⟩,
       ⟨(some 8), .len (.tmp 7), none⟩,
       ⟨(some 9), .bin .lss (.tmp 6) (.tmp 8), none⟩] [0, 1, 5, 9])
   (.cond (.tmp 9)
    (.skip)
    (.exit 0)))
   (.seq (.block 1 (.seq (.reg [
        ⟨(some 12), .mv (.tmp 0), none⟩,
        ⟨(some 13), .mv (.tmp 5), none⟩,
        ⟨(some 14), .iaddr 1 (.tmp 12) (.tmp 13), none⟩,
        ⟨(some 15), .load 1 false (.tmp 14), none⟩,
        ⟨(some 16), .mv (.tmp 1), none⟩,
        ⟨(some 17), .call 26 [(.tmp 15), (.tmp 16)], none⟩,
        ⟨(some 1), .mv (.tmp 17), none⟩] [0, 1, 5])
    (.seq (.reg [
        ⟨(some 18), .mv (.tmp 1), none⟩,
        ⟨(some 19), .bin .lss (.tmp 18) (.const (.int .i64 0)), none⟩] [0, 1, 5, 19])
    (.cond (.tmp 19)
     (.seq (.reg [
         ⟨(some 4), .mv (.const (.int .i64 (-1))), none⟩] [4])
     (.ret))
     (.skip)))))
   (.reg [
       ⟨(some 10), .mv (.tmp 5), none⟩,
       ⟨(some 11), .bin .add (.tmp 10) (.const (.int .i64 1)), none⟩,
       ⟨(some 5), .mv (.tmp 11), none⟩] [0, 1, 5]))))))
 (.seq (.reg [
     ⟨(some 20), .mv (.tmp 1), none⟩,
     ⟨(some 4), .mv (.tmp 20), none⟩] [4])
 (.ret)))
theorem s_laws_heldInt64SS : stripF Try.prog 10 [[0, 1], [0, 1, 5], [0, 1, 5], [0, 1, 5, 9], [0, 1, 5], [0, 1, 5, 19], [4], [0, 1, 5], [4]] = some (c_laws_heldInt64SS, [.tmp 4], 21) := by kernel_rfl
def OwnS (H : List Blk) (N : Nat → Prop) (t : Nat) (c : AV) (xs : List Int) : Prop :=
  (∃ r ver ty, c = .nm r ver 0 xs.length ∧ N r ∧ r ≠ t ∧ H[r]? = some ⟨ver, ty, 1, xs.map I⟩) ∨ (xs = [] ∧ (c = nilS ∨ c = .il 0 []))
def Fr (b : Nat) : Nat → Prop := fun r => b ≤ r
def Btw (b t : Nat) : Nat → Prop := fun r => b ≤ r ∧ r < t
def OwnC (H : List Blk) (N : Nat → Prop) (t ver ty : Nat) (cells : List AV) (xss : List (List Int)) : Prop :=
  N t ∧ H[t]? = some ⟨ver, ty, 1, cells⟩ ∧ cells.length = xss.length ∧ (∀ (j : Nat) (c : AV) (xs : List Int), cells[j]? = some c → xss[j]? = some xs → OwnS H N t c xs) ∧
  (∀ (i j r v o l v' o' l' : Nat), i ≠ j → cells[i]? = some (.nm r v o l) → cells[j]? ≠ some (.nm r v' o' l'))
def OwnSS (H : List Blk) (N : Nat → Prop) (a : AV) (xss : List (List Int)) : Prop := (∃ t ver ty cells, a = .nm t ver 0 xss.length ∧ OwnC H N t ver ty cells xss) ∨ (xss = [] ∧ (a = nilS ∨ a = .il 0 []))
theorem OwnS.rd {H : List Blk} {N : Nat → Prop} {t : Nat} {c : AV} {xs : List Int} (h : OwnS H N t c xs) : RdS H c xs := by
  rcases h with ⟨r, ver, ty, rfl, _, _, h3⟩ | ⟨rfl, rfl | rfl⟩
  · exact view_nm h3 (by simp)
  · rfl
  · rfl
theorem OwnC.rd {H : List Blk} {N : Nat → Prop} {t ver ty : Nat} {cells : List AV} {xss : List (List Int)} (h : OwnC H N t ver ty cells xss) : RdSS H (.nm t ver 0 xss.length) xss :=
  ⟨cells, view_nm h.2.1 h.2.2.1, h.2.2.1, fun j c xs g1 g2 => (h.2.2.2.1 j c xs g1 g2).rd⟩
theorem OwnSS.rd {H : List Blk} {N : Nat → Prop} {a : AV} {xss : List (List Int)} (h : OwnSS H N a xss) : RdSS H a xss := by
  rcases h with ⟨t, ver, ty, cells, rfl, h⟩ | ⟨rfl, rfl | rfl⟩
  · exact h.rd
  · exact ⟨[], rfl, rfl, fun j c xs h => by simp at h⟩
  · exact ⟨[], rfl, rfl, fun j c xs h => by simp at h⟩
theorem OwnC.append {H : List Blk} {N : Nat → Prop} {t ver ty : Nat} {cells : List AV} {xss : List (List Int)} (h : OwnC H N t ver ty cells xss) (ext : List Blk) : OwnC (H ++ ext) N t ver ty cells xss := by
  obtain ⟨h1, h2, h3, h4, h5⟩ := h
  have ap : ∀ {r : Nat} {b : Blk}, H[r]? = some b → (H ++ ext)[r]? = some b := by
    intro r b hr
    rw [List.getElem?_append_left (List.getElem?_eq_some_iff.1 hr).1]; exact hr
  refine ⟨h1, ap h2, h3, fun j c xs g1 g2 => ?_, h5⟩
  rcases h4 j c xs g1 g2 with ⟨r, v, ty', hc, o1, o2, o3⟩ | h
  · exact .inl ⟨r, v, ty', hc, o1, o2, ap o3⟩
  · exact .inr h
theorem OwnSS.append {H : List Blk} {N : Nat → Prop} {a : AV} {xss : List (List Int)} (h : OwnSS H N a xss) (ext : List Blk) : OwnSS (H ++ ext) N a xss := by
  rcases h with ⟨t, ver, ty, cells, ha, h⟩ | h
  · exact .inl ⟨t, ver, ty, cells, ha, h.append ext⟩
  · exact .inr h
def total (xss : List (List Int)) : Nat := (xss.map List.length).sum
def numbered (k : Int) : List (List Int) → List (List Int)
  | [] => []
  | xs :: r => (List.range xs.length).map (fun (q : Nat) => k + (q : Int)) :: numbered (k + xs.length) r
theorem numbered_length (k : Int) (xss : List (List Int)) : (numbered k xss).length = xss.length := by
  induction xss generalizing k with
  | nil => rfl
  | cons xs r ih => simp [numbered, ih]
theorem total_cons (xs : List Int) (r : List (List Int)) : total (xs :: r) = xs.length + total r := by simp [total]
theorem total_take_succ (xss : List (List Int)) {i : Nat} (h : i < xss.length) : total (xss.take (i + 1)) = total (xss.take i) + xss[i].length := by
  unfold total
  rw [List.take_add_one, List.getElem?_eq_getElem h, List.map_append, List.sum_append]
  simp
theorem total_take_le (xss : List (List Int)) (i : Nat) : total (xss.take i) ≤ total xss := by
  induction xss generalizing i with
  | nil => simp
  | cons xs r ih => cases i with
    | zero => simp [total]
    | succ i => simp only [List.take_succ_cons, total_cons]; have := ih i; omega
theorem numbered_get (k : Int) (xss : List (List Int)) {i : Nat} (h : i < xss.length) : (numbered k xss)[i]? = some ((List.range xss[i].length).map (fun (q : Nat) => (k + total (xss.take i)) + (q : Int))) := by
  induction xss generalizing k i with
  | nil => simp at h
  | cons xs r ih =>
    cases i with
    | zero => simp [numbered, total]
    | succ i =>
      simp only [List.length_cons] at h
      simp only [numbered, List.getElem?_cons_succ, List.getElem_cons_succ, List.take_succ_cons, total_cons]
      rw [ih (k + xs.length) (by omega)]
      have : k + (xs.length : Int) + (total (r.take i) : Int) = k + ((xs.length + total (r.take i) : Nat) : Int) := by omega
      rw [this]
def mss (k : Int) (xss : List (List Int)) (i : Nat) : List (List Int) := (numbered k xss).take i ++ xss.drop i
theorem mss_length (k : Int) (xss : List (List Int)) (i : Nat) : (mss k xss i).length = xss.length := by
  unfold mss; simp [numbered_length]; omega
theorem mss_get_lt (k : Int) (xss : List (List Int)) {i j : Nat} (h : j < i) : (mss k xss i)[j]? = (numbered k xss)[j]? := by
  unfold mss
  by_cases hj : j < xss.length
  · rw [List.getElem?_append_left (by simp [numbered_length]; omega), List.getElem?_take_of_lt h]
  · rw [List.getElem?_append_right (by simp [numbered_length]; omega), List.getElem?_eq_none (by simp [numbered_length]; omega), List.getElem?_eq_none (by rw [numbered_length]; omega)]
theorem mss_get_ge (k : Int) (xss : List (List Int)) {i j : Nat} (hi : i ≤ xss.length) (h : i ≤ j) : (mss k xss i)[j]? = xss[j]? := by
  unfold mss
  have hl : ((numbered k xss).take i).length = i := by simp [numbered_length]; omega
  rw [List.getElem?_append_right (by omega), List.getElem?_drop, hl]
  congr 1; omega
theorem markInt64S_nil (H : List Blk) (c : AV) (k : Int) (hc : aview H c = some (0, [])) :
    ACalls Try.prog f_laws_markInt64S [c, I k] H (fun v H' => v = I k ∧ H' = H) := by
  refine ACalls.intro s_laws_markInt64S (by simp) ?_
  refine SW.seq ?_; refine SW.row ?_; simp only [go_sem, Nat.reduceAdd, Nat.reduceEqDiff, Nat.reduceLeDiff, Nat.reduceMul, reduceIte, Nat.zero_ne_one, Nat.one_ne_zero, Nat.zero_add, Nat.add_zero, List.map_cons, List.map_nil, List.length_cons, List.length_nil, decide_true, decide_false, Bool.not_true, Bool.not_false, true_and, and_true, ne_eq, not_true_eq_false, not_false_eq_true, forall_const, List.getElem?_cons_zero, List.getElem?_cons_succ]
  refine SW.seq ?_; refine SW.seq ?_; refine SW.row ?_; simp only [go_sem, Nat.reduceAdd, Nat.reduceEqDiff, Nat.reduceLeDiff, Nat.reduceMul, reduceIte, Nat.zero_ne_one, Nat.one_ne_zero, Nat.zero_add, Nat.add_zero, List.map_cons, List.map_nil, List.length_cons, List.length_nil, decide_true, decide_false, Bool.not_true, Bool.not_false, true_and, and_true, ne_eq, not_true_eq_false, not_false_eq_true, forall_const, List.getElem?_cons_zero, List.getElem?_cons_succ]
  refine SW.block ?_
  refine SW.loop (fun q E H' => q = 0 ∧ E = [(0, c), (1, I k), (5, I 0)] ∧ H' = H) 0 ⟨rfl, rfl, rfl⟩ ?_
  rintro q E H' ⟨rfl, rfl, rfl⟩
  refine SW.seq ?_; refine SW.seq ?_; refine SW.row ?_; simp only [go_sem, Nat.reduceAdd, Nat.reduceEqDiff, Nat.reduceLeDiff, Nat.reduceMul, reduceIte, Nat.zero_ne_one, Nat.one_ne_zero, Nat.zero_add, Nat.add_zero, List.map_cons, List.map_nil, List.length_cons, List.length_nil, decide_true, decide_false, Bool.not_true, Bool.not_false, true_and, and_true, ne_eq, not_true_eq_false, not_false_eq_true, forall_const, List.getElem?_cons_zero, List.getElem?_cons_succ, hc]; (first | refine SW.cond rfl (fun h => ?_) (fun h => ?_) | (intro _; refine SW.cond rfl (fun h => ?_) (fun h => ?_)) | (intro _ _; refine SW.cond rfl (fun h => ?_) (fun h => ?_)))
  · simp at h
  · refine SW.exit ?_; simp only [go_sem, Nat.reduceAdd, Nat.reduceEqDiff, Nat.reduceLeDiff, Nat.reduceMul, reduceIte, Nat.zero_ne_one, Nat.one_ne_zero, Nat.zero_add, Nat.add_zero, List.map_cons, List.map_nil, List.length_cons, List.length_nil, decide_true, decide_false, Bool.not_true, Bool.not_false, true_and, and_true, ne_eq, not_true_eq_false, not_false_eq_true, forall_const, List.getElem?_cons_zero, List.getElem?_cons_succ]
    refine SW.seq ?_; refine SW.row ?_; simp only [go_sem, Nat.reduceAdd, Nat.reduceEqDiff, Nat.reduceLeDiff, Nat.reduceMul, reduceIte, Nat.zero_ne_one, Nat.one_ne_zero, Nat.zero_add, Nat.add_zero, List.map_cons, List.map_nil, List.length_cons, List.length_nil, decide_true, decide_false, Bool.not_true, Bool.not_false, true_and, and_true, ne_eq, not_true_eq_false, not_false_eq_true, forall_const, List.getElem?_cons_zero, List.getElem?_cons_succ]
    refine SW.ret ?_; (try simp only [go_sem]); refine FunPost.one (GR.of ?_); (try simp only [go_sem, Nat.reduceAdd, Nat.reduceEqDiff, Nat.reduceLeDiff, Nat.reduceMul, reduceIte, Nat.zero_ne_one, Nat.one_ne_zero, Nat.zero_add, Nat.add_zero, List.map_cons, List.map_nil, List.length_cons, List.length_nil, decide_true, decide_false, Bool.not_true, Bool.not_false, true_and, and_true, ne_eq, not_true_eq_false, not_false_eq_true, forall_const, List.getElem?_cons_zero, List.getElem?_cons_succ])
theorem OwnC.set {H : List Blk} {N : Nat → Prop} {t ver ty : Nat} {cells : List AV} {xss yss : List (List Int)} (h : OwnC H N t ver ty cells xss) {i r v ty' : Nat} {xs ys : List Int} (hi : cells[i]? = some (.nm r v 0 xs.length)) (hx : xss[i]? = some xs) (hr : H[r]? = some ⟨v, ty', 1, xs.map I⟩)
    (hl : ys.length = xs.length) (hy : yss[i]? = some ys) (hyl : yss.length = xss.length) (hyo : ∀ j, j ≠ i → yss[j]? = xss[j]?) (hrt : r ≠ t) : OwnC (H.set r ⟨v, ty', 1, ys.map I⟩) N t ver ty cells yss := by
  obtain ⟨h1, h2, h3, h4, h5⟩ := h
  have hlt := (List.getElem?_eq_some_iff.1 hr).1
  refine ⟨h1, by rw [List.getElem?_set_ne hrt]; exact h2, by rw [h3, hyl], fun j c zs g1 g2 => ?_, h5⟩
  by_cases hji : j = i
  · subst hji
    rw [hi] at g1; cases g1
    rw [hy] at g2; cases g2
    rcases h4 j _ _ hi hx with ⟨r', v', ty2, hc, o1, o2, o3⟩ | ⟨_, hc | hc⟩
    · simp only [AV.nm.injEq] at hc
      obtain ⟨rfl, rfl, _⟩ := hc
      exact .inl ⟨r, v, ty', by rw [hl], o1, o2, List.getElem?_set_self hlt⟩
    · simp [nilS] at hc
    · simp at hc
  · rw [hyo j hji] at g2
    rcases h4 j c zs g1 g2 with ⟨r', v', ty2, hc, o1, o2, o3⟩ | h
    · refine .inl ⟨r', v', ty2, hc, o1, o2, ?_⟩
      have : r ≠ r' := by
        rintro rfl
        rw [hc] at g1
        exact h5 i j r v 0 xs.length v' 0 zs.length (Ne.symm hji) hi g1
      rw [List.getElem?_set_ne this]; exact o3
    · exact .inr h
theorem markInt64SS_ok (H : List Blk) (N : Nat → Prop) (a : AV) (xss : List (List Int)) (k : Int) (ha : OwnSS H N a xss) (hk0 : 0 ≤ k) (hk : k + total xss ≤ 4611686018427387904) :
    ACalls Try.prog f_laws_markInt64SS [a, I k] H (fun v H' => v = I (k + total xss) ∧ OwnSS H' N a (numbered k xss) ∧ H'.length = H.length ∧ ∀ j, ¬ N j → H'[j]? = H[j]?) := by
  rcases ha with ⟨t, ver, ty, cells, rfl, hown⟩ | ⟨rfl, hnil⟩
  case inr =>
    have hv : aview H a = some (0, []) := by rcases hnil with rfl | rfl <;> rfl
    refine ACalls.intro s_laws_markInt64SS (by simp) ?_
    refine SW.seq ?_; refine SW.row ?_; simp only [go_sem, Nat.reduceAdd, Nat.reduceEqDiff, Nat.reduceLeDiff, Nat.reduceMul, reduceIte, Nat.zero_ne_one, Nat.one_ne_zero, Nat.zero_add, Nat.add_zero, List.map_cons, List.map_nil, List.length_cons, List.length_nil, decide_true, decide_false, Bool.not_true, Bool.not_false, true_and, and_true, ne_eq, not_true_eq_false, not_false_eq_true, forall_const, List.getElem?_cons_zero, List.getElem?_cons_succ]
    refine SW.seq ?_; refine SW.seq ?_; refine SW.row ?_; simp only [go_sem, Nat.reduceAdd, Nat.reduceEqDiff, Nat.reduceLeDiff, Nat.reduceMul, reduceIte, Nat.zero_ne_one, Nat.one_ne_zero, Nat.zero_add, Nat.add_zero, List.map_cons, List.map_nil, List.length_cons, List.length_nil, decide_true, decide_false, Bool.not_true, Bool.not_false, true_and, and_true, ne_eq, not_true_eq_false, not_false_eq_true, forall_const, List.getElem?_cons_zero, List.getElem?_cons_succ]
    refine SW.block ?_
    refine SW.loop (fun q E H' => q = 0 ∧ E = [(0, a), (1, I k), (5, I 0)] ∧ H' = H) 0 ⟨rfl, rfl, rfl⟩ ?_
    rintro q E H' ⟨rfl, rfl, rfl⟩
    refine SW.seq ?_; refine SW.seq ?_; refine SW.row ?_; simp only [go_sem, Nat.reduceAdd, Nat.reduceEqDiff, Nat.reduceLeDiff, Nat.reduceMul, reduceIte, Nat.zero_ne_one, Nat.one_ne_zero, Nat.zero_add, Nat.add_zero, List.map_cons, List.map_nil, List.length_cons, List.length_nil, decide_true, decide_false, Bool.not_true, Bool.not_false, true_and, and_true, ne_eq, not_true_eq_false, not_false_eq_true, forall_const, List.getElem?_cons_zero, List.getElem?_cons_succ, hv]; (first | refine SW.cond rfl (fun h => ?_) (fun h => ?_) | (intro _; refine SW.cond rfl (fun h => ?_) (fun h => ?_)) | (intro _ _; refine SW.cond rfl (fun h => ?_) (fun h => ?_)))
    · simp at h
    · refine SW.exit ?_; simp only [go_sem, Nat.reduceAdd, Nat.reduceEqDiff, Nat.reduceLeDiff, Nat.reduceMul, reduceIte, Nat.zero_ne_one, Nat.one_ne_zero, Nat.zero_add, Nat.add_zero, List.map_cons, List.map_nil, List.length_cons, List.length_nil, decide_true, decide_false, Bool.not_true, Bool.not_false, true_and, and_true, ne_eq, not_true_eq_false, not_false_eq_true, forall_const, List.getElem?_cons_zero, List.getElem?_cons_succ]
      refine SW.seq ?_; refine SW.row ?_; simp only [go_sem, Nat.reduceAdd, Nat.reduceEqDiff, Nat.reduceLeDiff, Nat.reduceMul, reduceIte, Nat.zero_ne_one, Nat.one_ne_zero, Nat.zero_add, Nat.add_zero, List.map_cons, List.map_nil, List.length_cons, List.length_nil, decide_true, decide_false, Bool.not_true, Bool.not_false, true_and, and_true, ne_eq, not_true_eq_false, not_false_eq_true, forall_const, List.getElem?_cons_zero, List.getElem?_cons_succ]
      refine SW.ret ?_
      refine FunPost.one (GR.of ?_)
      exact ⟨by simp [aget, total], .inr ⟨rfl, hnil⟩, rfl, fun _ _ => rfl⟩
  refine ACalls.intro s_laws_markInt64SS (by simp) ?_
  refine SW.seq ?_; refine SW.row ?_; simp only [go_sem, Nat.reduceAdd, Nat.reduceEqDiff, Nat.reduceLeDiff, Nat.reduceMul, reduceIte, Nat.zero_ne_one, Nat.one_ne_zero, Nat.zero_add, Nat.add_zero, List.map_cons, List.map_nil, List.length_cons, List.length_nil, decide_true, decide_false, Bool.not_true, Bool.not_false, true_and, and_true, ne_eq, not_true_eq_false, not_false_eq_true, forall_const, List.getElem?_cons_zero, List.getElem?_cons_succ]
  refine SW.seq ?_; refine SW.seq ?_; refine SW.row ?_; simp only [go_sem, Nat.reduceAdd, Nat.reduceEqDiff, Nat.reduceLeDiff, Nat.reduceMul, reduceIte, Nat.zero_ne_one, Nat.one_ne_zero, Nat.zero_add, Nat.add_zero, List.map_cons, List.map_nil, List.length_cons, List.length_nil, decide_true, decide_false, Bool.not_true, Bool.not_false, true_and, and_true, ne_eq, not_true_eq_false, not_false_eq_true, forall_const, List.getElem?_cons_zero, List.getElem?_cons_succ]
  refine SW.block ?_
  refine SW.loop (fun q E H' => ∃ i : Nat, i ≤ xss.length ∧ q = xss.length - i ∧ E = [(0, .nm t ver 0 xss.length), (1, I (k + total (xss.take i))), (5, I i)] ∧ OwnC H' N t ver ty cells (mss k xss i) ∧ H'.length = H.length ∧ ∀ j, ¬ N j → H'[j]? = H[j]?) xss.length
    ⟨0, by omega, by omega, by simp [total]; rfl, by simpa [mss] using hown, rfl, fun _ _ => rfl⟩ ?_
  rintro q E H' ⟨i, hi, rfl, rfl, hc, hlen, hold⟩
  have hv : aview H' (.nm t ver 0 xss.length) = some (xss.length, cells) := view_nm hc.2.1 (by rw [hc.2.2.1, mss_length])
  have hcl : cells.length = xss.length := by rw [hc.2.2.1, mss_length]
  refine SW.seq ?_; refine SW.seq ?_; refine SW.row ?_; simp only [go_sem, Nat.reduceAdd, Nat.reduceEqDiff, Nat.reduceLeDiff, Nat.reduceMul, reduceIte, Nat.zero_ne_one, Nat.one_ne_zero, Nat.zero_add, Nat.add_zero, List.map_cons, List.map_nil, List.length_cons, List.length_nil, decide_true, decide_false, Bool.not_true, Bool.not_false, true_and, and_true, ne_eq, not_true_eq_false, not_false_eq_true, forall_const, List.getElem?_cons_zero, List.getElem?_cons_succ, hv]; (first | refine SW.cond rfl (fun h => ?_) (fun h => ?_) | (intro _; refine SW.cond rfl (fun h => ?_) (fun h => ?_)) | (intro _ _; refine SW.cond rfl (fun h => ?_) (fun h => ?_)))
  · have hx : i < xss.length := by simpa using h
    have hci : cells[i]? = some cells[i] := List.getElem?_eq_getElem (by omega)
    have hxi : (mss k xss i)[i]? = some xss[i] := by rw [mss_get_ge k xss (by omega) (Nat.le_refl _), List.getElem?_eq_getElem hx]
    have htot := total_take_succ xss hx
    have htl := total_take_le xss (i + 1)
    have hni := numbered_get k xss hx
    have hmi : (mss k xss (i + 1))[i]? = some ((List.range xss[i].length).map (fun (q : Nat) => (k + total (xss.take i)) + (q : Int))) := by
      rw [mss_get_lt k xss (Nat.lt_succ_self i), hni]
    have hmo : ∀ j, j ≠ i → (mss k xss (i + 1))[j]? = (mss k xss i)[j]? := by
      intro j hj
      by_cases hji : j < i
      · rw [mss_get_lt k xss (by omega), mss_get_lt k xss hji]
      · rw [mss_get_ge k xss (by omega) (by omega), mss_get_ge k xss (by omega) (by omega)]
    refine SW.skip ?_; simp only [go_sem, Nat.reduceAdd, Nat.reduceEqDiff, Nat.reduceLeDiff, Nat.reduceMul, reduceIte, Nat.zero_ne_one, Nat.one_ne_zero, Nat.zero_add, Nat.add_zero, List.map_cons, List.map_nil, List.length_cons, List.length_nil, decide_true, decide_false, Bool.not_true, Bool.not_false, true_and, and_true, ne_eq, not_true_eq_false, not_false_eq_true, forall_const, List.getElem?_cons_zero, List.getElem?_cons_succ]
    refine SW.seq ?_; refine SW.block ?_; refine SW.row ?_; simp only [go_sem, Nat.reduceAdd, Nat.reduceEqDiff, Nat.reduceLeDiff, Nat.reduceMul, reduceIte, Nat.zero_ne_one, Nat.one_ne_zero, Nat.zero_add, Nat.add_zero, List.map_cons, List.map_nil, List.length_cons, List.length_nil, decide_true, decide_false, Bool.not_true, Bool.not_false, true_and, and_true, ne_eq, not_true_eq_false, not_false_eq_true, forall_const, List.getElem?_cons_zero, List.getElem?_cons_succ, idxc hv hx, ldc hv hci]
    refine ACalls.mono (R := fun v H2 => v = I (k + total (xss.take i) + xss[i].length) ∧ OwnC H2 N t ver ty cells (mss k xss (i + 1)) ∧ H2.length = H.length ∧ ∀ j, ¬ N j → H2[j]? = H[j]?) ?_ ?_
    · rcases hc.2.2.2.1 i _ _ hci hxi with ⟨r, v, ty', hcc, o1, o2, o3⟩ | ⟨hnil, hcc⟩
      · rw [hcc]
        refine (markInt64S_ok H' r v ty' xss[i] _ o3 (by omega) (by omega)).mono ?_
        rintro v2 H2 ⟨rfl, rfl⟩
        refine ⟨rfl, ?_, by simp [hlen], ?_⟩
        · exact hc.set (by rw [← hcc]; exact hci) hxi o3 (by simp) hmi (by rw [mss_length, mss_length]) hmo o2
        · intro j hj
          rw [List.getElem?_set_ne (by rintro rfl; exact hj o1)]; exact hold j hj
      · refine (markInt64S_nil H' _ _ (by rcases hcc with hcc | hcc <;> rw [hcc] <;> rfl)).mono ?_
        rintro v2 H2 ⟨rfl, rfl⟩
        refine ⟨by rw [hnil]; simp, ?_, hlen, hold⟩
        have : mss k xss (i + 1) = mss k xss i := by
          apply List.ext_getElem?
          intro j
          by_cases hj : j = i
          · subst hj; rw [hmi, hxi, hnil]; rfl
          · exact hmo j hj
        rw [this]; exact hc
    · rintro v H2 ⟨rfl, g1, g2, g3⟩
      simp only [go_sem, Nat.reduceAdd, Nat.reduceEqDiff, Nat.reduceLeDiff, Nat.reduceMul, reduceIte, Nat.zero_ne_one, Nat.one_ne_zero, Nat.zero_add, Nat.add_zero, List.map_cons, List.map_nil, List.length_cons, List.length_nil, decide_true, decide_false, Bool.not_true, Bool.not_false, true_and, and_true, ne_eq, not_true_eq_false, not_false_eq_true, forall_const, List.getElem?_cons_zero, List.getElem?_cons_succ]
      refine SW.row ?_; simp only [go_sem, Nat.reduceAdd, Nat.reduceEqDiff, Nat.reduceLeDiff, Nat.reduceMul, reduceIte, Nat.zero_ne_one, Nat.one_ne_zero, Nat.zero_add, Nat.add_zero, List.map_cons, List.map_nil, List.length_cons, List.length_nil, decide_true, decide_false, Bool.not_true, Bool.not_false, true_and, and_true, ne_eq, not_true_eq_false, not_false_eq_true, forall_const, List.getElem?_cons_zero, List.getElem?_cons_succ, w64_id (show -9223372036854775808 ≤ (i : Int) + 1 by omega) (show (i : Int) + 1 ≤ 9223372036854775807 by have := hcl; omega)]
      refine SLoop.next (xss.length - (i + 1)) (by omega) ⟨i + 1, by omega, rfl, ?_, g1, g2, g3⟩
      simp only [go_sem, Nat.reduceAdd, Nat.reduceEqDiff, Nat.reduceLeDiff, Nat.reduceMul, reduceIte, Nat.zero_ne_one, Nat.one_ne_zero, Nat.zero_add, Nat.add_zero, List.map_cons, List.map_nil, List.length_cons, List.length_nil, decide_true, decide_false, Bool.not_true, Bool.not_false, true_and, and_true, ne_eq, not_true_eq_false, not_false_eq_true, forall_const, List.getElem?_cons_zero, List.getElem?_cons_succ]
      rw [htot, Int.natCast_add, ← Int.add_assoc, Int.natCast_add]; rfl
  · have hx : i = xss.length := by
      have : ¬ i < xss.length := by simpa using h
      omega
    subst hx
    refine SW.exit ?_; simp only [go_sem, Nat.reduceAdd, Nat.reduceEqDiff, Nat.reduceLeDiff, Nat.reduceMul, reduceIte, Nat.zero_ne_one, Nat.one_ne_zero, Nat.zero_add, Nat.add_zero, List.map_cons, List.map_nil, List.length_cons, List.length_nil, decide_true, decide_false, Bool.not_true, Bool.not_false, true_and, and_true, ne_eq, not_true_eq_false, not_false_eq_true, forall_const, List.getElem?_cons_zero, List.getElem?_cons_succ]
    refine SW.seq ?_; refine SW.row ?_; simp only [go_sem, Nat.reduceAdd, Nat.reduceEqDiff, Nat.reduceLeDiff, Nat.reduceMul, reduceIte, Nat.zero_ne_one, Nat.one_ne_zero, Nat.zero_add, Nat.add_zero, List.map_cons, List.map_nil, List.length_cons, List.length_nil, decide_true, decide_false, Bool.not_true, Bool.not_false, true_and, and_true, ne_eq, not_true_eq_false, not_false_eq_true, forall_const, List.getElem?_cons_zero, List.getElem?_cons_succ]
    refine SW.ret ?_
    refine FunPost.one (GR.of ?_)
    refine ⟨by simp [aget], .inl ⟨t, ver, ty, cells, by rw [numbered_length], ?_⟩, hlen, hold⟩
    have : mss k xss xss.length = numbered k xss := by
      unfold mss; rw [List.drop_length, List.append_nil]; apply List.take_of_length_le; rw [numbered_length]; exact Nat.le_refl _
    rw [← this]; exact hc
theorem numbered_all (k : Int) (xss : List (List Int)) {i : Nat} (h : i < xss.length) {cells : List AV} {H : List Blk} (hr : ∀ (j : Nat) (c : AV) (xs : List Int), cells[j]? = some c → (numbered k xss)[j]? = some xs → RdS H c xs) {c : AV} (hc : cells[i]? = some c) :
    RdS H c ((List.range xss[i].length).map (fun (q : Nat) => (k + total (xss.take i)) + (q : Int))) := hr i c _ hc (numbered_get k xss h)
theorem heldInt64SS_ok (H : List Blk) (a : AV) (xss : List (List Int)) (k : Int) (ha : RdSS H a (numbered k xss)) (hk0 : 0 ≤ k) (hk : k + total xss ≤ 4611686018427387904) :
    ACalls Try.prog f_laws_heldInt64SS [a, I k] H (fun v H' => v = I (k + total xss) ∧ H' = H) := by
  obtain ⟨cells, h1, h2, h3⟩ := ha
  rw [numbered_length] at h1 h2
  refine ACalls.intro s_laws_heldInt64SS (by simp) ?_
  refine SW.seq ?_; refine SW.row ?_; simp only [go_sem, Nat.reduceAdd, Nat.reduceEqDiff, Nat.reduceLeDiff, Nat.reduceMul, reduceIte, Nat.zero_ne_one, Nat.one_ne_zero, Nat.zero_add, Nat.add_zero, List.map_cons, List.map_nil, List.length_cons, List.length_nil, decide_true, decide_false, Bool.not_true, Bool.not_false, true_and, and_true, ne_eq, not_true_eq_false, not_false_eq_true, forall_const, List.getElem?_cons_zero, List.getElem?_cons_succ]
  refine SW.seq ?_; refine SW.seq ?_; refine SW.row ?_; simp only [go_sem, Nat.reduceAdd, Nat.reduceEqDiff, Nat.reduceLeDiff, Nat.reduceMul, reduceIte, Nat.zero_ne_one, Nat.one_ne_zero, Nat.zero_add, Nat.add_zero, List.map_cons, List.map_nil, List.length_cons, List.length_nil, decide_true, decide_false, Bool.not_true, Bool.not_false, true_and, and_true, ne_eq, not_true_eq_false, not_false_eq_true, forall_const, List.getElem?_cons_zero, List.getElem?_cons_succ]
  refine SW.block ?_
  refine SW.loop (fun q E H' => ∃ i : Nat, i ≤ xss.length ∧ q = xss.length - i ∧ E = [(0, a), (1, I (k + total (xss.take i))), (5, I i)] ∧ H' = H) xss.length ⟨0, by omega, by omega, by simp [total]; rfl, rfl⟩ ?_
  rintro q E H' ⟨i, hi, rfl, rfl, rfl⟩
  refine SW.seq ?_; refine SW.seq ?_; refine SW.row ?_; simp only [go_sem, Nat.reduceAdd, Nat.reduceEqDiff, Nat.reduceLeDiff, Nat.reduceMul, reduceIte, Nat.zero_ne_one, Nat.one_ne_zero, Nat.zero_add, Nat.add_zero, List.map_cons, List.map_nil, List.length_cons, List.length_nil, decide_true, decide_false, Bool.not_true, Bool.not_false, true_and, and_true, ne_eq, not_true_eq_false, not_false_eq_true, forall_const, List.getElem?_cons_zero, List.getElem?_cons_succ, h1]
  intro hla
  refine SW.cond rfl (fun h => ?_) (fun h => ?_)
  · have hx : i < xss.length := by simpa using h
    have hci : cells[i]? = some cells[i] := List.getElem?_eq_getElem (by omega)
    have htot := total_take_succ xss hx
    have htl := total_take_le xss (i + 1)
    refine SW.skip ?_; simp only [go_sem, Nat.reduceAdd, Nat.reduceEqDiff, Nat.reduceLeDiff, Nat.reduceMul, reduceIte, Nat.zero_ne_one, Nat.one_ne_zero, Nat.zero_add, Nat.add_zero, List.map_cons, List.map_nil, List.length_cons, List.length_nil, decide_true, decide_false, Bool.not_true, Bool.not_false, true_and, and_true, ne_eq, not_true_eq_false, not_false_eq_true, forall_const, List.getElem?_cons_zero, List.getElem?_cons_succ]
    refine SW.seq ?_; refine SW.block ?_; refine SW.seq ?_; refine SW.row ?_; simp only [go_sem, Nat.reduceAdd, Nat.reduceEqDiff, Nat.reduceLeDiff, Nat.reduceMul, reduceIte, Nat.zero_ne_one, Nat.one_ne_zero, Nat.zero_add, Nat.add_zero, List.map_cons, List.map_nil, List.length_cons, List.length_nil, decide_true, decide_false, Bool.not_true, Bool.not_false, true_and, and_true, ne_eq, not_true_eq_false, not_false_eq_true, forall_const, List.getElem?_cons_zero, List.getElem?_cons_succ, idxc h1 hx, ldc h1 hci]
    refine ACalls.fn (heldInt64S_ok _ _ xss[i].length _ (numbered_all k xss hx h3 hci) (by omega) (by omega)) ?_
    simp only [go_sem, Nat.reduceAdd, Nat.reduceEqDiff, Nat.reduceLeDiff, Nat.reduceMul, reduceIte, Nat.zero_ne_one, Nat.one_ne_zero, Nat.zero_add, Nat.add_zero, List.map_cons, List.map_nil, List.length_cons, List.length_nil, decide_true, decide_false, Bool.not_true, Bool.not_false, true_and, and_true, ne_eq, not_true_eq_false, not_false_eq_true, forall_const, List.getElem?_cons_zero, List.getElem?_cons_succ]
    refine SW.seq ?_; refine SW.row ?_; simp only [go_sem, Nat.reduceAdd, Nat.reduceEqDiff, Nat.reduceLeDiff, Nat.reduceMul, reduceIte, Nat.zero_ne_one, Nat.one_ne_zero, Nat.zero_add, Nat.add_zero, List.map_cons, List.map_nil, List.length_cons, List.length_nil, decide_true, decide_false, Bool.not_true, Bool.not_false, true_and, and_true, ne_eq, not_true_eq_false, not_false_eq_true, forall_const, List.getElem?_cons_zero, List.getElem?_cons_succ]
    refine SW.cond rfl (fun h => ?_) (fun h => ?_)
    · exfalso
      have := of_decide_eq_true h
      omega
    refine SW.skip ?_; simp only [go_sem, Nat.reduceAdd, Nat.reduceEqDiff, Nat.reduceLeDiff, Nat.reduceMul, reduceIte, Nat.zero_ne_one, Nat.one_ne_zero, Nat.zero_add, Nat.add_zero, List.map_cons, List.map_nil, List.length_cons, List.length_nil, decide_true, decide_false, Bool.not_true, Bool.not_false, true_and, and_true, ne_eq, not_true_eq_false, not_false_eq_true, forall_const, List.getElem?_cons_zero, List.getElem?_cons_succ]
    refine SW.row ?_; simp only [go_sem, Nat.reduceAdd, Nat.reduceEqDiff, Nat.reduceLeDiff, Nat.reduceMul, reduceIte, Nat.zero_ne_one, Nat.one_ne_zero, Nat.zero_add, Nat.add_zero, List.map_cons, List.map_nil, List.length_cons, List.length_nil, decide_true, decide_false, Bool.not_true, Bool.not_false, true_and, and_true, ne_eq, not_true_eq_false, not_false_eq_true, forall_const, List.getElem?_cons_zero, List.getElem?_cons_succ, w64_id (show -9223372036854775808 ≤ (i : Int) + 1 by omega) (show (i : Int) + 1 ≤ 9223372036854775807 by omega)]
    refine SLoop.next (xss.length - (i + 1)) (by omega) ⟨i + 1, by omega, rfl, ?_, rfl⟩
    simp only [go_sem, Nat.reduceAdd, Nat.reduceEqDiff, Nat.reduceLeDiff, Nat.reduceMul, reduceIte, Nat.zero_ne_one, Nat.one_ne_zero, Nat.zero_add, Nat.add_zero, List.map_cons, List.map_nil, List.length_cons, List.length_nil, decide_true, decide_false, Bool.not_true, Bool.not_false, true_and, and_true, ne_eq, not_true_eq_false, not_false_eq_true, forall_const, List.getElem?_cons_zero, List.getElem?_cons_succ]
    rw [htot, Int.natCast_add, ← Int.add_assoc, Int.natCast_add]; rfl
  · have hx : i = xss.length := by
      have : ¬ i < xss.length := by simpa using h
      omega
    subst hx
    refine SW.exit ?_; simp only [go_sem, Nat.reduceAdd, Nat.reduceEqDiff, Nat.reduceLeDiff, Nat.reduceMul, reduceIte, Nat.zero_ne_one, Nat.one_ne_zero, Nat.zero_add, Nat.add_zero, List.map_cons, List.map_nil, List.length_cons, List.length_nil, decide_true, decide_false, Bool.not_true, Bool.not_false, true_and, and_true, ne_eq, not_true_eq_false, not_false_eq_true, forall_const, List.getElem?_cons_zero, List.getElem?_cons_succ]
    refine SW.seq ?_; refine SW.row ?_; simp only [go_sem, Nat.reduceAdd, Nat.reduceEqDiff, Nat.reduceLeDiff, Nat.reduceMul, reduceIte, Nat.zero_ne_one, Nat.one_ne_zero, Nat.zero_add, Nat.add_zero, List.map_cons, List.map_nil, List.length_cons, List.length_nil, decide_true, decide_false, Bool.not_true, Bool.not_false, true_and, and_true, ne_eq, not_true_eq_false, not_false_eq_true, forall_const, List.getElem?_cons_zero, List.getElem?_cons_succ]
    refine SW.ret ?_
    refine FunPost.one (GR.of ?_)
    simp [aget]
def ilS (xs : List Int) : AV := .il xs.length (xs.map I)
def ilSS (xss : List (List Int)) : AV := .il xss.length (xss.map ilS)
theorem froz_I (H : List Blk) (base : Nat) (n : Int) : Froz H base (I n) (I n) := .old _ (.lit _)
theorem froz_row {H : List Blk} {base r ver ty : Nat} {xs : List Int} (hb : base ≤ r) (hr : H[r]? = some ⟨ver, ty, 1, xs.map I⟩) : Froz H base (.nm r ver 0 xs.length) (ilS xs) := by
  have hc : ((xs.map I).drop 0).take (xs.length * 1) = xs.map I := by rw [List.drop_zero, Nat.mul_one]; apply List.take_of_length_le; simp
  refine .nm r ver 0 xs.length _ _ hb hr rfl (by simp only [hc]) ?_
  intro j c c' h1 h2
  simp only [hc] at h1
  rw [h1] at h2; cases h2
  rw [List.getElem?_map] at h1
  cases hx : xs[j]? with
  | none => rw [hx] at h1; simp at h1
  | some x => rw [hx] at h1; simp at h1; rw [← h1]; exact froz_I _ _ _
theorem OwnS.froz {H : List Blk} {N : Nat → Prop} {base t : Nat} {c : AV} {xs : List Int} (h : OwnS H N t c xs) (hN : ∀ r, N r → base ≤ r) : Froz H base c (ilS xs) := by
  rcases h with ⟨r, ver, ty, rfl, h1, _, h3⟩ | ⟨rfl, rfl | rfl⟩
  · exact froz_row (hN _ h1) h3
  · exact .nil
  · exact .old _ (.il _ _ (fun c h => by simp at h))
theorem OwnSS.froz {H : List Blk} {N : Nat → Prop} {base : Nat} {a : AV} {xss : List (List Int)} (h : OwnSS H N a xss) (hN : ∀ r, N r → base ≤ r) : Froz H base a (ilSS xss) := by
  rcases h with ⟨t, ver, ty, cells, rfl, h1, h2, h3, h4, _⟩ | ⟨rfl, rfl | rfl⟩
  · have hc : (cells.drop 0).take (xss.length * 1) = cells := by rw [List.drop_zero, Nat.mul_one]; apply List.take_of_length_le; omega
    refine .nm t ver 0 xss.length _ _ (hN _ h1) h2 rfl (by simp only [hc, List.length_map]; exact h3.symm) ?_
    intro j c c' g1 g2
    simp only [hc] at g1
    rw [List.getElem?_map] at g2
    cases hx : xss[j]? with
    | none => rw [hx] at g2; simp at g2
    | some xs => rw [hx] at g2; simp at g2; rw [← g2]; exact (h4 j c xs g1 hx).froz hN
  · exact .nil
  · exact .old _ (.il _ _ (fun c h => by simp at h))
theorem rd_ilS (H : List Blk) (xs : List Int) : RdS H (ilS xs) xs := rfl
theorem rd_ilSS (H : List Blk) (xss : List (List Int)) : RdSS H (ilSS xss) xss := by
  refine ⟨xss.map ilS, rfl, by simp, ?_⟩
  intro j c xs h1 h2
  rw [List.getElem?_map, h2] at h1
  simp at h1
  rw [← h1]; exact rd_ilS H xs
end Go.Proofs.Ytflnjgeoegofdaa
