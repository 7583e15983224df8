/- DesignOfGraph: plain mathematics. -/
import Derived.Test.YtmdeibdplpodpaazRD
set_option linter.unusedSimpArgs false
set_option linter.unusedVariables false
set_option maxHeartbeats 4000000
set_option maxRecDepth 100000
namespace Go.Proofs.Ytmdeibdplpodpaa
open Go.Av
theorem twoC_len (a b : Nat) : (twoC a b).length = a + b := by unfold twoC; exact tab_length _ _
theorem twoC_get (a b : Nat) {i : Nat} (h : i < a + b) : (twoC a b).getD i 0 = if a ≤ i then 1 else 0 := by
  unfold twoC
  exact tab_getD _ h
theorem twoC_snoc1 (a b : Nat) : twoC a b ++ [1] = twoC a (b + 1) := by
  refine List.ext_getElem? fun i => ?_
  have hl := twoC_len a b
  have hl2 := twoC_len a (b + 1)
  by_cases h : i < a + b
  · rw [List.getElem?_append_left (by omega), List.getElem?_eq_getElem (by omega), List.getElem?_eq_getElem (by omega), ← getD_get (d := 0) (by omega), ← getD_get (d := 0) (by omega), twoC_get a b h, twoC_get a (b + 1) (by omega)]
  · by_cases h2 : i = a + b
    · subst h2
      rw [List.getElem?_append_right (by omega), hl, Nat.sub_self, List.getElem?_eq_getElem (l := twoC a (b + 1)) (by omega), ← getD_get (d := 0) (by omega), twoC_get a (b + 1) (by omega), if_pos (by omega)]
      rfl
    · rw [List.getElem?_eq_none (by simp; omega), List.getElem?_eq_none (by omega)]
theorem twoC_snoc0 (a : Nat) : twoC a 0 ++ [0] = twoC (a + 1) 0 := by
  refine List.ext_getElem? fun i => ?_
  have hl := twoC_len a 0
  have hl2 := twoC_len (a + 1) 0
  by_cases h : i < a
  · rw [List.getElem?_append_left (by omega), List.getElem?_eq_getElem (by omega), List.getElem?_eq_getElem (by omega), ← getD_get (d := 0) (by omega), ← getD_get (d := 0) (by omega), twoC_get a 0 (by omega), twoC_get (a + 1) 0 (by omega), if_neg (by omega), if_neg (by omega)]
  · by_cases h2 : i = a
    · subst h2
      rw [List.getElem?_append_right (by omega), hl, Nat.add_zero, Nat.sub_self, List.getElem?_eq_getElem (l := twoC (i + 1) 0) (by omega), ← getD_get (d := 0) (by omega), twoC_get (i + 1) 0 (by omega), if_neg (by omega)]
      rfl
    · rw [List.getElem?_eq_none (by simp; omega), List.getElem?_eq_none (by omega)]
def goodC (pre : List Int) : Prop := pre = twoC (zc pre) (pre.length - zc pre)
theorem goodC_nil : goodC [] := rfl
theorem goodC_snoc {pre : List Int} {c : Int} (h : goodC pre) (h0 : 0 ≤ c) (h1 : c ≤ 1) (hp : 0 < pre.length → pre.getD (pre.length - 1) 0 ≤ c) : goodC (pre ++ [c]) := by
  unfold goodC at *
  have hz := zc_le pre
  have hs := zc_snoc pre c
  by_cases hc : c = 0
  · rw [if_pos hc] at hs
    have hfull : zc pre = pre.length := by
      by_cases hl : 0 < pre.length
      · have h2 := hp hl
        have h3 := twoC_get (zc pre) (pre.length - zc pre) (i := pre.length - 1) (by omega)
        rw [← h] at h3
        rw [h3] at h2
        split at h2 <;> omega
      · omega
    rw [hs, List.length_append, List.length_singleton, show pre.length + 1 - (zc pre + 1) = 0 by omega, ← twoC_snoc0, hc]
    congr 1
    rw [show (0 : Nat) = pre.length - zc pre by omega]
    exact h
  · rw [if_neg hc] at hs
    have hc1 : c = 1 := by omega
    rw [hs, List.length_append, List.length_singleton, Nat.add_zero, show pre.length + 1 - zc pre = pre.length - zc pre + 1 by omega, ← twoC_snoc1, hc1, ← h]
theorem bad_big {pre post : List Int} {c : Int} (h : 1 < c) : dogC (pre ++ c :: post) = false := by
  unfold dogC
  rw [decide_eq_false, Bool.false_and]
  intro e
  have hz := zc_le (pre ++ c :: post)
  have h1 : (pre ++ c :: post).getD pre.length 0 = c := by rw [List.getD_eq_getElem?_getD, List.getElem?_append_right (Nat.le_refl _), Nat.sub_self]; rfl
  rw [e, twoC_get _ _ (by simp at hz ⊢; omega)] at h1
  split at h1 <;> omega
theorem bad_down {pre post : List Int} {c : Int} (hp : 0 < pre.length) (h : c < pre.getD (pre.length - 1) 0) : dogC (pre ++ c :: post) = false := by
  unfold dogC
  rw [decide_eq_false, Bool.false_and]
  intro e
  have hz := zc_le (pre ++ c :: post)
  have h1 : (pre ++ c :: post).getD pre.length 0 = c := by rw [List.getD_eq_getElem?_getD, List.getElem?_append_right (Nat.le_refl _), Nat.sub_self]; rfl
  have h2 : (pre ++ c :: post).getD (pre.length - 1) 0 = pre.getD (pre.length - 1) 0 := by rw [List.getD_eq_getElem?_getD, List.getElem?_append_left (by omega), ← List.getD_eq_getElem?_getD]
  have h3 := twoC_get (zc (pre ++ c :: post)) ((pre ++ c :: post).length - zc (pre ++ c :: post)) (i := pre.length - 1) (by simp at hz ⊢; omega)
  have h4 := twoC_get (zc (pre ++ c :: post)) ((pre ++ c :: post).length - zc (pre ++ c :: post)) (i := pre.length) (by simp at hz ⊢; omega)
  rw [← e] at h3 h4
  rw [h2] at h3
  rw [h1] at h4
  rw [h3] at h
  generalize zc (pre ++ c :: post) = z at h h4
  split at h <;> split at h4 <;> omega
theorem eqc_iff {cols : List Int} (h : goodC cols) {a b : Nat} (hab : a < b) (hb : b < cols.length) : decide (cols.getD a 0 = cols.getD b 0) = (decide (zc cols ≤ a) || decide (b < zc cols)) := by
  have hz := zc_le cols
  have h1 : cols.getD a 0 = if zc cols ≤ a then 1 else 0 := by
    have := twoC_get (zc cols) (cols.length - zc cols) (i := a) (by omega)
    rwa [← h] at this
  have h2 : cols.getD b 0 = if zc cols ≤ b then 1 else 0 := by
    have := twoC_get (zc cols) (cols.length - zc cols) (i := b) (by omega)
    rwa [← h] at this
  rw [h1, h2]
  by_cases c1 : zc cols ≤ a
  · rw [if_pos c1, if_pos (by omega), decide_eq_true c1]; rfl
  · rw [if_neg c1, decide_eq_false c1]
    by_cases c2 : b < zc cols
    · rw [if_neg (by omega), decide_eq_true c2]; rfl
    · rw [if_pos (by omega), decide_eq_false c2]; rfl
theorem nbr_right {es : List (Int × Int)} {v b : Nat} (h : ∀ e ∈ es, e.1 < (v : Int)) (hb : v ≤ b) : nbr es b = (es.filter fun e => decide (e.2 = (b : Int))).map Prod.fst := by
  induction es with
  | nil => rfl
  | cons e r ih =>
    have h1 := h e (by simp)
    have := ih (fun e he => h e (List.mem_cons_of_mem _ he))
    unfold nbr at this ⊢
    rw [List.flatMap_cons, this, if_neg (by omega), List.nil_append]
    by_cases c : e.2 = (b : Int)
    · rw [if_pos c, List.filter_cons_of_pos (by simpa using c)]; rfl
    · rw [if_neg c, List.filter_cons_of_neg (by simpa using c)]; rfl
theorem nbr_isort {es : List (Int × Int)} {v b : Nat} (hs : es.Pairwise fun a b => cmpE a b < 0) (h : ∀ e ∈ es, e.1 < (v : Int)) (hb : v ≤ b) : isort (nbr es b) = nbr es b := by
  rw [nbr_right h hb]
  unfold isort
  refine List.mergeSort_of_pairwise ?_
  rw [List.pairwise_map]
  have := (List.Pairwise.filter (fun e => decide (e.2 = (b : Int))) hs)
  refine (List.Pairwise.and_mem.1 this).imp ?_
  rintro x y ⟨hx, hy, hxy⟩
  have e1 := (List.mem_filter.1 hx).2
  have e2 := (List.mem_filter.1 hy).2
  rw [decide_eq_true_eq] at e1 e2
  unfold cmpE cmpI at hxy
  rw [e1, e2] at hxy
  rw [decide_eq_true_eq]
  split at hxy <;> (repeat' split at hxy) <;> omega
theorem rows_isort {n : Nat} {es : List (Int × Int)} {v : Nat} (hs : es.Pairwise fun a b => cmpE a b < 0) (h : ∀ e ∈ es, e.1 < (v : Int)) : ((nbrT n es).map isort).drop v = (nbrT n es).drop v := by
  refine List.ext_getElem? fun k => ?_
  rw [List.getElem?_drop, List.getElem?_drop, List.getElem?_map]
  unfold nbrT
  rw [List.getElem?_map]
  by_cases hk : v + k < n
  · rw [List.getElem?_range hk]
    simp only [Option.map_some]
    rw [nbr_isort hs h (by omega)]
  · rw [List.getElem?_eq_none (by simp; omega)]; rfl
theorem rows_zero (n v : Nat) : (nbrT n []).drop v = List.replicate (n - v) [] := by rw [nbrT_nil, List.drop_replicate]
theorem rows_snoc (n : Nat) (es : List (Int × Int)) {v a b : Nat} (ha : a < v) (hv : v ≤ b) (hb : b < n) : (nbrT n (es ++ [((a : Int), (b : Int))])).drop v = addR ((nbrT n es).drop v) (b - v) a := by
  rw [nbrT_snoc n es (by omega) hb]
  have hl := nbrT_len n es
  generalize nbrT n es = T at *
  unfold addR
  rw [List.drop_set, if_neg (by omega), List.drop_set, if_pos ha]
  congr 2
  rw [List.getD_eq_getElem?_getD, List.getElem?_set_ne (by omega), List.getD_eq_getElem?_getD, List.getElem?_drop, show v + (b - v) = b by omega]
end Go.Proofs.Ytmdeibdplpodpaa
