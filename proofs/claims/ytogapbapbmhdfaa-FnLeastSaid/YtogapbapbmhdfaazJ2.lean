/- The least image and the number of automorphisms are those of every image. -/
import Derived.Test.YtogapbapbmhdfaazJ1
set_option linter.unusedSimpArgs false
set_option linter.unusedVariables false
set_option maxHeartbeats 4000000
set_option maxRecDepth 100000
namespace Go.Proofs.Ytogapbapbmhdfaa
open Go.Av
theorem perm_ext {n : Nat} {p q : List Int} (hp : permOk n p) (hq : permOk n q) (h : ∀ x : Int, 0 ≤ x → x < n → pa p x = pa q x) : p = q := by
  apply List.ext_getElem (by rw [hp.1, hq.1])
  intro i h1 h2
  have := h (i : Int) (by omega) (by have := hp.1; omega)
  unfold pa at this
  rw [Int.toNat_natCast, List.getD_eq_getElem?_getD, List.getD_eq_getElem?_getD, List.getElem?_eq_getElem h1, List.getElem?_eq_getElem h2] at this
  exact this
theorem pa_idL {n : Nat} {x : Int} (h0 : 0 ≤ x) (h1 : x < n) : pa (idL n) x = x := by
  unfold pa idL
  rw [tab_getD _ (by omega)]; omega
theorem mul_inv {n : Nat} {p q : List Int} (hp : permOk n p) (hq : permOk n q) (h : ∀ x : Int, 0 ≤ x → x < n → pa q (pa p x) = x ∧ pa p (pa q x) = x) : mul p q = idL n ∧ mul q p = idL n := by
  refine ⟨perm_ext (mul_ok hp hq) (idL_ok n) (fun x h0 h1 => ?_), perm_ext (mul_ok hq hp) (idL_ok n) (fun x h0 h1 => ?_)⟩
  · rw [pa_mul hp h0 h1, pa_idL h0 h1]; exact (h x h0 h1).1
  · rw [pa_mul hq h0 h1, pa_idL h0 h1]; exact (h x h0 h1).2
theorem img_idL {n : Nat} {b : List Int} (hb : asc 0 ((n : Int) - 1) b = true) : img (idL n) b = b := by
  unfold img
  have e : b.map (pa (idL n)) = b := (List.map_congr_left (fun x hx => by
    have := asc_mem hb x hx
    exact pa_idL this.1 (by omega))).trans (List.map_id _)
  rw [e]
  exact asc_uniq cmpZ_tot (sortU_asc cmpZ_tot _) (asc_Asc hb) (fun y => sortU_mem cmpZ_tot _ _)
theorem imgS_idL {n : Nat} {bs : List (List Int)} (hs : sysOk n bs) : imgS (idL n) bs = bs := by
  unfold imgS
  have e : bs.map (img (idL n)) = bs := (List.map_congr_left (fun b hb => img_idL (hs.2.2.2 b hb))).trans (List.map_id _)
  rw [e]
  exact asc_uniq cmpL_tot (sortU_asc cmpL_tot _) hs.2.2.1 (fun y => sortU_mem cmpL_tot _ _)
theorem img_ascJ {n : Nat} {p b : List Int} (hp : permOk n p) (hb : asc 0 ((n : Int) - 1) b = true) : asc 0 ((n : Int) - 1) (img p b) = true := by
  have ofA : ∀ (l : List Int) (lo : Int), Asc cmpZ l → (∀ x ∈ l, lo ≤ x ∧ x ≤ (n : Int) - 1) → asc lo ((n : Int) - 1) l = true := by
    intro l
    induction l with
    | nil => intros; rfl
    | cons x r ih =>
      intro lo ha hm
      have ha' := List.pairwise_cons.1 ha
      have hx := hm x (by simp)
      simp only [asc, Bool.and_eq_true, decide_eq_true_eq]
      refine ⟨hx, ih (x + 1) ha'.2 (fun y hy => ?_)⟩
      have h1 := ha'.1 y hy
      have h2 := hm y (by simp [hy])
      unfold cmpZ at h1
      omega
  refine ofA _ 0 (sortU_asc cmpZ_tot _) (fun x hx => ?_)
  obtain ⟨y, hy, rfl⟩ := (img_mem p b x).1 hx
  have h1 := asc_mem hb y hy
  have h2 := hp.2.2 _ (pa_mem hp h1.1 (by omega))
  omega
theorem imgS_memJ (p : List Int) (bs : List (List Int)) (y : List Int) : y ∈ imgS p bs ↔ ∃ b ∈ bs, img p b = y := by unfold imgS; rw [sortU_mem cmpL_tot, List.mem_map]
theorem imgS_sys {n : Nat} {p : List Int} {bs : List (List Int)} (hs : sysOk n bs) (hp : permOk n p) : sysOk n (imgS p bs) := by
  refine ⟨hs.1, hs.2.1, sortU_asc cmpL_tot _, fun b hb => ?_⟩
  obtain ⟨c, hc, rfl⟩ := (imgS_memJ p bs b).1 hb
  exact img_ascJ hp (hs.2.2.2 c hc)
theorem imgS_back {n : Nat} {p : List Int} {bs : List (List Int)} (hs : sysOk n bs) (hp : permOk n p) : ∃ q, permOk n q ∧ imgS q (imgS p bs) = bs ∧ mul p q = idL n ∧ mul q p = idL n := by
  obtain ⟨q, hq, h⟩ := inv_ex hp
  obtain ⟨e1, e2⟩ := mul_inv hp hq h
  exact ⟨q, hq, by rw [imgS_imgS hp hs.2.2.2, e1, imgS_idL hs], e1, e2⟩
theorem leastF_isJ (bs : List (List Int)) : ∀ l : List (List Int), leastF bs l = bs ∨ ∃ p ∈ l, leastF bs l = imgS p bs := by
  intro l
  rw [← List.reverse_reverse l]
  induction l.reverse with
  | nil => exact .inl rfl
  | cons p r ih =>
    rw [List.reverse_cons, leastF_snoc]
    split
    · exact .inr ⟨p, by simp, rfl⟩
    · rcases ih with ih | ⟨q, hq, ih⟩
      · exact .inl ih
      · exact .inr ⟨q, by simp at hq ⊢; exact .inl hq, ih⟩
theorem leastF_le (bs : List (List Int)) : ∀ l : List (List Int), ¬ cmpSS bs (leastF bs l) < 0 ∧ ∀ p ∈ l, ¬ cmpSS (imgS p bs) (leastF bs l) < 0 := by
  intro l
  rw [← List.reverse_reverse l]
  induction l.reverse with
  | nil =>
    refine ⟨?_, by simp⟩
    show ¬ cmpSS bs bs < 0
    rw [(cmpSS_eq0 bs bs).2 rfl]; omega
  | cons p r ih =>
    rw [List.reverse_cons, leastF_snoc]
    obtain ⟨h1, h2⟩ := ih
    split
    · rename_i hlt
      refine ⟨fun h => h1 (cmpSS_trans _ _ _ h hlt), fun q hq => ?_⟩
      rcases List.mem_append.1 hq with hq | hq
      · exact fun h => h2 q hq (cmpSS_trans _ _ _ h hlt)
      · rw [List.mem_singleton.1 hq, (cmpSS_eq0 _ _).2 rfl]; omega
    · rename_i hlt
      refine ⟨h1, fun q hq => ?_⟩
      rcases List.mem_append.1 hq with hq | hq
      · exact h2 q hq
      · rw [List.mem_singleton.1 hq]; exact hlt
theorem least_ex {n : Nat} {bs : List (List Int)} (hs : sysOk n bs) : ∃ p, permOk n p ∧ leastF bs (perms n) = imgS p bs := by
  rcases leastF_isJ bs (perms n) with e | ⟨p, hp, e⟩
  · exact ⟨idL n, idL_ok n, by rw [e, imgS_idL hs]⟩
  · exact ⟨p, perms_ok hp, e⟩
theorem least_min {n : Nat} {p : List Int} {bs : List (List Int)} (hp : permOk n p) : ¬ cmpSS (imgS p bs) (leastF bs (perms n)) < 0 := (leastF_le bs (perms n)).2 p (perms_mem.2 hp)
theorem cmp_anti {a b : List (List Int)} (h1 : ¬ cmpSS a b < 0) (h2 : ¬ cmpSS b a < 0) : a = b := by
  have := cmpSS_neg a b
  exact (cmpSS_eq0 a b).1 (by omega)
theorem least_inv {n : Nat} {p : List Int} {bs : List (List Int)} (hs : sysOk n bs) (hp : permOk n p) : leastF (imgS p bs) (perms n) = leastF bs (perms n) := by
  obtain ⟨q, hq, e1⟩ := least_ex hs
  obtain ⟨r, hr, e2⟩ := least_ex (imgS_sys hs hp)
  obtain ⟨b, hb, e3, -, -⟩ := imgS_back hs hp
  refine cmp_anti ?_ ?_
  · rw [e2, imgS_imgS hp hs.2.2.2]
    exact least_min (mul_ok hp hr)
  · rw [e1]
    have : imgS q bs = imgS (mul b q) (imgS p bs) := by
      rw [← imgS_imgS hb (imgS_sys hs hp).2.2.2, e3]
    rw [this]
    exact least_min (mul_ok hb hq)
theorem sameC_mem {bs : List (List Int)} {l : List (List Int)} {p : List Int} : p ∈ l.filter (fun p => decide (cmpSS (imgS p bs) bs = 0)) ↔ p ∈ l ∧ imgS p bs = bs := by
  rw [List.mem_filter, decide_eq_true_eq, cmpSS_eq0]
theorem sameC_le {n : Nat} {p : List Int} {bs : List (List Int)} (hs : sysOk n bs) (hp : permOk n p) : sameC bs (perms n) ≤ sameC (imgS p bs) (perms n) := by
  obtain ⟨b, hb, e3, e4, e5⟩ := imgS_back hs hp
  have hn := (perms_nodup n).filter (fun p => decide (cmpSS (imgS p bs) bs = 0))
  have hmap : (((perms n).filter (fun p => decide (cmpSS (imgS p bs) bs = 0))).map fun q => mul (mul b q) p).Nodup := by
    rw [List.nodup_iff_pairwise_ne, List.pairwise_map]
    refine (List.nodup_iff_pairwise_ne.1 hn).imp_of_mem ?_
    intro x y hx hy hxy e
    have hx' := perms_ok (sameC_mem.1 hx).1
    have hy' := perms_ok (sameC_mem.1 hy).1
    refine hxy ?_
    have c : ∀ z, permOk n z → mul p (mul (mul (mul b z) p) b) = z := fun z hz => by
      rw [← mul_assoc' (mul_ok hb hz) hp, e4, mul_one (mul_ok hb hz), mul_assoc' hp hb, e4, idL_mul hz]
    rw [← c x hx', ← c y hy', e]
  have h := nodup_sub_len (m := (perms n).filter (fun q => decide (cmpSS (imgS q (imgS p bs)) (imgS p bs) = 0))) hmap (fun z hz => by
    obtain ⟨q, hq, rfl⟩ := List.mem_map.1 hz
    obtain ⟨q1, q2⟩ := sameC_mem.1 hq
    have hqo := perms_ok q1
    refine sameC_mem.2 ⟨perms_mem.2 (mul_ok (mul_ok hb hqo) hp), ?_⟩
    have hi := imgS_sys hs hp
    rw [← imgS_imgS (mul_ok hb hqo) hi.2.2.2, ← imgS_imgS hb hi.2.2.2, e3, q2])
  rw [List.length_map] at h
  exact h
theorem sameC_inv {n : Nat} {p : List Int} {bs : List (List Int)} (hs : sysOk n bs) (hp : permOk n p) : sameC (imgS p bs) (perms n) = sameC bs (perms n) := by
  obtain ⟨b, hb, e3, -, -⟩ := imgS_back hs hp
  have h1 := sameC_le hs hp
  have h2 := sameC_le (imgS_sys hs hp) hb
  rw [e3] at h2
  omega
end Go.Proofs.Ytogapbapbmhdfaa
