/- Groups of permutations: orbits of sets. -/
import Derived.Test.YthogadbnddmkdaaGreatzK64
import Derived.Test.YthogadbnddmkdaaGreatzVA
import Derived.Test.YthogadbnddmkdaaGreatzY2
set_option linter.unusedSimpArgs false
set_option linter.unusedVariables false
set_option maxHeartbeats 4000000
set_option maxRecDepth 100000
namespace Go.Proofs.YthogadbnddmkdaaGreat
open Go.Av
def IsG (n : Nat) (els : List (List Int)) : Prop := (∀ p ∈ els, permOk n p) ∧ els.Nodup ∧ idL n ∈ els ∧ ∀ p ∈ els, ∀ q ∈ els, mul p q ∈ els
theorem IsG.of {n : Int} {els : List (List Int)} (h : grpOk n els) : IsG n.toNat els := by
  obtain ⟨-, -, h3, h4, h5⟩ := h
  refine ⟨h3, h4.nodup cmpL_tot, h5 _ .one, fun p hp q hq => h5 _ (.step p q hq (Gen.gen (h3 p hp) hp))⟩
theorem IsG.inv {n : Nat} {els : List (List Int)} (h : IsG n els) {p : List Int} (hp : p ∈ els) : ∃ q ∈ els, mul p q = idL n ∧ mul q p = idL n := by
  obtain ⟨h1, h2, h3, h4⟩ := h
  have hpo := h1 p hp
  obtain ⟨q, hq, hpq⟩ := inv_ex hpo
  obtain ⟨e1, e2⟩ := mul_inv hpo hq hpq
  have hc : ∀ r, permOk n r → mul q (mul p r) = r := fun r hr => by rw [mul_assoc' hq hpo, e2, idL_mul hr]
  have hn : (els.map fun r => mul p r).Nodup := by
    rw [List.nodup_iff_pairwise_ne, List.pairwise_map]
    refine (List.nodup_iff_pairwise_ne.1 h2).imp_of_mem ?_
    intro x y hx hy hxy e
    exact hxy (by rw [← hc x (h1 x hx), ← hc y (h1 y hy), e])
  have hm : idL n ∈ els.map fun r => mul p r := by
    refine Classical.byContradiction fun hno => ?_
    have := nodup_sub_len (List.nodup_cons.2 ⟨hno, hn⟩) (m := els) (fun x hx => by
      rcases List.mem_cons.1 hx with rfl | hx
      · exact h3
      · obtain ⟨r, hr, rfl⟩ := List.mem_map.1 hx
        exact h4 p hp r hr)
    simp at this
    omega
  obtain ⟨r, hr, er⟩ := List.mem_map.1 hm
  have : r = q := by rw [← hc r (h1 r hr), er, mul_one hq]
  subst this
  exact ⟨r, hr, e1, e2⟩
def orb (els : List (List Int)) (S : List Int) : List (List Int) := sortU cmpL (imgsOf els S)
theorem orb_mem {els : List (List Int)} {S T : List Int} : T ∈ orb els S ↔ ∃ p ∈ els, img p S = T := by
  unfold orb imgsOf
  rw [sortU_mem cmpL_tot, List.mem_map]
theorem orb_nodup (els : List (List Int)) (S : List Int) : (orb els S).Nodup := (sortU_asc cmpL_tot _).nodup cmpL_tot
theorem orb_self {n : Nat} {els : List (List Int)} (h : IsG n els) {S : List Int} (hS : asc 0 ((n : Int) - 1) S = true) : S ∈ orb els S := orb_mem.2 ⟨_, h.2.2.1, img_idL hS⟩
theorem orb_set {n : Nat} {els : List (List Int)} (h : IsG n els) {S T : List Int} (hS : asc 0 ((n : Int) - 1) S = true) (hT : T ∈ orb els S) : asc 0 ((n : Int) - 1) T = true ∧ T.length = S.length := by
  obtain ⟨p, hp, rfl⟩ := orb_mem.1 hT
  exact ⟨img_asc (h.1 p hp) hS, img_length (h.1 p hp) hS⟩
theorem orb_eq {n : Nat} {els : List (List Int)} (h : IsG n els) {S T : List Int} (hS : asc 0 ((n : Int) - 1) S = true) (hT : T ∈ orb els S) : orb els T = orb els S := by
  obtain ⟨p, hp, rfl⟩ := orb_mem.1 hT
  obtain ⟨q, hq, e1, e2⟩ := h.inv hp
  refine asc_uniq cmpL_tot (sortU_asc cmpL_tot _) (sortU_asc cmpL_tot _) (fun y => ?_)
  change y ∈ orb els (img p S) ↔ y ∈ orb els S
  rw [orb_mem, orb_mem]
  constructor
  · rintro ⟨r, hr, rfl⟩
    exact ⟨mul p r, h.2.2.2 p hp r hr, (img_img (h.1 p hp) hS).symm⟩
  · rintro ⟨r, hr, rfl⟩
    refine ⟨mul q r, h.2.2.2 q hq r hr, ?_⟩
    rw [img_img (h.1 p hp) hS, mul_assoc' (h.1 p hp) (h.1 q hq), e1, idL_mul (h.1 r hr)]
def stabL (els : List (List Int)) (S : List Int) : List (List Int) := els.filter fun p => decide (img p S = S)
theorem stab_mem {els : List (List Int)} {S p : List Int} : p ∈ stabL els S ↔ p ∈ els ∧ img p S = S := by unfold stabL; rw [List.mem_filter, decide_eq_true_eq]
theorem fiberG {n : Nat} {els : List (List Int)} (h : IsG n els) {S r : List Int} (hS : asc 0 ((n : Int) - 1) S = true) (hr : r ∈ els) : (els.filter fun p => decide (img p S = img r S)).length = (stabL els S).length := by
  obtain ⟨b, hb, e4, e5⟩ := h.inv hr
  have hro := h.1 r hr
  have hbo := h.1 b hb
  have eb : img b (img r S) = S := by rw [img_img hro hS, e4, img_idL hS]
  have g1 : ((els.filter fun p => decide (img p S = img r S)).map fun p => mul p b).Nodup := by
    rw [List.nodup_iff_pairwise_ne, List.pairwise_map]
    refine (List.nodup_iff_pairwise_ne.1 (h.2.1.filter _)).imp_of_mem ?_
    intro x y hx hy hxy e
    have c : ∀ z, permOk n z → mul (mul z b) r = z := fun z hz => by rw [← mul_assoc' hz hbo, e5, mul_one hz]
    exact hxy (by rw [← c x (h.1 x (List.mem_filter.1 hx).1), ← c y (h.1 y (List.mem_filter.1 hy).1), e])
  have g2 : ((stabL els S).map fun q => mul q r).Nodup := by
    rw [List.nodup_iff_pairwise_ne, List.pairwise_map]
    refine (List.nodup_iff_pairwise_ne.1 (h.2.1.filter _)).imp_of_mem ?_
    intro x y hx hy hxy e
    have c : ∀ z, permOk n z → mul (mul z r) b = z := fun z hz => by rw [← mul_assoc' hz hro, e4, mul_one hz]
    exact hxy (by rw [← c x (h.1 x (List.mem_filter.1 hx).1), ← c y (h.1 y (List.mem_filter.1 hy).1), e])
  have k1 := nodup_sub_len (m := stabL els S) g1 (fun z hz => by
    obtain ⟨p, hp, rfl⟩ := List.mem_map.1 hz
    obtain ⟨q1, q2⟩ := List.mem_filter.1 hp
    refine stab_mem.2 ⟨h.2.2.2 p q1 b hb, ?_⟩
    rw [← img_img (h.1 p q1) hS, of_decide_eq_true q2, eb])
  have k2 := nodup_sub_len (m := els.filter fun p => decide (img p S = img r S)) g2 (fun z hz => by
    obtain ⟨q, hq, rfl⟩ := List.mem_map.1 hz
    obtain ⟨q1, q2⟩ := stab_mem.1 hq
    refine List.mem_filter.2 ⟨h.2.2.2 q q1 r hr, decide_eq_true ?_⟩
    rw [← img_img (h.1 q q1) hS, q2])
  rw [List.length_map] at k1 k2
  omega
theorem orb_stabG {n : Nat} {els : List (List Int)} (h : IsG n els) {S : List Int} (hS : asc 0 ((n : Int) - 1) S = true) : (orb els S).length * (stabL els S).length = els.length := by
  have hp := parted (fun p => img p S) (orb_nodup els S) els (fun p hp => orb_mem.2 ⟨p, hp, rfl⟩)
  rw [hp, ← sumN_const]
  refine (sumN_congr (fun o ho => ?_)).symm
  obtain ⟨r, hr, rfl⟩ := orb_mem.1 ho
  exact fiberG h hS hr
theorem subsL_rk : ∀ (m : Nat) (lo : Int) (s : List Int), asc lo (lo + m - 1) s = true → (subsL m lo s.length)[rkN m lo s]? = some s
  | 0, lo, [], _ => rfl
  | 0, lo, x :: r, h => by
    exfalso
    simp only [asc, Bool.and_eq_true, decide_eq_true_eq] at h
    omega
  | m + 1, lo, [], _ => by rw [rkN_nil]; rfl
  | m + 1, lo, x :: r, h => by
    have hc := h
    simp only [asc, Bool.and_eq_true, decide_eq_true_eq] at hc
    have e : lo + ((m + 1 : Nat) : Int) - 1 = (lo + 1) + (m : Int) - 1 := by omega
    rw [e] at hc
    rw [List.length_cons]
    unfold subsL rkN
    by_cases hx : x = lo
    · subst hx
      rw [if_pos rfl]
      have ha : asc (x + 1) (x + 1 + (m : Int) - 1) r = true := hc.2
      have ih := subsL_rk m (x + 1) r ha
      rw [List.getElem?_append_left (by rw [List.length_map]; exact (List.getElem?_eq_some_iff.1 ih).1), List.getElem?_map, ih]
      rfl
    · rw [if_neg hx]
      have ha : asc (lo + 1) (lo + 1 + (m : Int) - 1) (x :: r) = true := by
        simp only [asc, Bool.and_eq_true, decide_eq_true_eq]
        exact ⟨⟨by omega, hc.1.2⟩, hc.2⟩
      have ih := subsL_rk m (lo + 1) (x :: r) ha
      rw [List.getElem?_append_right (by rw [List.length_map, subsL_len]; omega), List.length_map, subsL_len, Nat.add_sub_cancel_left]
      exact ih
theorem subsN_rk {n : Nat} {s : List Int} (h : asc 0 ((n : Int) - 1) s = true) : (subsN n s.length)[rkN n 0 s]? = some s := subsL_rk n 0 s (by rw [Int.zero_add]; exact h)
end Go.Proofs.YthogadbnddmkdaaGreat
namespace Go.Proofs.YthogadbnddmkdaaGreat
open Go.Av
theorem foldset_get (f : List Int → Nat) : ∀ (O : List (List Int)) (s : List Bool) (i : Nat), i < s.length → ((O.foldl (fun s x => s.set (f x) true) s).getD i false = true ↔ s.getD i false = true ∨ ∃ x ∈ O, f x = i)
  | [], s, i, _ => by simp
  | x :: O, s, i, hi => by
    rw [List.foldl_cons, foldset_get f O _ i (by rw [List.length_set]; exact hi)]
    have e : (s.set (f x) true).getD i false = true ↔ s.getD i false = true ∨ f x = i := by
      rw [List.getD_eq_getElem?_getD, List.getElem?_set, List.getD_eq_getElem?_getD]
      by_cases h : f x = i
      · rw [if_pos h, if_pos (by omega)]; simp [h]
      · rw [if_neg h]; simp [h]
    rw [e]
    constructor
    · rintro ((h | h) | ⟨y, hy, h⟩)
      · exact .inl h
      · exact .inr ⟨x, by simp, h⟩
      · exact .inr ⟨y, by simp [hy], h⟩
    · rintro (h | ⟨y, hy, h⟩)
      · exact .inl (.inl h)
      · rcases List.mem_cons.1 hy with rfl | hy
        · exact .inl (.inr h)
        · exact .inr ⟨y, hy, h⟩
theorem subsN_len (n k : Nat) : (subsN n k).length = ch n k := by unfold subsN; exact subsL_len _ _ _
theorem subsN_nodup (n k : Nat) : (subsN n k).Nodup := by
  have hA : ∀ (m : Nat) (lo : Int) (k : Nat), Asc cmpL (subsL m lo k) := by
    intro m
    induction m with
    | zero => intro lo k; cases k <;> simp [subsL, Asc]
    | succ m ih =>
      intro lo k
      cases k with
      | zero => simp [subsL, Asc]
      | succ k =>
        unfold subsL Asc
        rw [List.pairwise_append, List.pairwise_map]
        refine ⟨(ih (lo + 1) k).imp (fun h => ?_), ih (lo + 1) (k + 1), ?_⟩
        · simpa [cmpL] using h
        · intro a ha b hb
          obtain ⟨c, _, rfl⟩ := List.mem_map.1 ha
          obtain ⟨h1, h2⟩ := subsL_mem m (lo + 1) (k + 1) b hb
          cases b with
          | nil => simp at h1
          | cons y r =>
            have := asc_mem h2 y (by simp)
            simp only [cmpL]
            split <;> omega
  exact (hA n 0 k).nodup cmpL_tot
theorem subsN_mem {n k : Nat} {s : List Int} : s ∈ subsN n k ↔ s.length = k ∧ asc 0 ((n : Int) - 1) s = true := by
  constructor
  · intro h
    have := subsL_mem n 0 k s h
    rwa [Int.zero_add] at this
  · rintro ⟨rfl, h⟩
    exact List.mem_of_getElem? (subsN_rk h)
theorem rk_is {n k i : Nat} {x : List Int} (hx : x.length = k ∧ asc 0 ((n : Int) - 1) x = true) (hi : i < ch n k) : rkN n 0 x = i ↔ x = (subsN n k).getD i [] := by
  have h1 := subsN_rk hx.2
  rw [hx.1] at h1
  have hil : i < (subsN n k).length := by rw [subsN_len]; exact hi
  constructor
  · rintro rfl
    rw [List.getD_eq_getElem?_getD, h1]; rfl
  · intro e
    rw [List.getD_eq_getElem?_getD, List.getElem?_eq_getElem hil, Option.getD_some] at e
    obtain ⟨g1, g2⟩ := List.getElem?_eq_some_iff.1 h1
    exact (List.getElem_inj (subsN_nodup n k)).1 (g2.trans e)
structure OrbI (n k : Nat) (els : List (List Int)) (j : Nat) (st : List (List (List Int)) × List Bool) : Prop where
  len : st.2.length = ch n k
  orbs : ∀ O ∈ st.1, ∃ S, S.length = k ∧ asc 0 ((n : Int) - 1) S = true ∧ O = orb els S
  seen : ∀ i, i < ch n k → (st.2.getD i false = true ↔ ∃ O ∈ st.1, (subsN n k).getD i [] ∈ O)
  apart : st.1.Pairwise (fun O O' => ∀ T ∈ O, T ∉ O')
  all : ∀ i, i < j → ∃ O ∈ st.1, (subsN n k).getD i [] ∈ O
theorem orbL_inv {n k : Nat} {els : List (List Int)} (h : IsG n els) : ∀ j, j ≤ ch n k → OrbI n k els j (orbL n k els j)
  | 0, _ => by
    rw [orbL_zero]
    refine ⟨by simp, by simp, fun i hi => ?_, by simp, by omega⟩
    rw [List.getD_eq_getElem?_getD, List.getElem?_replicate, if_pos hi]
    simp
  | j + 1, hj => by
    have ih := orbL_inv (k := k) h j (by omega)
    rw [orbL_succ]
    generalize orbL n k els j = st at ih
    obtain ⟨os, s0⟩ := st
    have hjc : j < ch n k := by omega
    have hrow := subsN_row (n := n) (k := k) (i := j) hjc
    unfold orbS
    simp only
    split
    · rename_i hs
      refine ⟨ih.len, ih.orbs, ih.seen, ih.apart, fun i hi => ?_⟩
      rcases Nat.lt_or_eq_of_le (Nat.le_of_lt_succ hi) with h1 | rfl
      · exact ih.all i h1
      · exact (ih.seen i hjc).1 hs
    · rename_i hs
      have hs' : ¬ ∃ O ∈ os, (subsN n k).getD j [] ∈ O := fun hh => hs ((ih.seen j hjc).2 hh)
      generalize hW : (subsN n k).getD j [] = W at *
      have hself := orb_self h hrow.2
      refine ⟨?_, ?_, ?_, ?_, ?_⟩
      · simp only; rw [foldset_len]; exact ih.len
      · intro O hO
        rcases List.mem_append.1 hO with hO | hO
        · exact ih.orbs O hO
        · rw [List.mem_singleton.1 hO]
          exact ⟨W, hrow.1, hrow.2, rfl⟩
      · intro i hi
        have hl := ih.len
        simp only at hl ⊢
        rw [foldset_get _ _ _ _ (by omega), ih.seen i hi]
        have hx : ∀ x ∈ orb els W, (rkN n 0 x = i ↔ x = (subsN n k).getD i []) := fun x hx => by
          have := orb_set h hrow.2 hx
          exact rk_is ⟨by rw [this.2]; exact hrow.1, this.1⟩ hi
        constructor
        · rintro (⟨O, hO, hm⟩ | ⟨x, hxm, e⟩)
          · exact ⟨O, List.mem_append_left _ hO, hm⟩
          · refine ⟨orb els W, List.mem_append_right _ (by simp [orb]), ?_⟩
            rw [← (hx x hxm).1 e]; exact hxm
        · rintro ⟨O, hO, hm⟩
          rcases List.mem_append.1 hO with hO | hO
          · exact .inl ⟨O, hO, hm⟩
          · rw [List.mem_singleton.1 hO] at hm
            exact .inr ⟨_, hm, (hx _ hm).2 rfl⟩
      · simp only
        rw [List.pairwise_append]
        refine ⟨ih.apart, by simp, fun O hO O' hO' T hT hT' => ?_⟩
        rw [List.mem_singleton.1 hO'] at hT'
        obtain ⟨S, s1, s2, rfl⟩ := ih.orbs O hO
        have e1 := orb_eq h s2 hT
        have e2 := orb_eq h hrow.2 (show T ∈ orb els W from hT')
        refine hs' ⟨orb els S, hO, ?_⟩
        rw [← e1, e2]; exact hself
      · intro i hi
        simp only
        rcases Nat.lt_or_eq_of_le (Nat.le_of_lt_succ hi) with h1 | rfl
        · obtain ⟨O, hO, hm⟩ := ih.all i h1
          exact ⟨O, List.mem_append_left _ hO, hm⟩
        · rw [hW]
          exact ⟨orb els W, List.mem_append_right _ (by simp [orb]), hself⟩
noncomputable def orbAll (n k : Nat) (els : List (List Int)) : List (List (List Int)) := (orbL n k els (ch n k)).1
theorem orbAll_in {n k : Nat} {els : List (List Int)} (h : IsG n els) {S : List Int} (h1 : S.length = k) (h2 : asc 0 ((n : Int) - 1) S = true) : ∃ O ∈ orbAll n k els, S ∈ O := by
  have hi := orbL_inv (k := k) h (ch n k) (Nat.le_refl _)
  have hr := subsN_rk h2
  rw [h1] at hr
  have hlt : rkN n 0 S < ch n k := by rw [← subsN_len]; exact (List.getElem?_eq_some_iff.1 hr).1
  obtain ⟨O, hO, hm⟩ := hi.all _ hlt
  rw [List.getD_eq_getElem?_getD, hr] at hm
  exact ⟨O, hO, hm⟩
theorem orbAll_of {n k : Nat} {els : List (List Int)} (h : IsG n els) {O : List (List Int)} (hO : O ∈ orbAll n k els) : ∃ S, S.length = k ∧ asc 0 ((n : Int) - 1) S = true ∧ O = orb els S := (orbL_inv (k := k) h (ch n k) (Nat.le_refl _)).orbs O hO
theorem orbAll_apart {n k : Nat} {els : List (List Int)} (h : IsG n els) : (orbAll n k els).Pairwise (fun O O' => ∀ T ∈ O, T ∉ O') := (orbL_inv (k := k) h (ch n k) (Nat.le_refl _)).apart
theorem flat_nodup {A : Type} : ∀ {R : List (List A)}, R.Pairwise (fun O O' => ∀ T ∈ O, T ∉ O') → (∀ O ∈ R, O.Nodup) → R.flatten.Nodup
  | [], _, _ => by simp
  | O :: R, hp, hn => by
    have hp' := List.pairwise_cons.1 hp
    rw [List.flatten_cons, List.nodup_append]
    refine ⟨hn O (by simp), flat_nodup hp'.2 (fun O' h => hn O' (by simp [h])), fun a ha b hb e => ?_⟩
    subst e
    obtain ⟨O', hO', hm⟩ := List.mem_flatten.1 hb
    exact hp'.1 O' hO' a ha hm
theorem sumN_flat {A : Type} (f : A → Nat) : ∀ R : List (List A), sumN f R.flatten = sumN (fun O => sumN f O) R
  | [] => rfl
  | O :: R => by rw [List.flatten_cons, sumN_app, sumN_cons, sumN_flat f R]
theorem sumN_perm {A : Type} (f : A → Nat) {l m : List A} (h : l.Perm m) : sumN f l = sumN f m := by
  unfold sumN
  exact (h.map f).sum_nat
theorem sumN_same {A : Type} (f : A → Nat) {l m : List A} (hl : l.Nodup) (hm : m.Nodup) (h : ∀ x, x ∈ l ↔ x ∈ m) : sumN f l = sumN f m := sumN_perm f ((List.perm_ext_iff_of_nodup hl hm).2 h)
theorem orb_sum {n k : Nat} {els : List (List Int)} (h : IsG n els) (f : List Int → Nat) : sumN f (subsN n k) = sumN (fun O => sumN f O) (orbAll n k els) := by
  rw [← sumN_flat]
  refine sumN_same f (subsN_nodup n k) (flat_nodup (orbAll_apart h) (fun O hO => ?_)) (fun x => ?_)
  · obtain ⟨S, _, _, rfl⟩ := orbAll_of h hO
    exact orb_nodup els S
  · rw [List.mem_flatten, subsN_mem]
    constructor
    · rintro ⟨h1, h2⟩
      exact orbAll_in h h1 h2
    · rintro ⟨O, hO, hm⟩
      obtain ⟨S, s1, s2, rfl⟩ := orbAll_of h hO
      have := orb_set h s2 hm
      exact ⟨by rw [this.2]; exact s1, this.1⟩
end Go.Proofs.YthogadbnddmkdaaGreat
