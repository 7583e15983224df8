/- Groups of permutations: orbits of sets. -/
import Derived.Test.YthogadbnddmkdaaGreatzK64
import Derived.Test.YthogadbnddmkdaaGreatzVA
import Derived.Test.YthogadbnddmkdaaGreatzY2
set_option linter.unusedSimpArgs false
set_option linter.unusedVariables false
set_option maxHeartbeats 4000000
set_option maxRecDepth 100000
namespace Go.Proofs.YthogadbnddmkdaaGreat
open Go.Av
def IsG (n : Nat) (els : List (List Int)) : Prop := (∀ p ∈ els, permOk n p) ∧ els.Nodup ∧ idL n ∈ els ∧ ∀ p ∈ els, ∀ q ∈ els, mul p q ∈ els
theorem IsG.of {n : Int} {els : List (List Int)} (h : grpOk n els) : IsG n.toNat els := by
  obtain ⟨-, -, h3, h4, h5⟩ := h
  refine ⟨h3, h4.nodup cmpL_tot, h5 _ .one, fun p hp q hq => h5 _ (.step p q hq (Gen.gen (h3 p hp) hp))⟩
theorem IsG.inv {n : Nat} {els : List (List Int)} (h : IsG n els) {p : List Int} (hp : p ∈ els) : ∃ q ∈ els, mul p q = idL n ∧ mul q p = idL n := by
  obtain ⟨h1, h2, h3, h4⟩ := h
  have hpo := h1 p hp
  obtain ⟨q, hq, hpq⟩ := inv_ex hpo
  obtain ⟨e1, e2⟩ := mul_inv hpo hq hpq
  have hc : ∀ r, permOk n r → mul q (mul p r) = r := fun r hr => by rw [mul_assoc' hq hpo, e2, idL_mul hr]
  have hn : (els.map fun r => mul p r).Nodup := by
    rw [List.nodup_iff_pairwise_ne, List.pairwise_map]
    refine (List.nodup_iff_pairwise_ne.1 h2).imp_of_mem ?_
    intro x y hx hy hxy e
    exact hxy (by rw [← hc x (h1 x hx), ← hc y (h1 y hy), e])
  have hm : idL n ∈ els.map fun r => mul p r := by
    refine Classical.byContradiction fun hno => ?_
    have := nodup_sub_len (List.nodup_cons.2 ⟨hno, hn⟩) (m := els) (fun x hx => by
      rcases List.mem_cons.1 hx with rfl | hx
      · exact h3
      · obtain ⟨r, hr, rfl⟩ := List.mem_map.1 hx
        exact h4 p hp r hr)
    simp at this
    omega
  obtain ⟨r, hr, er⟩ := List.mem_map.1 hm
  have : r = q := by rw [← hc r (h1 r hr), er, mul_one hq]
  subst this
  exact ⟨r, hr, e1, e2⟩
def orb (els : List (List Int)) (S : List Int) : List (List Int) := sortU cmpL (imgsOf els S)
theorem orb_mem {els : List (List Int)} {S T : List Int} : T ∈ orb els S ↔ ∃ p ∈ els, img p S = T := by
  unfold orb imgsOf
  rw [sortU_mem cmpL_tot, List.mem_map]
theorem orb_nodup (els : List (List Int)) (S : List Int) : (orb els S).Nodup := (sortU_asc cmpL_tot _).nodup cmpL_tot
theorem orb_self {n : Nat} {els : List (List Int)} (h : IsG n els) {S : List Int} (hS : asc 0 ((n : Int) - 1) S = true) : S ∈ orb els S := orb_mem.2 ⟨_, h.2.2.1, img_idL hS⟩
theorem orb_set {n : Nat} {els : List (List Int)} (h : IsG n els) {S T : List Int} (hS : asc 0 ((n : Int) - 1) S = true) (hT : T ∈ orb els S) : asc 0 ((n : Int) - 1) T = true ∧ T.length = S.length := by
  obtain ⟨p, hp, rfl⟩ := orb_mem.1 hT
  exact ⟨img_asc (h.1 p hp) hS, img_length (h.1 p hp) hS⟩
theorem orb_eq {n : Nat} {els : List (List Int)} (h : IsG n els) {S T : List Int} (hS : asc 0 ((n : Int) - 1) S = true) (hT : T ∈ orb els S) : orb els T = orb els S := by
  obtain ⟨p, hp, rfl⟩ := orb_mem.1 hT
  obtain ⟨q, hq, e1, e2⟩ := h.inv hp
  refine asc_uniq cmpL_tot (sortU_asc cmpL_tot _) (sortU_asc cmpL_tot _) (fun y => ?_)
  change y ∈ orb els (img p S) ↔ y ∈ orb els S
  rw [orb_mem, orb_mem]
  constructor
  · rintro ⟨r, hr, rfl⟩
    exact ⟨mul p r, h.2.2.2 p hp r hr, (img_img (h.1 p hp) hS).symm⟩
  · rintro ⟨r, hr, rfl⟩
    refine ⟨mul q r, h.2.2.2 q hq r hr, ?_⟩
    rw [img_img (h.1 p hp) hS, mul_assoc' (h.1 p hp) (h.1 q hq), e1, idL_mul (h.1 r hr)]
theorem subsL_rk : ∀ (m : Nat) (lo : Int) (s : List Int), asc lo (lo + m - 1) s = true → (subsL m lo s.length)[rkN m lo s]? = some s
  | 0, lo, [], _ => rfl
  | 0, lo, x :: r, h => by
    exfalso
    simp only [asc, Bool.and_eq_true, decide_eq_true_eq] at h
    omega
  | m + 1, lo, [], _ => by rw [rkN_nil]; rfl
  | m + 1, lo, x :: r, h => by
    have hc := h
    simp only [asc, Bool.and_eq_true, decide_eq_true_eq] at hc
    have e : lo + ((m + 1 : Nat) : Int) - 1 = (lo + 1) + (m : Int) - 1 := by omega
    rw [e] at hc
    rw [List.length_cons]
    unfold subsL rkN
    by_cases hx : x = lo
    · subst hx
      rw [if_pos rfl]
      have ha : asc (x + 1) (x + 1 + (m : Int) - 1) r = true := hc.2
      have ih := subsL_rk m (x + 1) r ha
      rw [List.getElem?_append_left (by rw [List.length_map]; exact (List.getElem?_eq_some_iff.1 ih).1), List.getElem?_map, ih]
      rfl
    · rw [if_neg hx]
      have ha : asc (lo + 1) (lo + 1 + (m : Int) - 1) (x :: r) = true := by
        simp only [asc, Bool.and_eq_true, decide_eq_true_eq]
        exact ⟨⟨by omega, hc.1.2⟩, hc.2⟩
      have ih := subsL_rk m (lo + 1) (x :: r) ha
      rw [List.getElem?_append_right (by rw [List.length_map, subsL_len]; omega), List.length_map, subsL_len, Nat.add_sub_cancel_left]
      exact ih
theorem subsN_rk {n : Nat} {s : List Int} (h : asc 0 ((n : Int) - 1) s = true) : (subsN n s.length)[rkN n 0 s]? = some s := subsL_rk n 0 s (by rw [Int.zero_add]; exact h)
end Go.Proofs.YthogadbnddmkdaaGreat
