/- Incidences of orbits, counted twice. -/
import Derived.Test.YthogadbnddmkdaaGreatzJ6
import Derived.Test.YthogadbnddmkdaaGreatzY4
set_option linter.unusedSimpArgs false
set_option linter.unusedVariables false
set_option maxHeartbeats 4000000
set_option maxRecDepth 100000
namespace Go.Proofs.YthogadbnddmkdaaGreat
open Go.Av
def ind (b : Bool) : Nat := if b = true then 1 else 0
theorem filter_sum {A : Type} (p : A → Bool) : ∀ l : List A, (l.filter p).length = sumN (fun x => ind (p x)) l
  | [] => rfl
  | x :: l => by
    rw [sumN_cons, ← filter_sum p l, List.filter_cons]
    unfold ind
    split
    · rw [List.length_cons]; omega
    · omega
theorem sumN_swap {A B : Type} (f : A → B → Nat) (m : List B) : ∀ l : List A, sumN (fun x => sumN (fun y => f x y) m) l = sumN (fun y => sumN (fun x => f x y) l) m
  | [] => by
    have : sumN (fun y => sumN (fun x => f x y) ([] : List A)) m = sumN (fun _ => 0) m := sumN_congr (fun _ _ => rfl)
    rw [this, sumN_const]; rfl
  | x :: l => by
    rw [sumN_cons, sumN_swap f m l, ← sumN_add]
    exact sumN_congr (fun y _ => (sumN_cons (fun x => f x y) x l).symm)
theorem kmC_sum (s : List Int) (O : List (List Int)) : kmC s O = sumN (fun K => ind (s.all fun x => K.contains x)) O := by
  unfold kmC
  exact filter_sum _ _
theorem all_img {n : Nat} {p T K : List Int} (hp : permOk n p) (hT : asc 0 ((n : Int) - 1) T = true) (hK : asc 0 ((n : Int) - 1) K = true) : ((img p T).all fun x => (img p K).contains x) = (T.all fun x => K.contains x) := by
  rw [Bool.eq_iff_iff, List.all_eq_true, List.all_eq_true]
  constructor
  · intro h x hx
    have := h (pa p x) ((img_mem p T _).2 ⟨x, hx, rfl⟩)
    rw [List.contains_iff_mem] at this ⊢
    obtain ⟨y, hy, e⟩ := (img_mem p K _).1 this
    have h1 := asc_mem hT x hx
    have h2 := asc_mem hK y hy
    rw [← pa_inj hp ⟨h2.1, by omega⟩ ⟨h1.1, by omega⟩ e]; exact hy
  · intro h y hy
    obtain ⟨x, hx, rfl⟩ := (img_mem p T y).1 hy
    have := h x hx
    rw [List.contains_iff_mem] at this ⊢
    exact (img_mem p K _).2 ⟨x, this, rfl⟩
theorem kmC_le_img {n : Nat} {els : List (List Int)} (h : IsG n els) {p T S : List Int} (hp : p ∈ els) (hT : asc 0 ((n : Int) - 1) T = true) (hS : asc 0 ((n : Int) - 1) S = true) : kmC T (orb els S) ≤ kmC (img p T) (orb els S) := by
  unfold kmC
  have hn : (((orb els S).filter fun set => T.all fun x => set.contains x).map fun K => img p K).Nodup := by
    rw [List.nodup_iff_pairwise_ne, List.pairwise_map]
    refine (List.nodup_iff_pairwise_ne.1 ((orb_nodup els S).filter _)).imp_of_mem ?_
    intro x y hx hy hxy e
    have h1 := (orb_set h hS (List.mem_filter.1 hx).1).1
    have h2 := (orb_set h hS (List.mem_filter.1 hy).1).1
    exact hxy (img_inj (h.1 p hp) h1 h2 e)
  have := nodup_sub_len (m := (orb els S).filter fun set => (img p T).all fun x => set.contains x) hn (fun z hz => by
    obtain ⟨K, hK, rfl⟩ := List.mem_map.1 hz
    obtain ⟨k1, k2⟩ := List.mem_filter.1 hK
    have h1 := orb_set h hS k1
    refine List.mem_filter.2 ⟨?_, ?_⟩
    · rw [← orb_eq h hS k1]
      exact orb_mem.2 ⟨p, hp, rfl⟩
    · rw [all_img (h.1 p hp) hT h1.1]; exact k2)
  rw [List.length_map] at this
  exact this
theorem kmC_orb {n : Nat} {els : List (List Int)} (h : IsG n els) {T T' S R : List Int} (hR : asc 0 ((n : Int) - 1) R = true) (hS : asc 0 ((n : Int) - 1) S = true) (h1 : T ∈ orb els R) (h2 : T' ∈ orb els R) : kmC T (orb els S) = kmC T' (orb els S) := by
  have a1 := (orb_set h hR h1).1
  have a2 := (orb_set h hR h2).1
  have e1 := orb_eq h hR h1
  have e2 := orb_eq h hR h2
  have m1 : T' ∈ orb els T := by rw [e1]; exact h2
  have m2 : T ∈ orb els T' := by rw [e2]; exact h1
  obtain ⟨p, hp, rfl⟩ := orb_mem.1 m1
  obtain ⟨q, hq, e⟩ := orb_mem.1 m2
  have g1 := kmC_le_img h hp a1 hS
  have g2 := kmC_le_img h hq a2 hS
  rw [e] at g2
  omega
def comb : List Int → Nat → List (List Int)
  | _, 0 => [[]]
  | [], _ + 1 => []
  | x :: l, r + 1 => (comb l r).map (x :: ·) ++ comb l (r + 1)
theorem comb_zero (l : List Int) : comb l 0 = [[]] := by cases l <;> rfl
theorem comb_len : ∀ (l : List Int) (r : Nat), (comb l r).length = ch l.length r
  | l, 0 => by rw [comb_zero, ch_zero]; rfl
  | [], r + 1 => rfl
  | x :: l, r + 1 => by
    unfold comb
    rw [List.length_append, List.length_map, comb_len l r, comb_len l (r + 1), List.length_cons, ch]
theorem comb_mem : ∀ (l : List Int) (r : Nat) (T : List Int), T ∈ comb l r ↔ T.Sublist l ∧ T.length = r
  | l, 0, T => by
    rw [comb_zero, List.mem_singleton]
    exact ⟨fun h => by subst h; exact ⟨List.nil_sublist _, rfl⟩, fun h => List.eq_nil_of_length_eq_zero h.2⟩
  | [], r + 1, T => by
    constructor
    · intro h; simp [comb] at h
    · rintro ⟨h, hl⟩
      rw [List.sublist_nil] at h
      rw [h] at hl; simp at hl
  | x :: l, r + 1, T => by
    unfold comb
    rw [List.mem_append, List.mem_map, comb_mem l (r + 1) T]
    constructor
    · rintro (⟨c, hc, rfl⟩ | ⟨h, hl⟩)
      · obtain ⟨h1, h2⟩ := (comb_mem l r c).1 hc
        exact ⟨h1.cons_cons x, by simp [h2]⟩
      · exact ⟨h.cons x, hl⟩
    · rintro ⟨h, hl⟩
      cases h with
      | cons _ h => exact .inr ⟨h, hl⟩
      | cons_cons _ h => exact .inl ⟨_, (comb_mem l r _).2 ⟨h, by simpa using hl⟩, rfl⟩
theorem comb_nodup : ∀ (l : List Int) (r : Nat), l.Nodup → (comb l r).Nodup
  | l, 0, _ => by rw [comb_zero]; simp
  | [], r + 1, _ => by simp [comb]
  | x :: l, r + 1, hn => by
    rw [List.nodup_cons] at hn
    unfold comb
    rw [List.nodup_append]
    refine ⟨?_, comb_nodup l (r + 1) hn.2, ?_⟩
    · rw [List.nodup_iff_pairwise_ne, List.pairwise_map]
      exact (List.nodup_iff_pairwise_ne.1 (comb_nodup l r hn.2)).imp (fun hab e => hab (by simpa using e))
    · intro a ha b hb e
      subst e
      obtain ⟨c, _, rfl⟩ := List.mem_map.1 ha
      have := (comb_mem l (r + 1) _).1 hb
      exact hn.1 (this.1.subset (by simp))
theorem parts_count {n t : Nat} {K : List Int} (hK : asc 0 ((n : Int) - 1) K = true) : sumN (fun T => ind (T.all fun x => K.contains x)) (subsN n t) = ch K.length t := by
  rw [← filter_sum, ← comb_len]
  have hA := asc_Asc hK
  refine same_len ((subsN_nodup n t).filter _) (comb_nodup K t (hA.nodup cmpZ_tot)) (fun T => ?_)
  rw [List.mem_filter, subsN_mem, comb_mem, List.all_eq_true]
  simp only [List.contains_iff_mem]
  constructor
  · rintro ⟨⟨h1, h2⟩, h3⟩
    refine ⟨?_, h1⟩
    have e : T = K.filter (fun x => T.contains x) := by
      refine asc_uniq cmpZ_tot (asc_Asc h2) (hA.filter _) (fun y => ?_)
      rw [List.mem_filter]
      simp only [List.contains_iff_mem]
      exact ⟨fun hy => ⟨h3 y hy, hy⟩, fun hy => hy.2⟩
    rw [e]; exact List.filter_sublist
  · rintro ⟨h1, h2⟩
    have hTA : Asc cmpZ T := List.Pairwise.sublist h1 hA
    exact ⟨⟨h2, asc_ofZ hTA (fun x hx => asc_mem hK x (h1.subset hx))⟩, fun x hx => h1.subset hx⟩
theorem km_double {n t k : Nat} {els : List (List Int)} (h : IsG n els) {O : List (List Int)} (hO : O ∈ orbAll n k els) : sumN (fun R => R.length * kmC (R.getD 0 []) O) (orbAll n t els) = O.length * ch k t := by
  obtain ⟨S, s1, s2, rfl⟩ := orbAll_of h hO
  have e1 : sumN (fun R => R.length * kmC (R.getD 0 []) (orb els S)) (orbAll n t els) = sumN (fun R => sumN (fun T => kmC T (orb els S)) R) (orbAll n t els) := by
    refine sumN_congr (fun R hR => ?_)
    obtain ⟨U, u1, u2, rfl⟩ := orbAll_of h hR
    have hm : (orb els U).getD 0 [] ∈ orb els U := by
      have := orb_self h u2
      cases ho : orb els U with
      | nil => rw [ho] at this; simp at this
      | cons a b => simp
    rw [← sumN_const]
    exact sumN_congr (fun T hT => kmC_orb h u2 s2 hm hT)
  rw [e1, ← orb_sum h]
  have e2 : sumN (fun T => kmC T (orb els S)) (subsN n t) = sumN (fun T => sumN (fun K => ind (T.all fun x => K.contains x)) (orb els S)) (subsN n t) := sumN_congr (fun T _ => kmC_sum T _)
  rw [e2, sumN_swap, ← sumN_const]
  refine sumN_congr (fun K hK => ?_)
  have := orb_set h s2 hK
  rw [parts_count this.1, this.2, s1]
end Go.Proofs.YthogadbnddmkdaaGreat
