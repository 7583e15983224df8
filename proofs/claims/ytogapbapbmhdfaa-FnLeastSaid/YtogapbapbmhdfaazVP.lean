/- Permutations composed: the plain part. -/
import Derived.Test.YtogapbapbmhdfaazK60
import Derived.Test.YtogapbapbmhdfaazK8
set_option linter.unusedSimpArgs false
set_option linter.unusedVariables false
set_option maxHeartbeats 4000000
set_option maxRecDepth 100000
namespace Go.Proofs.Ytogapbapbmhdfaa
open Go.Av
def mul (p q : List Int) : List Int := p.map (pa q)
theorem mul_length (p q : List Int) : (mul p q).length = p.length := by simp [mul]
theorem pa_mem {n : Nat} {p : List Int} (h : permOk n p) {x : Int} (h0 : 0 ≤ x) (h1 : x < n) : pa p x ∈ p := by
  unfold pa
  rw [List.getD_eq_getElem?_getD, List.getElem?_eq_getElem (by rw [h.1]; omega)]
  exact List.getElem_mem _
theorem mul_ok {n : Nat} {p q : List Int} (hp : permOk n p) (hq : permOk n q) : permOk n (mul p q) := by
  refine ⟨by rw [mul_length]; exact hp.1, ?_, fun x hx => ?_⟩
  · unfold mul
    rw [List.nodup_iff_pairwise_ne, List.pairwise_map]
    have := List.nodup_iff_pairwise_ne.1 hp.2.1
    refine this.imp_of_mem ?_
    intro a b ha hb hab he
    exact hab (pa_inj hq (hp.2.2 a ha) (hp.2.2 b hb) he)
  · obtain ⟨y, hy, rfl⟩ := List.mem_map.1 hx
    have := hp.2.2 y hy
    exact hq.2.2 _ (pa_mem hq this.1 this.2)
theorem mul_one {n : Nat} {p : List Int} (hp : permOk n p) : mul p (idL n) = p := by
  unfold mul
  refine (List.map_congr_left (fun x hx => ?_)).trans (List.map_id _)
  have := hp.2.2 x hx
  unfold pa idL
  rw [tab_getD _ (by omega)]
  simp; omega
theorem pa_mul {n : Nat} {p q : List Int} (hp : permOk n p) {x : Int} (h0 : 0 ≤ x) (h1 : x < n) : pa (mul p q) x = pa q (pa p x) := by
  have hl : x.toNat < p.length := by rw [hp.1]; omega
  unfold mul
  show (p.map (pa q)).getD x.toNat 0 = pa q (p.getD x.toNat 0)
  rw [List.getD_eq_getElem?_getD, List.getD_eq_getElem?_getD, List.getElem?_map, List.getElem?_eq_getElem hl]
  rfl
theorem mul_assoc' {n : Nat} {p q r : List Int} (hp : permOk n p) (hq : permOk n q) : mul p (mul q r) = mul (mul p q) r := by
  unfold mul
  rw [List.map_map]
  refine List.map_congr_left fun x hx => ?_
  have := hp.2.2 x hx
  exact pa_mul hq this.1 this.2
theorem idL_mul {n : Nat} {g : List Int} (hg : permOk n g) : Go.Proofs.Ytogapbapbmhdfaa.mul (idL n) g = g := by
  have e : Go.Proofs.Ytogapbapbmhdfaa.mul (idL n) g = tab n (fun j => g.getD j 0) := by
    unfold Go.Proofs.Ytogapbapbmhdfaa.mul idL tab
    rw [List.map_map]
    exact List.map_congr_left fun i _ => rfl
  rw [e, ← hg.1]
  exact (tab_of g).symm
theorem nodup_sub_len {A : Type} : ∀ {l m : List A}, l.Nodup → (∀ x ∈ l, x ∈ m) → l.length ≤ m.length
  | [], _, _, _ => Nat.zero_le _
  | a :: l, m, hn, hs => by
    rw [List.nodup_cons] at hn
    obtain ⟨s, t, rfl⟩ := List.append_of_mem (hs a (by simp))
    have := nodup_sub_len (l := l) (m := s ++ t) hn.2 (fun x hx => by
      have h1 := hs x (by simp [hx])
      rcases List.mem_append.1 h1 with h1 | h1
      · exact List.mem_append_left _ h1
      · rcases List.mem_cons.1 h1 with rfl | h1
        · exact absurd hx hn.1
        · exact List.mem_append_right _ h1)
    simp at this ⊢; omega
end Go.Proofs.Ytogapbapbmhdfaa
