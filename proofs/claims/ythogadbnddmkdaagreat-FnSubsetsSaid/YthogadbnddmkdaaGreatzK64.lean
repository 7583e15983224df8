/- Automorphisms of systems; the least image of a system. -/
import Derived.Test.YthogadbnddmkdaaGreatProg
import Derived.KernelRfl
import Derived.Test.YthogadbnddmkdaaGreatzK62
import Derived.Test.YthogadbnddmkdaaGreatzK66
import Derived.Test.YthogadbnddmkdaaGreatzAv17
import Derived.Test.YthogadbnddmkdaaGreatzG1
import Derived.Test.YthogadbnddmkdaaGreatzK50
import Derived.Test.YthogadbnddmkdaaGreatzK8
import Derived.Test.YthogadbnddmkdaaGreatzOW
import Derived.Test.YthogadbnddmkdaaGreatzK60
set_option linter.unusedSimpArgs false
set_option linter.unusedVariables false
set_option maxHeartbeats 4000000
set_option maxRecDepth 100000
namespace Go.Proofs.YthogadbnddmkdaaGreat
open Go.Av
theorem GR.froz0 {H0 : List Blk} {R : AV → List Blk → Prop} {r r' : AV} (hf : Froz H0 H0.length r r') (h : R r' H0) : GR H0 R r H0 := by
  have e := GR.froz (H0 := H0) (ext := []) (R := R) (r := r) (r' := r') (by rw [List.append_nil]; exact hf) h
  rw [List.append_nil] at e
  exact e
end Go.Proofs.YthogadbnddmkdaaGreat
namespace Go.Proofs.YthogadbnddmkdaaGreat
open Go.Av
theorem ok_perm {n : Nat} {p : List Int} (h : permOk n p) : p.Perm (idL n) := by
  have hi := idL_ok n
  refine (List.perm_ext_iff_of_nodup h.2.1 hi.2.1).2 (fun x => ?_)
  have hmem : ∀ x, 0 ≤ x ∧ x < (n : Int) → x ∈ idL n := fun x hx => by
    unfold idL tab
    exact List.mem_map.2 ⟨x.toNat, List.mem_range.2 (by omega), by omega⟩
  refine ⟨fun hx => hmem x (h.2.2 x hx), fun hx => ?_⟩
  -- a list of n different numbers below n holds them all
  refine Classical.byContradiction fun hn => ?_
  have h1 : (x :: p).Nodup := List.nodup_cons.2 ⟨hn, h.2.1⟩
  have h2 := nodup_sub_len h1 (fun y hy => by
    rcases List.mem_cons.1 hy with rfl | hy
    · exact hx
    · exact hmem y (h.2.2 y hy))
  rw [List.length_cons, h.1, hi.1] at h2
  omega
theorem pa_onto {n : Nat} {p : List Int} (h : permOk n p) {y : Int} (h0 : 0 ≤ y) (h1 : y < n) : ∃ x : Int, 0 ≤ x ∧ x < n ∧ pa p x = y := by
  have hm : y ∈ p := by
    rw [(ok_perm h).mem_iff]
    unfold idL tab
    exact List.mem_map.2 ⟨y.toNat, List.mem_range.2 (by omega), by omega⟩
  obtain ⟨i, hi, e⟩ := List.getElem_of_mem hm
  refine ⟨(i : Int), by omega, by have := h.1; omega, ?_⟩
  unfold pa
  rw [List.getD_eq_getElem?_getD, Int.toNat_natCast, List.getElem?_eq_getElem hi]
  exact e
theorem inv_ex {n : Nat} {p : List Int} (h : permOk n p) : ∃ q, permOk n q ∧ ∀ x, 0 ≤ x → x < (n : Int) → pa q (pa p x) = x ∧ pa p (pa q x) = x := by
  have hf : ∀ y : Nat, ∃ x : Int, y < n → 0 ≤ x ∧ x < n ∧ pa p x = y := fun y => by
    by_cases hy : y < n
    · obtain ⟨x, h1, h2, h3⟩ := pa_onto h (y := (y : Int)) (by omega) (by omega)
      exact ⟨x, fun _ => ⟨h1, h2, h3⟩⟩
    · exact ⟨0, fun h => absurd h hy⟩
  obtain ⟨f, hf⟩ := Classical.axiomOfChoice hf
  have hq : ∀ y : Int, 0 ≤ y → y < n → pa (tab n f) y = f y.toNat := fun y h0 h1 => by
    unfold pa
    exact tab_getD _ (by omega)
  have hok : permOk n (tab n f) := by
    refine ⟨by simp [tab], ?_, ?_⟩
    · unfold tab
      rw [List.nodup_iff_pairwise_ne, List.pairwise_map]
      refine (List.nodup_iff_pairwise_ne.1 List.nodup_range).imp_of_mem ?_
      intro a b ha hb hab e
      rw [List.mem_range] at ha hb
      have g1 := (hf a ha).2.2
      have g2 := (hf b hb).2.2
      rw [e, g2] at g1
      omega
    · intro x hx
      unfold tab at hx
      obtain ⟨i, hi, rfl⟩ := List.mem_map.1 hx
      rw [List.mem_range] at hi
      exact ⟨(hf i hi).1, (hf i hi).2.1⟩
  refine ⟨tab n f, hok, fun x h0 h1 => ?_⟩
  have hpx := h.2.2 _ (pa_mem h h0 h1)
  refine ⟨?_, ?_⟩
  · rw [hq _ hpx.1 hpx.2]
    have g := hf (pa p x).toNat (by omega)
    exact pa_inj h ⟨g.1, g.2.1⟩ ⟨h0, h1⟩ (by rw [g.2.2]; omega)
  · rw [hq _ h0 h1]
    have g := hf x.toNat (by omega)
    rw [g.2.2]; omega
theorem img_img {n : Nat} {p q b : List Int} (hp : permOk n p) (hb : asc 0 ((n : Int) - 1) b = true) : img q (img p b) = img (mul p q) b := by
  refine asc_uniq cmpZ_tot (sortU_asc cmpZ_tot _) (sortU_asc cmpZ_tot _) (fun y => ?_)
  change y ∈ img q (img p b) ↔ y ∈ img (mul p q) b
  rw [img_mem, img_mem]
  constructor
  · rintro ⟨x, hx, rfl⟩
    obtain ⟨z, hz, rfl⟩ := (img_mem p b x).1 hx
    have := asc_mem hb z hz
    exact ⟨z, hz, pa_mul hp this.1 (by omega)⟩
  · rintro ⟨z, hz, rfl⟩
    have := asc_mem hb z hz
    exact ⟨pa p z, (img_mem p b _).2 ⟨z, hz, rfl⟩, (pa_mul hp this.1 (by omega)).symm⟩
end Go.Proofs.YthogadbnddmkdaaGreat
namespace Go.Proofs.YthogadbnddmkdaaGreat
open Go.Av
theorem perm_ext {n : Nat} {p q : List Int} (hp : permOk n p) (hq : permOk n q) (h : ∀ x : Int, 0 ≤ x → x < n → pa p x = pa q x) : p = q := by
  apply List.ext_getElem (by rw [hp.1, hq.1])
  intro i h1 h2
  have := h (i : Int) (by omega) (by have := hp.1; omega)
  unfold pa at this
  rw [Int.toNat_natCast, List.getD_eq_getElem?_getD, List.getD_eq_getElem?_getD, List.getElem?_eq_getElem h1, List.getElem?_eq_getElem h2] at this
  exact this
theorem pa_idL {n : Nat} {x : Int} (h0 : 0 ≤ x) (h1 : x < n) : pa (idL n) x = x := by
  unfold pa idL
  rw [tab_getD _ (by omega)]; omega
theorem mul_inv {n : Nat} {p q : List Int} (hp : permOk n p) (hq : permOk n q) (h : ∀ x : Int, 0 ≤ x → x < n → pa q (pa p x) = x ∧ pa p (pa q x) = x) : mul p q = idL n ∧ mul q p = idL n := by
  refine ⟨perm_ext (mul_ok hp hq) (idL_ok n) (fun x h0 h1 => ?_), perm_ext (mul_ok hq hp) (idL_ok n) (fun x h0 h1 => ?_)⟩
  · rw [pa_mul hp h0 h1, pa_idL h0 h1]; exact (h x h0 h1).1
  · rw [pa_mul hq h0 h1, pa_idL h0 h1]; exact (h x h0 h1).2
theorem img_idL {n : Nat} {b : List Int} (hb : asc 0 ((n : Int) - 1) b = true) : img (idL n) b = b := by
  unfold img
  have e : b.map (pa (idL n)) = b := (List.map_congr_left (fun x hx => by
    have := asc_mem hb x hx
    exact pa_idL this.1 (by omega))).trans (List.map_id _)
  rw [e]
  exact asc_uniq cmpZ_tot (sortU_asc cmpZ_tot _) (asc_Asc hb) (fun y => sortU_mem cmpZ_tot _ _)
end Go.Proofs.YthogadbnddmkdaaGreat
namespace Go.Proofs.YthogadbnddmkdaaGreat
open Go.Av
theorem cmpL_m1 : ∀ (xs ys : List Int), cmpL xs ys = -1 ∨ cmpL xs ys = 0 ∨ cmpL xs ys = 1
  | [], [] => .inr (.inl rfl)
  | [], _ :: _ => .inl rfl
  | _ :: _, [] => .inr (.inr rfl)
  | x :: a, y :: b => by
    rw [cmpL]
    split
    · exact .inl rfl
    · split
      · exact .inr (.inr rfl)
      · exact cmpL_m1 a b
end Go.Proofs.YthogadbnddmkdaaGreat
namespace Go.Proofs.YthogadbnddmkdaaGreat
open Go.Av
def sumN {A : Type} (f : A → Nat) (l : List A) : Nat := (l.map f).sum
theorem sumN_nil {A : Type} (f : A → Nat) : sumN f [] = 0 := rfl
theorem sumN_cons {A : Type} (f : A → Nat) (x : A) (l : List A) : sumN f (x :: l) = f x + sumN f l := by simp [sumN]
theorem sumN_app {A : Type} (f : A → Nat) (l m : List A) : sumN f (l ++ m) = sumN f l + sumN f m := by simp [sumN]
theorem sumN_congr {A : Type} {f g : A → Nat} {l : List A} (h : ∀ x ∈ l, f x = g x) : sumN f l = sumN g l := by
  unfold sumN
  rw [List.map_congr_left h]
theorem sumN_add {A : Type} (f g : A → Nat) : ∀ l : List A, sumN (fun x => f x + g x) l = sumN f l + sumN g l
  | [] => rfl
  | x :: l => by rw [sumN_cons, sumN_cons, sumN_cons, sumN_add f g l]; omega
theorem sumN_const {A : Type} (c : Nat) : ∀ l : List A, sumN (fun _ => c) l = l.length * c
  | [] => by simp [sumN]
  | x :: l => by rw [sumN_cons, sumN_const c l, List.length_cons, Nat.add_mul]; omega
theorem sumN_ind {K : Type} [DecidableEq K] (y : K) : ∀ D : List K, D.Nodup → y ∈ D → sumN (fun d => if y = d then 1 else 0) D = 1
  | [], _, h => by simp at h
  | d :: D, hn, h => by
    rw [List.nodup_cons] at hn
    rw [sumN_cons]
    by_cases e : y = d
    · subst e
      rw [if_pos rfl]
      have : sumN (fun d => if y = d then 1 else 0) D = sumN (fun _ => 0) D := sumN_congr (fun x hx => if_neg (fun (e : y = x) => hn.1 (by rw [e]; exact hx)))
      rw [this, sumN_const]; omega
    · rw [if_neg e, sumN_ind y D hn.2 ((List.mem_cons.1 h).resolve_left e)]
theorem parted {A K : Type} [DecidableEq K] (f : A → K) {D : List K} (hD : D.Nodup) : ∀ L : List A, (∀ x ∈ L, f x ∈ D) → L.length = sumN (fun d => (L.filter fun x => decide (f x = d)).length) D
  | [], _ => by
    have : sumN (fun d => (([] : List A).filter fun x => decide (f x = d)).length) D = sumN (fun _ => 0) D := sumN_congr (fun _ _ => rfl)
    rw [this, sumN_const]; rfl
  | x :: L, h => by
    have ih := parted f hD L (fun y hy => h y (by simp [hy]))
    have e : sumN (fun d => ((x :: L).filter fun x => decide (f x = d)).length) D = sumN (fun d => (if f x = d then 1 else 0) + (L.filter fun x => decide (f x = d)).length) D := by
      refine sumN_congr (fun d _ => ?_)
      rw [List.filter_cons]
      by_cases hd : f x = d
      · simp [hd]; omega
      · simp [hd]
    rw [e, sumN_add, sumN_ind (f x) D hD (h x (by simp)), ← ih, List.length_cons]; omega
theorem same_len {A : Type} {l m : List A} (hl : l.Nodup) (hm : m.Nodup) (h : ∀ x, x ∈ l ↔ x ∈ m) : l.length = m.length := by
  have h1 := nodup_sub_len hl (fun x hx => (h x).1 hx)
  have h2 := nodup_sub_len hm (fun x hx => (h x).2 hx)
  omega
end Go.Proofs.YthogadbnddmkdaaGreat
