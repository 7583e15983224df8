/- Permutations, images of sets and of systems: the plain law. -/
import Derived.Test.YtkifdjjnbplghaaGreatzS3
import Derived.Test.YtkifdjjnbplghaaGreatzS4
import Derived.Test.YtkifdjjnbplghaaGreatzK3
import Derived.Test.YtkifdjjnbplghaaGreatzK8
set_option linter.unusedSimpArgs false
set_option linter.unusedVariables false
set_option maxHeartbeats 4000000
set_option maxRecDepth 100000
namespace Go.Proofs.YtkifdjjnbplghaaGreat
open Go.Av
def cmpZ (a b : Int) : Int := a - b
theorem cmpZ_tot : TotC cmpZ := ⟨fun x y => by unfold cmpZ; omega, fun x y => by unfold cmpZ; omega, fun x y z => by unfold cmpZ; omega⟩
theorem isort_is {zs : List Int} (h : zs.Nodup) : isort zs = sortU cmpZ zs := by
  refine sorted_is cmpZ_tot (List.mergeSort_perm zs _) ?_ h
  have := List.pairwise_mergeSort (le := fun x y : Int => decide (x ≤ y)) (fun a b c h1 h2 => by simp at *; omega) (fun a b => by simp; omega) zs
  refine this.imp ?_
  intro a b hab
  unfold cmpZ
  simp at hab; omega
theorem insU_perm {A : Type} {cf : A → A → Int} (h : TotC cf) (x : A) : ∀ l : List A, x ∉ l → (insU cf x l).Perm (x :: l)
  | [], _ => .refl _
  | z :: r, hx => by
    unfold insU
    simp only [List.mem_cons, not_or] at hx
    split
    · split
      · exact .refl _
      · exact absurd ((h.eq0 z x).1 (by omega)) (Ne.symm hx.1)
    · exact ((insU_perm h x r hx.2).cons z).trans (.swap _ _ _)
theorem sortU_perm {A : Type} {cf : A → A → Int} (h : TotC cf) {l : List A} (hn : l.Nodup) : (sortU cf l).Perm l := by
  rw [← List.reverse_reverse l] at hn ⊢
  revert hn
  induction l.reverse with
  | nil => intro _; exact .refl _
  | cons x r ih =>
    intro hn
    rw [List.reverse_cons] at hn ⊢
    rw [sortU_snoc]
    have h1 := List.nodup_append.1 hn
    have hx : x ∉ sortU cf r.reverse := by
      rw [sortU_mem h]
      intro hm
      exact h1.2.2 x hm x (by simp) rfl
    exact (insU_perm h x _ hx).trans (((ih h1.1).cons x).trans (List.perm_append_singleton x _).symm)
def permOk (n : Nat) (p : List Int) : Prop := p.length = n ∧ p.Nodup ∧ ∀ x ∈ p, 0 ≤ x ∧ x < n
theorem idL_ok (n : Nat) : permOk n (idL n) := by
  refine ⟨by simp [idL, tab], ?_, ?_⟩
  · unfold idL tab
    rw [List.nodup_iff_pairwise_ne, List.pairwise_map]
    exact (List.nodup_iff_pairwise_ne.1 List.nodup_range).imp (fun h e => h (Int.ofNat_inj.1 e))
  · intro x hx
    unfold idL tab at hx
    obtain ⟨i, hi, rfl⟩ := List.mem_map.1 hx
    simp at hi; omega
def pa (p : List Int) (x : Int) : Int := p.getD x.toNat 0
theorem pa_inj {n : Nat} {p : List Int} (h : permOk n p) {x y : Int} (hx : 0 ≤ x ∧ x < n) (hy : 0 ≤ y ∧ y < n) (e : pa p x = pa p y) : x = y := by
  unfold pa at e
  have hxl : x.toNat < p.length := by rw [h.1]; omega
  have hyl : y.toNat < p.length := by rw [h.1]; omega
  rw [List.getD_eq_getElem?_getD, List.getD_eq_getElem?_getD, List.getElem?_eq_getElem hxl, List.getElem?_eq_getElem hyl, Option.getD_some, Option.getD_some] at e
  have hpw := List.pairwise_iff_getElem.1 (List.nodup_iff_pairwise_ne.1 h.2.1)
  rcases Nat.lt_trichotomy x.toNat y.toNat with hlt | heq | hgt
  · exact absurd e (hpw _ _ hxl hyl hlt)
  · omega
  · exact absurd e.symm (hpw _ _ hyl hxl hgt)
def img (p b : List Int) : List Int := sortU cmpZ (b.map (pa p))
theorem asc_Asc : ∀ {l : List Int} {lo hi : Int}, asc lo hi l = true → Asc cmpZ l
  | [], _, _, _ => .nil
  | x :: r, lo, hi, h => by
    simp only [asc, Bool.and_eq_true, decide_eq_true_eq] at h
    refine List.pairwise_cons.2 ⟨fun y hy => ?_, asc_Asc h.2⟩
    have := asc_mem h.2 y hy
    unfold cmpZ; omega
theorem Asc.nodup {A : Type} {cf : A → A → Int} (ht : TotC cf) {l : List A} (h : Asc cf l) : l.Nodup := by
  rw [List.nodup_iff_pairwise_ne]
  refine h.imp ?_
  rintro a b hab rfl
  have := (ht.eq0 a a).2 rfl
  omega
theorem map_nodup {n : Nat} {p b : List Int} (hp : permOk n p) (hb : asc 0 ((n : Int) - 1) b = true) : (b.map (pa p)).Nodup := by
  have h1 := (asc_Asc hb).nodup cmpZ_tot
  have h2 := asc_mem hb
  rw [List.nodup_iff_pairwise_ne, List.pairwise_map]
  refine List.Pairwise.imp_of_mem ?_ (List.nodup_iff_pairwise_ne.1 h1)
  intro x y hx hy hne he
  have a := h2 x hx
  have b := h2 y hy
  exact hne (pa_inj hp (by omega) (by omega) he)
theorem img_is {n : Nat} {p b : List Int} (hp : permOk n p) (hb : asc 0 ((n : Int) - 1) b = true) : isort (b.map (pa p)) = img p b := isort_is (map_nodup hp hb)
theorem img_mem (p b : List Int) (y : Int) : y ∈ img p b ↔ ∃ x ∈ b, pa p x = y := by unfold img; rw [sortU_mem cmpZ_tot, List.mem_map]
end Go.Proofs.YtkifdjjnbplghaaGreat
