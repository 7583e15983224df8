/- Permutations, images of sets and of systems: the plain law. -/
import Derived.Test.YtmdeibdplpodpaaGreatzS3
import Derived.Test.YtmdeibdplpodpaaGreatzS1
import Derived.Test.YtmdeibdplpodpaaGreatzK2
import Derived.Test.YtmdeibdplpodpaaGreatzK8
set_option linter.unusedSimpArgs false
set_option linter.unusedVariables false
set_option maxHeartbeats 4000000
set_option maxRecDepth 100000
namespace Go.Proofs.YtmdeibdplpodpaaGreat
open Go.Av
def cmpZ (a b : Int) : Int := a - b
theorem cmpZ_tot : TotC cmpZ := ⟨fun x y => by unfold cmpZ; omega, fun x y => by unfold cmpZ; omega, fun x y z => by unfold cmpZ; omega⟩
theorem isort_is {zs : List Int} (h : zs.Nodup) : isort zs = sortU cmpZ zs := by
  refine sorted_is cmpZ_tot (List.mergeSort_perm zs _) ?_ h
  have := List.pairwise_mergeSort (le := fun x y : Int => decide (x ≤ y)) (fun a b c h1 h2 => by simp at *; omega) (fun a b => by simp; omega) zs
  refine this.imp ?_
  intro a b hab
  unfold cmpZ
  simp at hab; omega
theorem insU_perm {A : Type} {cf : A → A → Int} (h : TotC cf) (x : A) : ∀ l : List A, x ∉ l → (insU cf x l).Perm (x :: l)
  | [], _ => .refl _
  | z :: r, hx => by
    unfold insU
    simp only [List.mem_cons, not_or] at hx
    split
    · split
      · exact .refl _
      · exact absurd ((h.eq0 z x).1 (by omega)) (Ne.symm hx.1)
    · exact ((insU_perm h x r hx.2).cons z).trans (.swap _ _ _)
theorem sortU_perm {A : Type} {cf : A → A → Int} (h : TotC cf) {l : List A} (hn : l.Nodup) : (sortU cf l).Perm l := by
  rw [← List.reverse_reverse l] at hn ⊢
  revert hn
  induction l.reverse with
  | nil => intro _; exact .refl _
  | cons x r ih =>
    intro hn
    rw [List.reverse_cons] at hn ⊢
    rw [sortU_snoc]
    have h1 := List.nodup_append.1 hn
    have hx : x ∉ sortU cf r.reverse := by
      rw [sortU_mem h]
      intro hm
      exact h1.2.2 x hm x (by simp) rfl
    exact (insU_perm h x _ hx).trans (((ih h1.1).cons x).trans (List.perm_append_singleton x _).symm)
theorem erase_perm : ∀ (l : List Int) (i : Nat) (h : i < l.length), (l[i] :: l.eraseIdx i).Perm l
  | a :: l, 0, _ => .refl _
  | a :: l, i + 1, h => by
    have := erase_perm l i (by simpa using h)
    simp only [List.getElem_cons_succ, List.eraseIdx_cons_succ]
    exact (List.Perm.swap _ _ _).trans (this.cons a)
def fct : Nat → Nat
  | 0 => 1
  | n + 1 => (n + 1) * fct n
theorem fct_pos : ∀ n, 0 < fct n
  | 0 => by decide
  | n + 1 => Nat.mul_pos (Nat.succ_pos n) (fct_pos n)
def unr : Nat → List Int → Nat → List Int
  | 0, _, _ => []
  | k + 1, left, r => left.getD (r / fct k) 0 :: unr k (left.eraseIdx (r / fct k)) (r % fct k)
theorem unr_length : ∀ (k : Nat) (left : List Int) (r : Nat), (unr k left r).length = k
  | 0, _, _ => rfl
  | k + 1, left, r => by simp [unr, unr_length k]
theorem unr_perm : ∀ (k : Nat) (left : List Int) (r : Nat), left.length = k → r < fct k → (unr k left r).Perm left
  | 0, left, r, h, _ => by rw [List.eq_nil_of_length_eq_zero h]; exact .refl _
  | k + 1, left, r, h, hr => by
    have hat : r / fct k < k + 1 := Nat.div_lt_of_lt_mul (by rw [Nat.mul_comm]; exact hr)
    have hm := Nat.mod_lt r (fct_pos k)
    have hl : r / fct k < left.length := by omega
    unfold unr
    have he : (left.eraseIdx (r / fct k)).length = k := by rw [List.length_eraseIdx_of_lt hl]; omega
    refine ((unr_perm k _ _ he hm).cons _).trans ?_
    rw [List.getD_eq_getElem?_getD, List.getElem?_eq_getElem hl, Option.getD_some]
    exact erase_perm _ _ hl
def perm (n r : Nat) : List Int := unr n (idL n) r
def permOk (n : Nat) (p : List Int) : Prop := p.length = n ∧ p.Nodup ∧ ∀ x ∈ p, 0 ≤ x ∧ x < n
theorem idL_ok (n : Nat) : permOk n (idL n) := by
  refine ⟨by simp [idL, tab], ?_, ?_⟩
  · unfold idL tab
    rw [List.nodup_iff_pairwise_ne, List.pairwise_map]
    exact (List.nodup_iff_pairwise_ne.1 List.nodup_range).imp (fun h e => h (Int.ofNat_inj.1 e))
  · intro x hx
    unfold idL tab at hx
    obtain ⟨i, hi, rfl⟩ := List.mem_map.1 hx
    simp at hi; omega
theorem perm_ok {n r : Nat} (hr : r < fct n) : permOk n (perm n r) := by
  have h := idL_ok n
  have hp := unr_perm n (idL n) r h.1 hr
  exact ⟨unr_length _ _ _, hp.nodup_iff.2 h.2.1, fun x hx => h.2.2 x (hp.mem_iff.1 hx)⟩
def pa (p : List Int) (x : Int) : Int := p.getD x.toNat 0
theorem pa_inj {n : Nat} {p : List Int} (h : permOk n p) {x y : Int} (hx : 0 ≤ x ∧ x < n) (hy : 0 ≤ y ∧ y < n) (e : pa p x = pa p y) : x = y := by
  unfold pa at e
  have hxl : x.toNat < p.length := by rw [h.1]; omega
  have hyl : y.toNat < p.length := by rw [h.1]; omega
  rw [List.getD_eq_getElem?_getD, List.getD_eq_getElem?_getD, List.getElem?_eq_getElem hxl, List.getElem?_eq_getElem hyl, Option.getD_some, Option.getD_some] at e
  have hpw := List.pairwise_iff_getElem.1 (List.nodup_iff_pairwise_ne.1 h.2.1)
  rcases Nat.lt_trichotomy x.toNat y.toNat with hlt | heq | hgt
  · exact absurd e (hpw _ _ hxl hyl hlt)
  · omega
  · exact absurd e.symm (hpw _ _ hyl hxl hgt)
def img (p b : List Int) : List Int := sortU cmpZ (b.map (pa p))
def imgS (p : List Int) (bs : List (List Int)) : List (List Int) := sortU cmpL (bs.map (img p))
theorem asc_Asc : ∀ {l : List Int} {lo hi : Int}, asc lo hi l = true → Asc cmpZ l
  | [], _, _, _ => .nil
  | x :: r, lo, hi, h => by
    simp only [asc, Bool.and_eq_true, decide_eq_true_eq] at h
    refine List.pairwise_cons.2 ⟨fun y hy => ?_, asc_Asc h.2⟩
    have := asc_mem h.2 y hy
    unfold cmpZ; omega
theorem Asc.nodup {A : Type} {cf : A → A → Int} (ht : TotC cf) {l : List A} (h : Asc cf l) : l.Nodup := by
  rw [List.nodup_iff_pairwise_ne]
  refine h.imp ?_
  rintro a b hab rfl
  have := (ht.eq0 a a).2 rfl
  omega
theorem map_nodup {n : Nat} {p b : List Int} (hp : permOk n p) (hb : asc 0 ((n : Int) - 1) b = true) : (b.map (pa p)).Nodup := by
  have h1 := (asc_Asc hb).nodup cmpZ_tot
  have h2 := asc_mem hb
  rw [List.nodup_iff_pairwise_ne, List.pairwise_map]
  refine List.Pairwise.imp_of_mem ?_ (List.nodup_iff_pairwise_ne.1 h1)
  intro x y hx hy hne he
  have a := h2 x hx
  have b := h2 y hy
  exact hne (pa_inj hp (by omega) (by omega) he)
theorem img_is {n : Nat} {p b : List Int} (hp : permOk n p) (hb : asc 0 ((n : Int) - 1) b = true) : isort (b.map (pa p)) = img p b := isort_is (map_nodup hp hb)
theorem img_mem (p b : List Int) (y : Int) : y ∈ img p b ↔ ∃ x ∈ b, pa p x = y := by unfold img; rw [sortU_mem cmpZ_tot, List.mem_map]
theorem img_inj {n : Nat} {p b c : List Int} (hp : permOk n p) (hb : asc 0 ((n : Int) - 1) b = true) (hc : asc 0 ((n : Int) - 1) c = true) (e : img p b = img p c) : b = c := by
  refine asc_uniq cmpZ_tot (asc_Asc hb) (asc_Asc hc) (fun x => ?_)
  have hbm := asc_mem hb
  have hcm := asc_mem hc
  constructor
  · intro hx
    obtain ⟨y, hy, he⟩ := (img_mem p c _).1 (e ▸ (img_mem p b _).2 ⟨x, hx, rfl⟩)
    have a := hbm x hx
    have b := hcm y hy
    rw [← pa_inj hp (by omega) (by omega) he]; exact hy
  · intro hx
    obtain ⟨y, hy, he⟩ := (img_mem p b _).1 (e.symm ▸ (img_mem p c _).2 ⟨x, hx, rfl⟩)
    have a := hcm x hx
    have b := hbm y hy
    rw [← pa_inj hp (by omega) (by omega) he]; exact hy
theorem images_nodup {n : Nat} {p : List Int} {bs : List (List Int)} (hp : permOk n p) (ha : Asc cmpL bs) (hb : ∀ b ∈ bs, asc 0 ((n : Int) - 1) b = true) : (bs.map (img p)).Nodup := by
  rw [List.nodup_iff_pairwise_ne, List.pairwise_map]
  refine List.Pairwise.imp_of_mem ?_ (List.nodup_iff_pairwise_ne.1 (ha.nodup cmpL_tot))
  intro x y hx hy hne he
  exact hne (img_inj hp (hb x hx) (hb y hy) he)
def cmpSS : List (List Int) → List (List Int) → Int
  | [], [] => 0
  | [], _ :: _ => -1
  | _ :: _, [] => 1
  | x :: a, y :: b => if cmpL x y = 0 then cmpSS a b else cmpL x y
end Go.Proofs.YtmdeibdplpodpaaGreat
namespace Go.Proofs.YtmdeibdplpodpaaGreat
open Go.Av
def mul (p q : List Int) : List Int := p.map (pa q)
theorem mul_length (p q : List Int) : (mul p q).length = p.length := by simp [mul]
theorem pa_mem {n : Nat} {p : List Int} (h : permOk n p) {x : Int} (h0 : 0 ≤ x) (h1 : x < n) : pa p x ∈ p := by
  unfold pa
  rw [List.getD_eq_getElem?_getD, List.getElem?_eq_getElem (by rw [h.1]; omega)]
  exact List.getElem_mem _
theorem mul_ok {n : Nat} {p q : List Int} (hp : permOk n p) (hq : permOk n q) : permOk n (mul p q) := by
  refine ⟨by rw [mul_length]; exact hp.1, ?_, fun x hx => ?_⟩
  · unfold mul
    rw [List.nodup_iff_pairwise_ne, List.pairwise_map]
    have := List.nodup_iff_pairwise_ne.1 hp.2.1
    refine this.imp_of_mem ?_
    intro a b ha hb hab he
    exact hab (pa_inj hq (hp.2.2 a ha) (hp.2.2 b hb) he)
  · obtain ⟨y, hy, rfl⟩ := List.mem_map.1 hx
    have := hp.2.2 y hy
    exact hq.2.2 _ (pa_mem hq this.1 this.2)
theorem mul_one {n : Nat} {p : List Int} (hp : permOk n p) : mul p (idL n) = p := by
  unfold mul
  refine (List.map_congr_left (fun x hx => ?_)).trans (List.map_id _)
  have := hp.2.2 x hx
  unfold pa idL
  rw [tab_getD _ (by omega)]
  simp; omega
theorem pa_mul {n : Nat} {p q : List Int} (hp : permOk n p) {x : Int} (h0 : 0 ≤ x) (h1 : x < n) : pa (mul p q) x = pa q (pa p x) := by
  have hl : x.toNat < p.length := by rw [hp.1]; omega
  unfold mul
  show (p.map (pa q)).getD x.toNat 0 = pa q (p.getD x.toNat 0)
  rw [List.getD_eq_getElem?_getD, List.getD_eq_getElem?_getD, List.getElem?_map, List.getElem?_eq_getElem hl]
  rfl
theorem mul_assoc' {n : Nat} {p q r : List Int} (hp : permOk n p) (hq : permOk n q) : mul p (mul q r) = mul (mul p q) r := by
  unfold mul
  rw [List.map_map]
  refine List.map_congr_left fun x hx => ?_
  have := hp.2.2 x hx
  exact pa_mul hq this.1 this.2
theorem nodup_sub_len {A : Type} : ∀ {l m : List A}, l.Nodup → (∀ x ∈ l, x ∈ m) → l.length ≤ m.length
  | [], _, _, _ => Nat.zero_le _
  | a :: l, m, hn, hs => by
    rw [List.nodup_cons] at hn
    obtain ⟨s, t, rfl⟩ := List.append_of_mem (hs a (by simp))
    have := nodup_sub_len (l := l) (m := s ++ t) hn.2 (fun x hx => by
      have h1 := hs x (by simp [hx])
      rcases List.mem_append.1 h1 with h1 | h1
      · exact List.mem_append_left _ h1
      · rcases List.mem_cons.1 h1 with rfl | h1
        · exact absurd hx hn.1
        · exact List.mem_append_right _ h1)
    simp at this ⊢; omega
end Go.Proofs.YtmdeibdplpodpaaGreat
