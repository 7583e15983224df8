/- All permutations; images of systems under them; the least image, the automorphisms. -/
import Derived.Test.YthogadbnddmkdaaGreatzK60
import Derived.Test.YthogadbnddmkdaaGreatzK63
set_option linter.unusedSimpArgs false
set_option linter.unusedVariables false
set_option maxHeartbeats 4000000
set_option maxRecDepth 100000
namespace Go.Proofs.YthogadbnddmkdaaGreat
open Go.Av
theorem eraseIdx_append (s : List Int) (x : Int) (t : List Int) : (s ++ x :: t).eraseIdx s.length = s ++ t := by
  rw [List.eraseIdx_append_of_length_le (Nat.le_refl _), Nat.sub_self]; rfl
theorem unr_all : ∀ (k : Nat) (left l : List Int), left.length = k → l.Perm left → ∃ r, r < fct k ∧ unr k left r = l
  | 0, left, l, h, hp => by
    rw [List.eq_nil_of_length_eq_zero h] at hp
    exact ⟨0, by decide, by rw [List.perm_nil.1 hp]; rfl⟩
  | k + 1, left, [], h, hp => by
    have := hp.length_eq
    simp at this; omega
  | k + 1, left, x :: l, h, hp => by
    obtain ⟨s, t, rfl⟩ := List.append_of_mem (hp.mem_iff.1 (List.mem_cons_self (a := x) (l := l)))
    have hp2 : l.Perm (s ++ t) := (List.perm_cons x).1 (hp.trans List.perm_middle)
    have hl : (s ++ t).length = k := by simp at h ⊢; omega
    obtain ⟨r, hr, e⟩ := unr_all k (s ++ t) l hl hp2
    have hs : s.length ≤ k := by simp at hl; omega
    refine ⟨s.length * fct k + r, ?_, ?_⟩
    · have : (s.length + 1) * fct k ≤ (k + 1) * fct k := Nat.mul_le_mul_right _ (by omega)
      rw [Nat.add_mul] at this
      show _ < (k + 1) * fct k
      omega
    · have e1 : (s.length * fct k + r) / fct k = s.length := by
        rw [Nat.mul_comm, Nat.mul_add_div (fct_pos k), Nat.div_eq_of_lt hr]; omega
      have e2 : (s.length * fct k + r) % fct k = r := by
        rw [Nat.mul_comm, Nat.mul_add_mod, Nat.mod_eq_of_lt hr]
      unfold unr
      rw [e1, e2, eraseIdx_append, e]
      simp
theorem ok_perm {n : Nat} {p : List Int} (h : permOk n p) : p.Perm (idL n) := by
  have hi := idL_ok n
  refine (List.perm_ext_iff_of_nodup h.2.1 hi.2.1).2 (fun x => ?_)
  have hmem : ∀ x, 0 ≤ x ∧ x < (n : Int) → x ∈ idL n := fun x hx => by
    unfold idL tab
    exact List.mem_map.2 ⟨x.toNat, List.mem_range.2 (by omega), by omega⟩
  refine ⟨fun hx => hmem x (h.2.2 x hx), fun hx => ?_⟩
  -- a list of n different numbers below n holds them all
  refine Classical.byContradiction fun hn => ?_
  have h1 : (x :: p).Nodup := List.nodup_cons.2 ⟨hn, h.2.1⟩
  have h2 := nodup_sub_len h1 (fun y hy => by
    rcases List.mem_cons.1 hy with rfl | hy
    · exact hx
    · exact hmem y (h.2.2 y hy))
  rw [List.length_cons, h.1, hi.1] at h2
  omega
theorem perms_mem {n : Nat} {p : List Int} : p ∈ perms n ↔ permOk n p := by
  refine ⟨perms_ok, fun h => ?_⟩
  obtain ⟨r, hr, e⟩ := unr_all n (idL n) p (idL_ok n).1 (ok_perm h)
  exact List.mem_map.2 ⟨r, List.mem_range.2 hr, e⟩
theorem unr_inj : ∀ (k : Nat) (left : List Int) (r r' : Nat), left.length = k → left.Nodup → r < fct k → r' < fct k → unr k left r = unr k left r' → r = r'
  | 0, _, r, r', _, _, h1, h2, _ => by
    have e : fct 0 = 1 := rfl
    omega
  | k + 1, left, r, r', hl, hn, h1, h2, e => by
    unfold unr at e
    have a1 : r / fct k < k + 1 := Nat.div_lt_of_lt_mul (by rw [Nat.mul_comm]; exact h1)
    have a2 : r' / fct k < k + 1 := Nat.div_lt_of_lt_mul (by rw [Nat.mul_comm]; exact h2)
    simp only [List.cons.injEq] at e
    obtain ⟨e1, e2⟩ := e
    have hd : r / fct k = r' / fct k := by
      rw [List.getD_eq_getElem?_getD, List.getD_eq_getElem?_getD, List.getElem?_eq_getElem (by omega), List.getElem?_eq_getElem (by omega)] at e1
      exact (List.getElem_inj hn).1 e1
    rw [← hd] at e2
    have he : (left.eraseIdx (r / fct k)).length = k := by rw [List.length_eraseIdx_of_lt (by omega)]; omega
    have hm := unr_inj k _ _ _ he (hn.eraseIdx _) (Nat.mod_lt _ (fct_pos k)) (Nat.mod_lt _ (fct_pos k)) e2
    have q1 := Nat.div_add_mod r (fct k)
    have q2 := Nat.div_add_mod r' (fct k)
    rw [hd, hm] at q1
    omega
theorem perms_nodup (n : Nat) : (perms n).Nodup := by
  unfold perms
  rw [List.nodup_iff_pairwise_ne, List.pairwise_map]
  refine (List.nodup_iff_pairwise_ne.1 List.nodup_range).imp_of_mem ?_
  intro a b ha hb hab e
  rw [List.mem_range] at ha hb
  exact hab (unr_inj n (idL n) a b (idL_ok n).1 (idL_ok n).2.1 ha hb e)
theorem pa_onto {n : Nat} {p : List Int} (h : permOk n p) {y : Int} (h0 : 0 ≤ y) (h1 : y < n) : ∃ x : Int, 0 ≤ x ∧ x < n ∧ pa p x = y := by
  have hm : y ∈ p := by
    rw [(ok_perm h).mem_iff]
    unfold idL tab
    exact List.mem_map.2 ⟨y.toNat, List.mem_range.2 (by omega), by omega⟩
  obtain ⟨i, hi, e⟩ := List.getElem_of_mem hm
  refine ⟨(i : Int), by omega, by have := h.1; omega, ?_⟩
  unfold pa
  rw [List.getD_eq_getElem?_getD, Int.toNat_natCast, List.getElem?_eq_getElem hi]
  exact e
theorem inv_ex {n : Nat} {p : List Int} (h : permOk n p) : ∃ q, permOk n q ∧ ∀ x, 0 ≤ x → x < (n : Int) → pa q (pa p x) = x ∧ pa p (pa q x) = x := by
  have hf : ∀ y : Nat, ∃ x : Int, y < n → 0 ≤ x ∧ x < n ∧ pa p x = y := fun y => by
    by_cases hy : y < n
    · obtain ⟨x, h1, h2, h3⟩ := pa_onto h (y := (y : Int)) (by omega) (by omega)
      exact ⟨x, fun _ => ⟨h1, h2, h3⟩⟩
    · exact ⟨0, fun h => absurd h hy⟩
  obtain ⟨f, hf⟩ := Classical.axiomOfChoice hf
  have hq : ∀ y : Int, 0 ≤ y → y < n → pa (tab n f) y = f y.toNat := fun y h0 h1 => by
    unfold pa
    exact tab_getD _ (by omega)
  have hok : permOk n (tab n f) := by
    refine ⟨by simp [tab], ?_, ?_⟩
    · unfold tab
      rw [List.nodup_iff_pairwise_ne, List.pairwise_map]
      refine (List.nodup_iff_pairwise_ne.1 List.nodup_range).imp_of_mem ?_
      intro a b ha hb hab e
      rw [List.mem_range] at ha hb
      have g1 := (hf a ha).2.2
      have g2 := (hf b hb).2.2
      rw [e, g2] at g1
      omega
    · intro x hx
      unfold tab at hx
      obtain ⟨i, hi, rfl⟩ := List.mem_map.1 hx
      rw [List.mem_range] at hi
      exact ⟨(hf i hi).1, (hf i hi).2.1⟩
  refine ⟨tab n f, hok, fun x h0 h1 => ?_⟩
  have hpx := h.2.2 _ (pa_mem h h0 h1)
  refine ⟨?_, ?_⟩
  · rw [hq _ hpx.1 hpx.2]
    have g := hf (pa p x).toNat (by omega)
    exact pa_inj h ⟨g.1, g.2.1⟩ ⟨h0, h1⟩ (by rw [g.2.2]; omega)
  · rw [hq _ h0 h1]
    have g := hf x.toNat (by omega)
    rw [g.2.2]; omega
theorem img_img {n : Nat} {p q b : List Int} (hp : permOk n p) (hb : asc 0 ((n : Int) - 1) b = true) : img q (img p b) = img (mul p q) b := by
  refine asc_uniq cmpZ_tot (sortU_asc cmpZ_tot _) (sortU_asc cmpZ_tot _) (fun y => ?_)
  change y ∈ img q (img p b) ↔ y ∈ img (mul p q) b
  rw [img_mem, img_mem]
  constructor
  · rintro ⟨x, hx, rfl⟩
    obtain ⟨z, hz, rfl⟩ := (img_mem p b x).1 hx
    have := asc_mem hb z hz
    exact ⟨z, hz, pa_mul hp this.1 (by omega)⟩
  · rintro ⟨z, hz, rfl⟩
    have := asc_mem hb z hz
    exact ⟨pa p z, (img_mem p b _).2 ⟨z, hz, rfl⟩, (pa_mul hp this.1 (by omega)).symm⟩
theorem imgS_imgS {n : Nat} {p q : List Int} {bs : List (List Int)} (hp : permOk n p) (hb : ∀ b ∈ bs, asc 0 ((n : Int) - 1) b = true) : imgS q (imgS p bs) = imgS (mul p q) bs := by
  refine asc_uniq cmpL_tot (sortU_asc cmpL_tot _) (sortU_asc cmpL_tot _) (fun y => ?_)
  change y ∈ imgS q (imgS p bs) ↔ y ∈ imgS (mul p q) bs
  have hm : ∀ (p : List Int) (bs : List (List Int)) (y : List Int), y ∈ imgS p bs ↔ ∃ b ∈ bs, img p b = y := fun p bs y => by unfold imgS; rw [sortU_mem cmpL_tot, List.mem_map]
  rw [hm, hm]
  constructor
  · rintro ⟨x, hx, rfl⟩
    obtain ⟨z, hz, rfl⟩ := (hm p bs x).1 hx
    exact ⟨z, hz, (img_img hp (hb z hz)).symm⟩
  · rintro ⟨z, hz, rfl⟩
    exact ⟨img p z, (hm p bs _).2 ⟨z, hz, rfl⟩, img_img hp (hb z hz)⟩
end Go.Proofs.YthogadbnddmkdaaGreat
namespace Go.Proofs.YthogadbnddmkdaaGreat
open Go.Av
theorem perm_ext {n : Nat} {p q : List Int} (hp : permOk n p) (hq : permOk n q) (h : ∀ x : Int, 0 ≤ x → x < n → pa p x = pa q x) : p = q := by
  apply List.ext_getElem (by rw [hp.1, hq.1])
  intro i h1 h2
  have := h (i : Int) (by omega) (by have := hp.1; omega)
  unfold pa at this
  rw [Int.toNat_natCast, List.getD_eq_getElem?_getD, List.getD_eq_getElem?_getD, List.getElem?_eq_getElem h1, List.getElem?_eq_getElem h2] at this
  exact this
theorem pa_idL {n : Nat} {x : Int} (h0 : 0 ≤ x) (h1 : x < n) : pa (idL n) x = x := by
  unfold pa idL
  rw [tab_getD _ (by omega)]; omega
theorem mul_inv {n : Nat} {p q : List Int} (hp : permOk n p) (hq : permOk n q) (h : ∀ x : Int, 0 ≤ x → x < n → pa q (pa p x) = x ∧ pa p (pa q x) = x) : mul p q = idL n ∧ mul q p = idL n := by
  refine ⟨perm_ext (mul_ok hp hq) (idL_ok n) (fun x h0 h1 => ?_), perm_ext (mul_ok hq hp) (idL_ok n) (fun x h0 h1 => ?_)⟩
  · rw [pa_mul hp h0 h1, pa_idL h0 h1]; exact (h x h0 h1).1
  · rw [pa_mul hq h0 h1, pa_idL h0 h1]; exact (h x h0 h1).2
theorem img_idL {n : Nat} {b : List Int} (hb : asc 0 ((n : Int) - 1) b = true) : img (idL n) b = b := by
  unfold img
  have e : b.map (pa (idL n)) = b := (List.map_congr_left (fun x hx => by
    have := asc_mem hb x hx
    exact pa_idL this.1 (by omega))).trans (List.map_id _)
  rw [e]
  exact asc_uniq cmpZ_tot (sortU_asc cmpZ_tot _) (asc_Asc hb) (fun y => sortU_mem cmpZ_tot _ _)
theorem imgS_idL {n : Nat} {bs : List (List Int)} (hs : sysOk n bs) : imgS (idL n) bs = bs := by
  unfold imgS
  have e : bs.map (img (idL n)) = bs := (List.map_congr_left (fun b hb => img_idL (hs.2.2.2 b hb))).trans (List.map_id _)
  rw [e]
  exact asc_uniq cmpL_tot (sortU_asc cmpL_tot _) hs.2.2.1 (fun y => sortU_mem cmpL_tot _ _)
theorem img_ascJ {n : Nat} {p b : List Int} (hp : permOk n p) (hb : asc 0 ((n : Int) - 1) b = true) : asc 0 ((n : Int) - 1) (img p b) = true := by
  have ofA : ∀ (l : List Int) (lo : Int), Asc cmpZ l → (∀ x ∈ l, lo ≤ x ∧ x ≤ (n : Int) - 1) → asc lo ((n : Int) - 1) l = true := by
    intro l
    induction l with
    | nil => intros; rfl
    | cons x r ih =>
      intro lo ha hm
      have ha' := List.pairwise_cons.1 ha
      have hx := hm x (by simp)
      simp only [asc, Bool.and_eq_true, decide_eq_true_eq]
      refine ⟨hx, ih (x + 1) ha'.2 (fun y hy => ?_)⟩
      have h1 := ha'.1 y hy
      have h2 := hm y (by simp [hy])
      unfold cmpZ at h1
      omega
  refine ofA _ 0 (sortU_asc cmpZ_tot _) (fun x hx => ?_)
  obtain ⟨y, hy, rfl⟩ := (img_mem p b x).1 hx
  have h1 := asc_mem hb y hy
  have h2 := hp.2.2 _ (pa_mem hp h1.1 (by omega))
  omega
theorem imgS_memJ (p : List Int) (bs : List (List Int)) (y : List Int) : y ∈ imgS p bs ↔ ∃ b ∈ bs, img p b = y := by unfold imgS; rw [sortU_mem cmpL_tot, List.mem_map]
theorem imgS_sys {n : Nat} {p : List Int} {bs : List (List Int)} (hs : sysOk n bs) (hp : permOk n p) : sysOk n (imgS p bs) := by
  refine ⟨hs.1, hs.2.1, sortU_asc cmpL_tot _, fun b hb => ?_⟩
  obtain ⟨c, hc, rfl⟩ := (imgS_memJ p bs b).1 hb
  exact img_ascJ hp (hs.2.2.2 c hc)
theorem imgS_back {n : Nat} {p : List Int} {bs : List (List Int)} (hs : sysOk n bs) (hp : permOk n p) : ∃ q, permOk n q ∧ imgS q (imgS p bs) = bs ∧ mul p q = idL n ∧ mul q p = idL n := by
  obtain ⟨q, hq, h⟩ := inv_ex hp
  obtain ⟨e1, e2⟩ := mul_inv hp hq h
  exact ⟨q, hq, by rw [imgS_imgS hp hs.2.2.2, e1, imgS_idL hs], e1, e2⟩
theorem leastF_isJ (bs : List (List Int)) : ∀ l : List (List Int), leastF bs l = bs ∨ ∃ p ∈ l, leastF bs l = imgS p bs := by
  intro l
  rw [← List.reverse_reverse l]
  induction l.reverse with
  | nil => exact .inl rfl
  | cons p r ih =>
    rw [List.reverse_cons, leastF_snoc]
    split
    · exact .inr ⟨p, by simp, rfl⟩
    · rcases ih with ih | ⟨q, hq, ih⟩
      · exact .inl ih
      · exact .inr ⟨q, by simp at hq ⊢; exact .inl hq, ih⟩
theorem leastF_le (bs : List (List Int)) : ∀ l : List (List Int), ¬ cmpSS bs (leastF bs l) < 0 ∧ ∀ p ∈ l, ¬ cmpSS (imgS p bs) (leastF bs l) < 0 := by
  intro l
  rw [← List.reverse_reverse l]
  induction l.reverse with
  | nil =>
    refine ⟨?_, by simp⟩
    show ¬ cmpSS bs bs < 0
    rw [(cmpSS_eq0 bs bs).2 rfl]; omega
  | cons p r ih =>
    rw [List.reverse_cons, leastF_snoc]
    obtain ⟨h1, h2⟩ := ih
    split
    · rename_i hlt
      refine ⟨fun h => h1 (cmpSS_trans _ _ _ h hlt), fun q hq => ?_⟩
      rcases List.mem_append.1 hq with hq | hq
      · exact fun h => h2 q hq (cmpSS_trans _ _ _ h hlt)
      · rw [List.mem_singleton.1 hq, (cmpSS_eq0 _ _).2 rfl]; omega
    · rename_i hlt
      refine ⟨h1, fun q hq => ?_⟩
      rcases List.mem_append.1 hq with hq | hq
      · exact h2 q hq
      · rw [List.mem_singleton.1 hq]; exact hlt
theorem least_ex {n : Nat} {bs : List (List Int)} (hs : sysOk n bs) : ∃ p, permOk n p ∧ leastF bs (perms n) = imgS p bs := by
  rcases leastF_isJ bs (perms n) with e | ⟨p, hp, e⟩
  · exact ⟨idL n, idL_ok n, by rw [e, imgS_idL hs]⟩
  · exact ⟨p, perms_ok hp, e⟩
theorem least_min {n : Nat} {p : List Int} {bs : List (List Int)} (hp : permOk n p) : ¬ cmpSS (imgS p bs) (leastF bs (perms n)) < 0 := (leastF_le bs (perms n)).2 p (perms_mem.2 hp)
theorem cmp_anti {a b : List (List Int)} (h1 : ¬ cmpSS a b < 0) (h2 : ¬ cmpSS b a < 0) : a = b := by
  have := cmpSS_neg a b
  exact (cmpSS_eq0 a b).1 (by omega)
theorem least_inv {n : Nat} {p : List Int} {bs : List (List Int)} (hs : sysOk n bs) (hp : permOk n p) : leastF (imgS p bs) (perms n) = leastF bs (perms n) := by
  obtain ⟨q, hq, e1⟩ := least_ex hs
  obtain ⟨r, hr, e2⟩ := least_ex (imgS_sys hs hp)
  obtain ⟨b, hb, e3, -, -⟩ := imgS_back hs hp
  refine cmp_anti ?_ ?_
  · rw [e2, imgS_imgS hp hs.2.2.2]
    exact least_min (mul_ok hp hr)
  · rw [e1]
    have : imgS q bs = imgS (mul b q) (imgS p bs) := by
      rw [← imgS_imgS hb (imgS_sys hs hp).2.2.2, e3]
    rw [this]
    exact least_min (mul_ok hb hq)
theorem sameC_mem {bs : List (List Int)} {l : List (List Int)} {p : List Int} : p ∈ l.filter (fun p => decide (cmpSS (imgS p bs) bs = 0)) ↔ p ∈ l ∧ imgS p bs = bs := by
  rw [List.mem_filter, decide_eq_true_eq, cmpSS_eq0]
end Go.Proofs.YthogadbnddmkdaaGreat
namespace Go.Proofs.YthogadbnddmkdaaGreat
open Go.Av
theorem chain_back (v : Int) : ∀ (l : List (List Int)) (p : Option (List Int)), Asc cmpL l → (∀ b ∈ l, asc 0 (v - 1) b = true ∧ b ≠ []) → (∀ q, p = some q → ∀ b ∈ l, cmpL q b < 0) → chain v p l = true
  | [], _, _, _, _ => by simp [chain]
  | b :: l, p, ha, hb, hq => by
    have h2 : ∀ y ∈ l, cmpL b y < 0 := fun y hy => (List.pairwise_cons.1 ha).1 y hy
    have h3 := chain_back v l (some b) (List.pairwise_cons.1 ha).2 (fun c hc => hb c (by simp [hc])) (fun q hq2 c hc => by cases hq2; exact h2 c hc)
    have h4 := hb b (by simp)
    simp only [chain, h3, h4.1]
    cases p with
    | none => simp [h4.2]
    | some q => have := hq q rfl b (by simp); simp [h4.2, this]
end Go.Proofs.YthogadbnddmkdaaGreat
namespace Go.Proofs.YthogadbnddmkdaaGreat
open Go.Av
def sumN {A : Type} (f : A → Nat) (l : List A) : Nat := (l.map f).sum
theorem sumN_nil {A : Type} (f : A → Nat) : sumN f [] = 0 := rfl
theorem sumN_cons {A : Type} (f : A → Nat) (x : A) (l : List A) : sumN f (x :: l) = f x + sumN f l := by simp [sumN]
theorem sumN_app {A : Type} (f : A → Nat) (l m : List A) : sumN f (l ++ m) = sumN f l + sumN f m := by simp [sumN]
theorem sumN_congr {A : Type} {f g : A → Nat} {l : List A} (h : ∀ x ∈ l, f x = g x) : sumN f l = sumN g l := by
  unfold sumN
  rw [List.map_congr_left h]
theorem sumN_add {A : Type} (f g : A → Nat) : ∀ l : List A, sumN (fun x => f x + g x) l = sumN f l + sumN g l
  | [] => rfl
  | x :: l => by rw [sumN_cons, sumN_cons, sumN_cons, sumN_add f g l]; omega
theorem sumN_const {A : Type} (c : Nat) : ∀ l : List A, sumN (fun _ => c) l = l.length * c
  | [] => by simp [sumN]
  | x :: l => by rw [sumN_cons, sumN_const c l, List.length_cons, Nat.add_mul]; omega
theorem sumN_ind {K : Type} [DecidableEq K] (y : K) : ∀ D : List K, D.Nodup → y ∈ D → sumN (fun d => if y = d then 1 else 0) D = 1
  | [], _, h => by simp at h
  | d :: D, hn, h => by
    rw [List.nodup_cons] at hn
    rw [sumN_cons]
    by_cases e : y = d
    · subst e
      rw [if_pos rfl]
      have : sumN (fun d => if y = d then 1 else 0) D = sumN (fun _ => 0) D := sumN_congr (fun x hx => if_neg (fun (e : y = x) => hn.1 (by rw [e]; exact hx)))
      rw [this, sumN_const]; omega
    · rw [if_neg e, sumN_ind y D hn.2 ((List.mem_cons.1 h).resolve_left e)]
theorem parted {A K : Type} [DecidableEq K] (f : A → K) {D : List K} (hD : D.Nodup) : ∀ L : List A, (∀ x ∈ L, f x ∈ D) → L.length = sumN (fun d => (L.filter fun x => decide (f x = d)).length) D
  | [], _ => by
    have : sumN (fun d => (([] : List A).filter fun x => decide (f x = d)).length) D = sumN (fun _ => 0) D := sumN_congr (fun _ _ => rfl)
    rw [this, sumN_const]; rfl
  | x :: L, h => by
    have ih := parted f hD L (fun y hy => h y (by simp [hy]))
    have e : sumN (fun d => ((x :: L).filter fun x => decide (f x = d)).length) D = sumN (fun d => (if f x = d then 1 else 0) + (L.filter fun x => decide (f x = d)).length) D := by
      refine sumN_congr (fun d _ => ?_)
      rw [List.filter_cons]
      by_cases hd : f x = d
      · simp [hd]; omega
      · simp [hd]
    rw [e, sumN_add, sumN_ind (f x) D hD (h x (by simp)), ← ih, List.length_cons]; omega
theorem same_len {A : Type} {l m : List A} (hl : l.Nodup) (hm : m.Nodup) (h : ∀ x, x ∈ l ↔ x ∈ m) : l.length = m.length := by
  have h1 := nodup_sub_len hl (fun x hx => (h x).1 hx)
  have h2 := nodup_sub_len hm (fun x hx => (h x).2 hx)
  omega
theorem perms_lenJ (n : Nat) : (perms n).length = fct n := by simp [perms]
def orbF (n : Nat) (bs : List (List Int)) : List (List (List Int)) := sortU cmpSS ((perms n).map fun p => imgS p bs)
theorem orbF_mem {n : Nat} {bs o : List (List Int)} : o ∈ orbF n bs ↔ ∃ p, permOk n p ∧ imgS p bs = o := by
  unfold orbF
  rw [sortU_mem cmpSS_tot, List.mem_map]
  exact ⟨fun ⟨p, hp, e⟩ => ⟨p, perms_ok hp, e⟩, fun ⟨p, hp, e⟩ => ⟨p, perms_mem.2 hp, e⟩⟩
theorem AscSS_nodup {l : List (List (List Int))} (h : Asc cmpSS l) : l.Nodup := h.nodup cmpSS_tot
theorem fiber_len {n : Nat} {bs : List (List Int)} (hs : sysOk n bs) {r : List Int} (hr : permOk n r) : ((perms n).filter fun p => decide (imgS p bs = imgS r bs)).length = sameC bs (perms n) := by
  obtain ⟨b, hb, e3, e4, e5⟩ := imgS_back hs hr
  have hn := perms_nodup n
  have h1 : (((perms n).filter fun p => decide (imgS p bs = imgS r bs)).map fun p => mul p b).Nodup := by
    rw [List.nodup_iff_pairwise_ne, List.pairwise_map]
    refine (List.nodup_iff_pairwise_ne.1 (hn.filter _)).imp_of_mem ?_
    intro x y hx hy hxy e
    have hx' := perms_ok (List.mem_filter.1 hx).1
    have hy' := perms_ok (List.mem_filter.1 hy).1
    have c : ∀ z, permOk n z → mul (mul z b) r = z := fun z hz => by rw [← mul_assoc' hz hb, e5, mul_one hz]
    exact hxy (by rw [← c x hx', ← c y hy', e])
  have h2 : (((perms n).filter fun p => decide (cmpSS (imgS p bs) bs = 0)).map fun q => mul q r).Nodup := by
    rw [List.nodup_iff_pairwise_ne, List.pairwise_map]
    refine (List.nodup_iff_pairwise_ne.1 (hn.filter _)).imp_of_mem ?_
    intro x y hx hy hxy e
    have hx' := perms_ok (List.mem_filter.1 hx).1
    have hy' := perms_ok (List.mem_filter.1 hy).1
    have c : ∀ z, permOk n z → mul (mul z r) b = z := fun z hz => by rw [← mul_assoc' hz hr, e4, mul_one hz]
    exact hxy (by rw [← c x hx', ← c y hy', e])
  have g1 := nodup_sub_len (m := (perms n).filter fun p => decide (cmpSS (imgS p bs) bs = 0)) h1 (fun z hz => by
    obtain ⟨p, hp, rfl⟩ := List.mem_map.1 hz
    obtain ⟨q1, q2⟩ := List.mem_filter.1 hp
    have hpo := perms_ok q1
    refine sameC_mem.2 ⟨perms_mem.2 (mul_ok hpo hb), ?_⟩
    rw [← imgS_imgS hpo hs.2.2.2, of_decide_eq_true q2, e3])
  have g2 := nodup_sub_len (m := (perms n).filter fun p => decide (imgS p bs = imgS r bs)) h2 (fun z hz => by
    obtain ⟨q, hq, rfl⟩ := List.mem_map.1 hz
    obtain ⟨q1, q2⟩ := sameC_mem.1 hq
    have hqo := perms_ok q1
    refine List.mem_filter.2 ⟨perms_mem.2 (mul_ok hqo hr), decide_eq_true ?_⟩
    rw [← imgS_imgS hqo hs.2.2.2, q2])
  rw [List.length_map] at g1 g2
  unfold sameC
  omega
theorem orb_stab {n : Nat} {bs : List (List Int)} (hs : sysOk n bs) : (orbF n bs).length * sameC bs (perms n) = fct n := by
  have hD : (orbF n bs).Nodup := AscSS_nodup (sortU_asc cmpSS_tot _)
  have h := parted (fun p => imgS p bs) hD (perms n) (fun p hp => orbF_mem.2 ⟨p, perms_ok hp, rfl⟩)
  rw [perms_lenJ] at h
  rw [h, ← sumN_const]
  refine (sumN_congr (fun o ho => ?_)).symm
  obtain ⟨r, hr, rfl⟩ := orbF_mem.1 ho
  exact fiber_len hs hr
theorem sameC_pos {n : Nat} {bs : List (List Int)} (hs : sysOk n bs) : 1 ≤ sameC bs (perms n) := by
  have : idL n ∈ (perms n).filter (fun p => decide (cmpSS (imgS p bs) bs = 0)) := sameC_mem.2 ⟨perms_mem.2 (idL_ok n), imgS_idL hs⟩
  unfold sameC
  exact List.length_pos_of_mem this
theorem orb_least {n : Nat} {bs cs : List (List Int)} (hs : sysOk n bs) (hc : sysOk n cs) : cs ∈ orbF n bs ↔ leastF cs (perms n) = leastF bs (perms n) := by
  rw [orbF_mem]
  constructor
  · rintro ⟨p, hp, rfl⟩
    exact least_inv hs hp
  · intro e
    obtain ⟨p, hp, e1⟩ := least_ex hs
    obtain ⟨q, hq, e2⟩ := least_ex hc
    obtain ⟨b, hb, e3, -, -⟩ := imgS_back hc hq
    refine ⟨mul p b, mul_ok hp hb, ?_⟩
    rw [← imgS_imgS hp hs.2.2.2, ← e1, ← e, e2, e3]
end Go.Proofs.YthogadbnddmkdaaGreat
