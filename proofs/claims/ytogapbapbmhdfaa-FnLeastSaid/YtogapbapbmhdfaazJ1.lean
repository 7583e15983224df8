/- All permutations; images of systems under them; the least image, the automorphisms. -/
import Derived.Test.YtogapbapbmhdfaazVP
import Derived.Test.YtogapbapbmhdfaazK64
import Derived.Test.YtogapbapbmhdfaazJZ
set_option linter.unusedSimpArgs false
set_option linter.unusedVariables false
set_option maxHeartbeats 4000000
set_option maxRecDepth 100000
namespace Go.Proofs.Ytogapbapbmhdfaa
open Go.Av
theorem eraseIdx_append (s : List Int) (x : Int) (t : List Int) : (s ++ x :: t).eraseIdx s.length = s ++ t := by
  rw [List.eraseIdx_append_of_length_le (Nat.le_refl _), Nat.sub_self]; rfl
theorem unr_all : ∀ (k : Nat) (left l : List Int), left.length = k → l.Perm left → ∃ r, r < fct k ∧ unr k left r = l
  | 0, left, l, h, hp => by
    rw [List.eq_nil_of_length_eq_zero h] at hp
    exact ⟨0, by decide, by rw [List.perm_nil.1 hp]; rfl⟩
  | k + 1, left, [], h, hp => by
    have := hp.length_eq
    simp at this; omega
  | k + 1, left, x :: l, h, hp => by
    obtain ⟨s, t, rfl⟩ := List.append_of_mem (hp.mem_iff.1 (List.mem_cons_self (a := x) (l := l)))
    have hp2 : l.Perm (s ++ t) := (List.perm_cons x).1 (hp.trans List.perm_middle)
    have hl : (s ++ t).length = k := by simp at h ⊢; omega
    obtain ⟨r, hr, e⟩ := unr_all k (s ++ t) l hl hp2
    have hs : s.length ≤ k := by simp at hl; omega
    refine ⟨s.length * fct k + r, ?_, ?_⟩
    · have : (s.length + 1) * fct k ≤ (k + 1) * fct k := Nat.mul_le_mul_right _ (by omega)
      rw [Nat.add_mul] at this
      show _ < (k + 1) * fct k
      omega
    · have e1 : (s.length * fct k + r) / fct k = s.length := by
        rw [Nat.mul_comm, Nat.mul_add_div (fct_pos k), Nat.div_eq_of_lt hr]; omega
      have e2 : (s.length * fct k + r) % fct k = r := by
        rw [Nat.mul_comm, Nat.mul_add_mod, Nat.mod_eq_of_lt hr]
      unfold unr
      rw [e1, e2, eraseIdx_append, e]
      simp
theorem ok_perm {n : Nat} {p : List Int} (h : permOk n p) : p.Perm (idL n) := by
  have hi := idL_ok n
  refine (List.perm_ext_iff_of_nodup h.2.1 hi.2.1).2 (fun x => ?_)
  have hmem : ∀ x, 0 ≤ x ∧ x < (n : Int) → x ∈ idL n := fun x hx => by
    unfold idL tab
    exact List.mem_map.2 ⟨x.toNat, List.mem_range.2 (by omega), by omega⟩
  refine ⟨fun hx => hmem x (h.2.2 x hx), fun hx => ?_⟩
  -- a list of n different numbers below n holds them all
  refine Classical.byContradiction fun hn => ?_
  have h1 : (x :: p).Nodup := List.nodup_cons.2 ⟨hn, h.2.1⟩
  have h2 := nodup_sub_len h1 (fun y hy => by
    rcases List.mem_cons.1 hy with rfl | hy
    · exact hx
    · exact hmem y (h.2.2 y hy))
  rw [List.length_cons, h.1, hi.1] at h2
  omega
theorem perms_mem {n : Nat} {p : List Int} : p ∈ perms n ↔ permOk n p := by
  refine ⟨perms_ok, fun h => ?_⟩
  obtain ⟨r, hr, e⟩ := unr_all n (idL n) p (idL_ok n).1 (ok_perm h)
  exact List.mem_map.2 ⟨r, List.mem_range.2 hr, e⟩
theorem unr_inj : ∀ (k : Nat) (left : List Int) (r r' : Nat), left.length = k → left.Nodup → r < fct k → r' < fct k → unr k left r = unr k left r' → r = r'
  | 0, _, r, r', _, _, h1, h2, _ => by
    have e : fct 0 = 1 := rfl
    omega
  | k + 1, left, r, r', hl, hn, h1, h2, e => by
    unfold unr at e
    have a1 : r / fct k < k + 1 := Nat.div_lt_of_lt_mul (by rw [Nat.mul_comm]; exact h1)
    have a2 : r' / fct k < k + 1 := Nat.div_lt_of_lt_mul (by rw [Nat.mul_comm]; exact h2)
    simp only [List.cons.injEq] at e
    obtain ⟨e1, e2⟩ := e
    have hd : r / fct k = r' / fct k := by
      rw [List.getD_eq_getElem?_getD, List.getD_eq_getElem?_getD, List.getElem?_eq_getElem (by omega), List.getElem?_eq_getElem (by omega)] at e1
      exact (List.getElem_inj hn).1 e1
    rw [← hd] at e2
    have he : (left.eraseIdx (r / fct k)).length = k := by rw [List.length_eraseIdx_of_lt (by omega)]; omega
    have hm := unr_inj k _ _ _ he (hn.eraseIdx _) (Nat.mod_lt _ (fct_pos k)) (Nat.mod_lt _ (fct_pos k)) e2
    have q1 := Nat.div_add_mod r (fct k)
    have q2 := Nat.div_add_mod r' (fct k)
    rw [hd, hm] at q1
    omega
theorem perms_nodup (n : Nat) : (perms n).Nodup := by
  unfold perms
  rw [List.nodup_iff_pairwise_ne, List.pairwise_map]
  refine (List.nodup_iff_pairwise_ne.1 List.nodup_range).imp_of_mem ?_
  intro a b ha hb hab e
  rw [List.mem_range] at ha hb
  exact hab (unr_inj n (idL n) a b (idL_ok n).1 (idL_ok n).2.1 ha hb e)
theorem pa_onto {n : Nat} {p : List Int} (h : permOk n p) {y : Int} (h0 : 0 ≤ y) (h1 : y < n) : ∃ x : Int, 0 ≤ x ∧ x < n ∧ pa p x = y := by
  have hm : y ∈ p := by
    rw [(ok_perm h).mem_iff]
    unfold idL tab
    exact List.mem_map.2 ⟨y.toNat, List.mem_range.2 (by omega), by omega⟩
  obtain ⟨i, hi, e⟩ := List.getElem_of_mem hm
  refine ⟨(i : Int), by omega, by have := h.1; omega, ?_⟩
  unfold pa
  rw [List.getD_eq_getElem?_getD, Int.toNat_natCast, List.getElem?_eq_getElem hi]
  exact e
theorem inv_ex {n : Nat} {p : List Int} (h : permOk n p) : ∃ q, permOk n q ∧ ∀ x, 0 ≤ x → x < (n : Int) → pa q (pa p x) = x ∧ pa p (pa q x) = x := by
  have hf : ∀ y : Nat, ∃ x : Int, y < n → 0 ≤ x ∧ x < n ∧ pa p x = y := fun y => by
    by_cases hy : y < n
    · obtain ⟨x, h1, h2, h3⟩ := pa_onto h (y := (y : Int)) (by omega) (by omega)
      exact ⟨x, fun _ => ⟨h1, h2, h3⟩⟩
    · exact ⟨0, fun h => absurd h hy⟩
  obtain ⟨f, hf⟩ := Classical.axiomOfChoice hf
  have hq : ∀ y : Int, 0 ≤ y → y < n → pa (tab n f) y = f y.toNat := fun y h0 h1 => by
    unfold pa
    exact tab_getD _ (by omega)
  have hok : permOk n (tab n f) := by
    refine ⟨by simp [tab], ?_, ?_⟩
    · unfold tab
      rw [List.nodup_iff_pairwise_ne, List.pairwise_map]
      refine (List.nodup_iff_pairwise_ne.1 List.nodup_range).imp_of_mem ?_
      intro a b ha hb hab e
      rw [List.mem_range] at ha hb
      have g1 := (hf a ha).2.2
      have g2 := (hf b hb).2.2
      rw [e, g2] at g1
      omega
    · intro x hx
      unfold tab at hx
      obtain ⟨i, hi, rfl⟩ := List.mem_map.1 hx
      rw [List.mem_range] at hi
      exact ⟨(hf i hi).1, (hf i hi).2.1⟩
  refine ⟨tab n f, hok, fun x h0 h1 => ?_⟩
  have hpx := h.2.2 _ (pa_mem h h0 h1)
  refine ⟨?_, ?_⟩
  · rw [hq _ hpx.1 hpx.2]
    have g := hf (pa p x).toNat (by omega)
    exact pa_inj h ⟨g.1, g.2.1⟩ ⟨h0, h1⟩ (by rw [g.2.2]; omega)
  · rw [hq _ h0 h1]
    have g := hf x.toNat (by omega)
    rw [g.2.2]; omega
theorem img_img {n : Nat} {p q b : List Int} (hp : permOk n p) (hb : asc 0 ((n : Int) - 1) b = true) : img q (img p b) = img (mul p q) b := by
  refine asc_uniq cmpZ_tot (sortU_asc cmpZ_tot _) (sortU_asc cmpZ_tot _) (fun y => ?_)
  change y ∈ img q (img p b) ↔ y ∈ img (mul p q) b
  rw [img_mem, img_mem]
  constructor
  · rintro ⟨x, hx, rfl⟩
    obtain ⟨z, hz, rfl⟩ := (img_mem p b x).1 hx
    have := asc_mem hb z hz
    exact ⟨z, hz, pa_mul hp this.1 (by omega)⟩
  · rintro ⟨z, hz, rfl⟩
    have := asc_mem hb z hz
    exact ⟨pa p z, (img_mem p b _).2 ⟨z, hz, rfl⟩, (pa_mul hp this.1 (by omega)).symm⟩
theorem imgS_imgS {n : Nat} {p q : List Int} {bs : List (List Int)} (hp : permOk n p) (hb : ∀ b ∈ bs, asc 0 ((n : Int) - 1) b = true) : imgS q (imgS p bs) = imgS (mul p q) bs := by
  refine asc_uniq cmpL_tot (sortU_asc cmpL_tot _) (sortU_asc cmpL_tot _) (fun y => ?_)
  change y ∈ imgS q (imgS p bs) ↔ y ∈ imgS (mul p q) bs
  have hm : ∀ (p : List Int) (bs : List (List Int)) (y : List Int), y ∈ imgS p bs ↔ ∃ b ∈ bs, img p b = y := fun p bs y => by unfold imgS; rw [sortU_mem cmpL_tot, List.mem_map]
  rw [hm, hm]
  constructor
  · rintro ⟨x, hx, rfl⟩
    obtain ⟨z, hz, rfl⟩ := (hm p bs x).1 hx
    exact ⟨z, hz, (img_img hp (hb z hz)).symm⟩
  · rintro ⟨z, hz, rfl⟩
    exact ⟨img p z, (hm p bs _).2 ⟨z, hz, rfl⟩, img_img hp (hb z hz)⟩
end Go.Proofs.Ytogapbapbmhdfaa
