/- Graphs told by other vertices: plain. -/
import Derived.Test.YtdgcgckehihboaaGreatDoorzE4
import Derived.Test.YtdgcgckehihboaaGreatDoorzQZ
set_option linter.unusedSimpArgs false
set_option linter.unusedVariables false
set_option linter.unusedSectionVars false
set_option maxHeartbeats 4000000
set_option maxRecDepth 100000
namespace Go.Proofs.YtdgcgckehihboaaGreatDoor
variable [Go.Av.DoorC]
open Go.Av
def ordB (n : Nat) (p : List Int) : Bool := decide (p.length = n ∧ (∀ x ∈ p, 0 ≤ x ∧ x < (n : Int)) ∧ p.Nodup)
def relC (cols p : List Int) (i : Nat) : List Int := (List.range i).foldl (fun o (v : Nat) => o.set (p.getD v 0).toNat (cols.getD v 0)) (List.replicate cols.length 0)
theorem relC_succ (cols p : List Int) (i : Nat) : relC cols p (i + 1) = (relC cols p i).set (p.getD i 0).toNat (cols.getD i 0) := by unfold relC; rw [List.range_succ, List.foldl_append]; rfl
theorem relC_len (cols p : List Int) : ∀ i, (relC cols p i).length = cols.length
  | 0 => by simp [relC]
  | i + 1 => by rw [relC_succ, List.length_set, relC_len cols p i]
def relE (p : List Int) (e : Int × Int) : Int × Int := (p.getD e.1.toNat 0, p.getD e.2.toNat 0)
def ordE (e : Int × Int) : Int × Int := (min e.1 e.2, max e.1 e.2)
theorem perm_inj {p : List Int} (hn : p.Nodup) {a b : Nat} (ha : a < p.length) (hb : b < p.length) (h : p.getD a 0 = p.getD b 0) : a = b := by
  rw [getD_get ha, getD_get hb] at h
  exact (List.getElem_inj hn).1 h
theorem sub_lenR {A : Type} : ∀ {l m : List A}, l.Nodup → (∀ x ∈ l, x ∈ m) → l.length ≤ m.length
  | [], _, _, _ => Nat.zero_le _
  | a :: l, m, hn, hs => by
    rw [List.nodup_cons] at hn
    obtain ⟨s, t, rfl⟩ := List.append_of_mem (hs a (by simp))
    have := sub_lenR (l := l) (m := s ++ t) hn.2 (fun x hx => by
      have h1 := hs x (by simp [hx])
      rcases List.mem_append.1 h1 with h1 | h1
      · exact List.mem_append_left _ h1
      · rcases List.mem_cons.1 h1 with rfl | h1
        · exact absurd hx hn.1
        · exact List.mem_append_right _ h1)
    simp at this ⊢; omega
theorem ord_onto {n : Nat} {p : List Int} (h : ordB n p = true) {w : Nat} (hw : w < n) : ∃ v, v < n ∧ p.getD v 0 = (w : Int) := by
  unfold ordB at h
  rw [decide_eq_true_eq] at h
  obtain ⟨h1, h2, h3⟩ := h
  have hm : (w : Int) ∈ p := by
    apply Classical.byContradiction
    intro hn
    have := sub_lenR (l := (w : Int) :: p) (m := (List.range n).map fun (i : Nat) => (i : Int)) (List.nodup_cons.2 ⟨hn, h3⟩) (fun x hx => by
      rcases List.mem_cons.1 hx with rfl | hx
      · exact List.mem_map.2 ⟨w, List.mem_range.2 hw, rfl⟩
      · have := h2 x hx
        exact List.mem_map.2 ⟨x.toNat, List.mem_range.2 (by omega), by omega⟩)
    simp at this
    omega
  obtain ⟨v, hv, he⟩ := List.getElem_of_mem hm
  exact ⟨v, by omega, by rw [getD_get hv, he]⟩
theorem ord_at {n : Nat} {p : List Int} (h : ordB n p = true) {v : Nat} (hv : v < n) : ∃ w : Nat, w < n ∧ p.getD v 0 = (w : Int) := by
  unfold ordB at h
  rw [decide_eq_true_eq] at h
  obtain ⟨h1, h2, -⟩ := h
  have hm : p.getD v 0 ∈ p := by rw [getD_get (by omega)]; exact List.getElem_mem _
  have := h2 _ hm
  exact ⟨(p.getD v 0).toNat, by omega, by omega⟩
theorem ord_inj {n : Nat} {p : List Int} (h : ordB n p = true) {a b : Nat} (ha : a < n) (hb : b < n) (he : p.getD a 0 = p.getD b 0) : a = b := by
  unfold ordB at h
  rw [decide_eq_true_eq] at h
  exact perm_inj h.2.2 (by omega) (by omega) he
theorem relC_at {cols p : List Int} (h : ordB cols.length p = true) : ∀ i, i ≤ cols.length → ∀ v, v < i → (relC cols p i).getD (p.getD v 0).toNat 0 = cols.getD v 0
  | 0, _, v, hv => by omega
  | i + 1, hi, v, hv => by
    obtain ⟨w, hw, e⟩ := ord_at h (show i < cols.length by omega)
    rw [relC_succ, e, Int.toNat_natCast]
    have hl := relC_len cols p i
    by_cases hvi : v = i
    · subst hvi
      rw [e, Int.toNat_natCast, List.getD_eq_getElem?_getD, List.getElem?_set_self (by omega)]; rfl
    · obtain ⟨u, hu, eu⟩ := ord_at h (show v < cols.length by omega)
      have hne : w ≠ u := fun hwu => hvi (ord_inj h (show v < cols.length by omega) (show i < cols.length by omega) (by rw [e, eu, hwu]))
      have ih := relC_at h i (by omega) v (by omega)
      rw [eu, Int.toNat_natCast] at ih ⊢
      rw [List.getD_eq_getElem?_getD, List.getElem?_set_ne hne, ← List.getD_eq_getElem?_getD]
      exact ih
theorem relC_val {cols p : List Int} (h : ordB cols.length p = true) {v : Nat} (hv : v < cols.length) : (relC cols p cols.length).getD (p.getD v 0).toNat 0 = cols.getD v 0 := relC_at h _ (Nat.le_refl _) v hv
theorem ext_getD {l m : List Int} (h1 : l.length = m.length) (h2 : ∀ i, i < l.length → l.getD i 0 = m.getD i 0) : l = m := by
  refine List.ext_getElem h1 fun i g1 g2 => ?_
  have := h2 i g1
  rwa [getD_get g1, getD_get g2] at this
def InvP (n : Nat) (p q : List Int) : Prop := q.length = n ∧ ∀ v, v < n → q.getD (p.getD v 0).toNat 0 = (v : Int)
theorem inv_ord {n : Nat} {p q : List Int} (h : ordB n p = true) (hq : InvP n p q) : ordB n q = true := by
  obtain ⟨h1, h2⟩ := hq
  have hval : ∀ w, w < n → ∃ v : Nat, v < n ∧ p.getD v 0 = (w : Int) ∧ q.getD w 0 = (v : Int) := fun w hw => by
    obtain ⟨v, hv, e⟩ := ord_onto h hw
    have := h2 v hv
    rw [e, Int.toNat_natCast] at this
    exact ⟨v, hv, e, this⟩
  unfold ordB
  rw [decide_eq_true_eq]
  refine ⟨h1, fun x hx => ?_, ?_⟩
  · obtain ⟨w, hw, rfl⟩ := List.getElem_of_mem hx
    obtain ⟨v, hv, _, e⟩ := hval w (by omega)
    rw [getD_get hw] at e
    rw [e]; omega
  · rw [List.nodup_iff_pairwise_ne, List.pairwise_iff_getElem]
    intro i j hi hj hij he
    obtain ⟨v, hv, e1, e2⟩ := hval i (by omega)
    obtain ⟨u, hu, e3, e4⟩ := hval j (by omega)
    rw [getD_get hi] at e2
    rw [getD_get hj] at e4
    have : v = u := by omega
    subst this
    omega
theorem relC_back {cols p q : List Int} (h : ordB cols.length p = true) (hq : InvP cols.length p q) : relC (relC cols p cols.length) q (relC cols p cols.length).length = cols := by
  have hl := relC_len cols p cols.length
  have hqo := inv_ord h hq
  refine ext_getD (by rw [relC_len, hl]) fun v hv => ?_
  rw [relC_len, hl] at hv
  obtain ⟨w, hw, e⟩ := ord_at h hv
  have h2 := hq.2 v hv
  rw [e, Int.toNat_natCast] at h2
  have h3 := relC_val (cols := relC cols p cols.length) (p := q) (by rw [hl]; exact hqo) (v := w) (by omega)
  rw [h2, Int.toNat_natCast] at h3
  rw [h3]
  have h4 := relC_val h hv
  rw [e, Int.toNat_natCast] at h4
  exact h4
def relL (p : List Int) (es : List (Int × Int)) : List (Int × Int) := sortU cmpE ((es.map (relE p)).map ordE)
theorem relL_mem {p : List Int} {es : List (Int × Int)} {y : Int × Int} : y ∈ relL p es ↔ ∃ e ∈ es, y = ordE (relE p e) := by
  unfold relL
  rw [sortU_mem cmpE_tot, List.map_map, List.mem_map]
  exact ⟨fun ⟨e, h1, h2⟩ => ⟨e, h1, h2.symm⟩, fun ⟨e, h1, h2⟩ => ⟨e, h1, h2.symm⟩⟩
theorem edB_nat {n : Nat} {e : Int × Int} : edB n e = true ↔ ∃ a b : Nat, a < b ∧ b < n ∧ e = ((a : Int), (b : Int)) := by
  unfold edB
  simp only [Bool.and_eq_true, decide_eq_true_eq]
  constructor
  · obtain ⟨x, y⟩ := e
    rintro ⟨h1, h2, h3⟩
    simp only at h1 h2 h3
    exact ⟨x.toNat, y.toNat, by omega, by omega, by rw [Prod.mk.injEq]; omega⟩
  · rintro ⟨a, b, h2, h3, rfl⟩
    simp only
    omega
theorem rel_one {n : Nat} {p : List Int} (h : ordB n p = true) {e : Int × Int} (he : edB n e = true) : edB n (ordE (relE p e)) = true := by
  obtain ⟨a, b, hab, hb, rfl⟩ := edB_nat.1 he
  obtain ⟨u, hu, eu⟩ := ord_at h (show a < n by omega)
  obtain ⟨w, hw, ew⟩ := ord_at h hb
  have hne : u ≠ w := fun huw => by
    have := ord_inj h (show a < n by omega) hb (by rw [eu, ew, huw])
    omega
  unfold relE ordE
  simp only [Int.toNat_natCast, eu, ew]
  unfold edB
  simp only [Bool.and_eq_true, decide_eq_true_eq]
  omega
theorem rel_two {n : Nat} {p q : List Int} (h : ordB n p = true) (hq : InvP n p q) {e : Int × Int} (he : edB n e = true) : ordE (relE q (ordE (relE p e))) = e := by
  obtain ⟨a, b, hab, hb, rfl⟩ := edB_nat.1 he
  obtain ⟨u, hu, eu⟩ := ord_at h (show a < n by omega)
  obtain ⟨w, hw, ew⟩ := ord_at h hb
  have ha2 := hq.2 a (by omega)
  have hb2 := hq.2 b hb
  rw [eu, Int.toNat_natCast] at ha2
  rw [ew, Int.toNat_natCast] at hb2
  unfold relE ordE
  simp only [Int.toNat_natCast, eu, ew]
  by_cases huw : u ≤ w
  · rw [show min (u : Int) (w : Int) = (u : Int) by omega, show max (u : Int) (w : Int) = (w : Int) by omega, Int.toNat_natCast, Int.toNat_natCast, ha2, hb2, Prod.mk.injEq]
    omega
  · rw [show min (u : Int) (w : Int) = (w : Int) by omega, show max (u : Int) (w : Int) = (u : Int) by omega, Int.toNat_natCast, Int.toNat_natCast, ha2, hb2, Prod.mk.injEq]
    omega
theorem relL_valid {n : Nat} {p : List Int} (h : ordB n p = true) {es : List (Int × Int)} (he : edsB n es = true) : edsB n (relL p es) = true := by
  unfold edsB at he ⊢
  rw [Bool.and_eq_true, decide_eq_true_eq, List.all_eq_true] at he ⊢
  refine ⟨fun y hy => ?_, sortU_asc cmpE_tot _⟩
  obtain ⟨e, h1, rfl⟩ := relL_mem.1 hy
  exact rel_one h (he.1 e h1)
theorem relL_back {n : Nat} {p q : List Int} (h : ordB n p = true) (hq : InvP n p q) {es : List (Int × Int)} (he : edsB n es = true) : relL q (relL p es) = es := by
  unfold edsB at he
  rw [Bool.and_eq_true, decide_eq_true_eq, List.all_eq_true] at he
  refine asc_uniq cmpE_tot (sortU_asc cmpE_tot _) he.2 fun y => ?_
  rw [relL_mem]
  constructor
  · rintro ⟨z, hz, rfl⟩
    obtain ⟨e, h1, rfl⟩ := relL_mem.1 hz
    rw [rel_two h hq (he.1 e h1)]; exact h1
  · intro hy
    exact ⟨_, relL_mem.2 ⟨y, hy, rfl⟩, (rel_two h hq (he.1 y hy)).symm⟩
theorem relL_len (p : List Int) (es : List (Int × Int)) : (relL p es).length ≤ es.length := by
  have := sortU_len (cf := cmpE) ((es.map (relE p)).map ordE)
  simpa [relL] using this
theorem relC_mem {cols p : List Int} (h : ordB cols.length p = true) {c : Int} (hc : c ∈ relC cols p cols.length) : c ∈ cols := by
  have hl := relC_len cols p cols.length
  obtain ⟨w, hw, rfl⟩ := List.getElem_of_mem hc
  obtain ⟨v, hv, e⟩ := ord_onto h (show w < cols.length by omega)
  have := relC_val h hv
  rw [e, Int.toNat_natCast, getD_get hw] at this
  rw [this, getD_get hv]; exact List.getElem_mem _
theorem rel_valid {cols p : List Int} {es : List (Int × Int)} (hp : ordB cols.length p = true) (hg : grB cols es = true) : grB (relC cols p cols.length) (relL p es) = true := by
  have hl := relC_len cols p cols.length
  have hL := relL_len p es
  unfold grB colsB at hg ⊢
  simp only [Bool.and_eq_true, decide_eq_true_eq, List.all_eq_true] at hg ⊢
  obtain ⟨h1, ⟨h2, h3⟩, h4⟩ := hg
  rw [hl]
  exact ⟨relL_valid hp h1, ⟨h2, fun c hc => h3 c (relC_mem hp hc)⟩, by omega⟩
end Go.Proofs.YtdgcgckehihboaaGreatDoor
