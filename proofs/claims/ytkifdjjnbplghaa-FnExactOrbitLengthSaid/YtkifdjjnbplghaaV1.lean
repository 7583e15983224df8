/- Groups of permutations: what some permutations generate. -/
import Derived.Test.YtkifdjjnbplghaaK60
set_option linter.unusedSimpArgs false
set_option linter.unusedVariables false
set_option maxHeartbeats 4000000
set_option maxRecDepth 100000
namespace Go.Proofs.Ytkifdjjnbplghaa
open Go.Av

/-- First p, then q. -/
def mul (p q : List Int) : List Int := p.map (pa q)
theorem mul_length (p q : List Int) : (mul p q).length = p.length := by simp [mul]
theorem pa_mem {n : Nat} {p : List Int} (h : permOk n p) {x : Int} (h0 : 0 ≤ x) (h1 : x < n) : pa p x ∈ p := by
  unfold pa
  rw [List.getD_eq_getElem?_getD, List.getElem?_eq_getElem (by rw [h.1]; omega)]
  exact List.getElem_mem _
theorem mul_ok {n : Nat} {p q : List Int} (hp : permOk n p) (hq : permOk n q) : permOk n (mul p q) := by
  refine ⟨by rw [mul_length]; exact hp.1, ?_, fun x hx => ?_⟩
  · unfold mul
    rw [List.nodup_iff_pairwise_ne, List.pairwise_map]
    have := List.nodup_iff_pairwise_ne.1 hp.2.1
    refine this.imp_of_mem ?_
    intro a b ha hb hab he
    exact hab (pa_inj hq (hp.2.2 a ha) (hp.2.2 b hb) he)
  · obtain ⟨y, hy, rfl⟩ := List.mem_map.1 hx
    have := hp.2.2 y hy
    exact hq.2.2 _ (pa_mem hq this.1 this.2)
theorem mul_one {n : Nat} {p : List Int} (hp : permOk n p) : mul p (idL n) = p := by
  unfold mul
  refine (List.map_congr_left (fun x hx => ?_)).trans (List.map_id _)
  have := hp.2.2 x hx
  unfold pa idL
  rw [tab_getD _ (by omega)]
  simp; omega
theorem pa_mul {n : Nat} {p q : List Int} (hp : permOk n p) {x : Int} (h0 : 0 ≤ x) (h1 : x < n) : pa (mul p q) x = pa q (pa p x) := by
  have hl : x.toNat < p.length := by rw [hp.1]; omega
  unfold mul
  show (p.map (pa q)).getD x.toNat 0 = pa q (p.getD x.toNat 0)
  rw [List.getD_eq_getElem?_getD, List.getD_eq_getElem?_getD, List.getElem?_map, List.getElem?_eq_getElem hl]
  rfl
theorem mul_assoc' {n : Nat} {p q r : List Int} (hp : permOk n p) (hq : permOk n q) : mul p (mul q r) = mul (mul p q) r := by
  unfold mul
  rw [List.map_map]
  refine List.map_congr_left fun x hx => ?_
  have := hp.2.2 x hx
  exact pa_mul hq this.1 this.2

/-- What some permutations generate. -/
inductive Gen (n : Nat) (gs : List (List Int)) : List Int → Prop
  | one : Gen n gs (idL n)
  | step (p g : List Int) (hg : g ∈ gs) (h : Gen n gs p) : Gen n gs (mul p g)
theorem Gen.ok {n : Nat} {gs : List (List Int)} (hg : ∀ g ∈ gs, permOk n g) {p : List Int} (h : Gen n gs p) : permOk n p := by
  induction h with
  | one => exact idL_ok n
  | step p g hm _ ih => exact mul_ok ih (hg g hm)
theorem Gen.mono {n : Nat} {gs hs : List (List Int)} (hsub : ∀ g ∈ gs, g ∈ hs) {p : List Int} (h : Gen n gs p) : Gen n hs p := by
  induction h with
  | one => exact .one
  | step p g hm _ ih => exact .step p g (hsub g hm) ih
theorem Gen.mul {n : Nat} {gs : List (List Int)} (hg : ∀ g ∈ gs, permOk n g) {p q : List Int} (h : Gen n gs p) (k : Gen n gs q) : Gen n gs (mul p q) := by
  induction k with
  | one => rw [mul_one (h.ok hg)]; exact h
  | step q g hm hq ih => rw [mul_assoc' (h.ok hg) (hq.ok hg)]; exact .step _ g hm ih
theorem idL_mul {n : Nat} {g : List Int} (hg : permOk n g) : Go.Proofs.Ytkifdjjnbplghaa.mul (idL n) g = g := by
  have e : Go.Proofs.Ytkifdjjnbplghaa.mul (idL n) g = tab n (fun j => g.getD j 0) := by
    unfold Go.Proofs.Ytkifdjjnbplghaa.mul idL tab
    rw [List.map_map]
    exact List.map_congr_left fun i _ => rfl
  rw [e, ← hg.1]
  exact (tab_of g).symm
theorem Gen.gen {n : Nat} {gs : List (List Int)} {g : List Int} (hg : permOk n g) (hm : g ∈ gs) : Gen n gs g := by
  have := Gen.step (n := n) (idL n) g hm .one
  rwa [idL_mul hg] at this
/-- What is generated of what is generated. -/
theorem Gen.trans {n : Nat} {gs hs : List (List Int)} (hg : ∀ g ∈ gs, permOk n g) (hsub : ∀ h ∈ hs, Gen n gs h) {p : List Int} (h : Gen n hs p) : Gen n gs p := by
  induction h with
  | one => exact .one
  | step p g hm _ ih => exact ih.mul hg (hsub g hm)

theorem nodup_sub_len {A : Type} : ∀ {l m : List A}, l.Nodup → (∀ x ∈ l, x ∈ m) → l.length ≤ m.length
  | [], _, _, _ => Nat.zero_le _
  | a :: l, m, hn, hs => by
    rw [List.nodup_cons] at hn
    obtain ⟨s, t, rfl⟩ := List.append_of_mem (hs a (by simp))
    have := nodup_sub_len (l := l) (m := s ++ t) hn.2 (fun x hx => by
      have h1 := hs x (by simp [hx])
      rcases List.mem_append.1 h1 with h1 | h1
      · exact List.mem_append_left _ h1
      · rcases List.mem_cons.1 h1 with rfl | h1
        · exact absurd hx hn.1
        · exact List.mem_append_right _ h1)
    simp at this ⊢; omega

/-- All that is generated, in order. -/
def GenList (n : Nat) (gs L : List (List Int)) : Prop := Asc cmpL L ∧ ∀ p, p ∈ L ↔ Gen n gs p
theorem GenList.uniq {n : Nat} {gs L M : List (List Int)} (h : GenList n gs L) (k : GenList n gs M) : L = M := asc_uniq cmpL_tot h.1 k.1 (fun p => by rw [h.2, k.2])
open Classical in
noncomputable def genL (n : Nat) (gs : List (List Int)) (m : Nat) : Option (List (List Int)) := if h : ∃ L, GenList n gs L ∧ L.length ≤ m then some h.choose else none
theorem genL_some {n m : Nat} {gs L : List (List Int)} (h : GenList n gs L) (hl : L.length ≤ m) : genL n gs m = some L := by
  have hh : ∃ L, GenList n gs L ∧ L.length ≤ m := ⟨L, h, hl⟩
  unfold genL
  rw [dif_pos hh]
  exact congrArg some (hh.choose_spec.1.uniq h)
theorem genL_inv {n m : Nat} {gs L : List (List Int)} (h : genL n gs m = some L) : GenList n gs L ∧ L.length ≤ m := by
  unfold genL at h
  split at h
  · rename_i hh
    cases h
    exact hh.choose_spec
  · cases h
theorem genL_none {n m : Nat} {gs D : List (List Int)} (hd : D.Nodup) (hg : ∀ p ∈ D, Gen n gs p) (hl : m < D.length) : genL n gs m = none := by
  cases h : genL n gs m with
  | none => rfl
  | some L =>
    obtain ⟨h1, h2⟩ := genL_inv h
    have := nodup_sub_len hd (fun p hp => (h1.2 p).2 (hg p hp))
    omega
theorem genList_nil (n : Nat) : GenList n [] [idL n] := by
  refine ⟨by simp [Asc], fun p => ?_⟩
  rw [List.mem_singleton]
  constructor
  · rintro rfl; exact .one
  · intro h
    cases h with
    | one => rfl
    | step p g hg _ => simp at hg
/-- Closed lists. -/
def Closed (n : Nat) (els : List (List Int)) : Prop := ∀ p, Gen n els p → p ∈ els
open Classical in
theorem closed_small {n : Nat} {els gs : List (List Int)} (hc : Closed n els) (ha : Asc cmpL els) (hsub : ∀ g ∈ gs, g ∈ els) {m : Nat} (hm : els.length ≤ m) : ∃ L, genL n gs m = some L ∧ ∀ p ∈ L, p ∈ els := by
  have hG : GenList n gs (els.filter fun p => decide (Gen n gs p)) := by
    refine ⟨List.Pairwise.filter _ ha, fun p => ?_⟩
    rw [List.mem_filter, decide_eq_true_eq]
    exact ⟨fun h => h.2, fun h => ⟨hc p (h.mono hsub), h⟩⟩
  exact ⟨_, genL_some hG (Nat.le_trans (List.length_filter_le _ _) hm), fun p hp => (List.mem_filter.1 hp).1⟩
/-- A list that rises is closed, if it is what its own members generate. -/
theorem closed_iff {n : Nat} {els gs L : List (List Int)} (hp : ∀ p ∈ els, permOk n p) (ha : Asc cmpL els) (hsub : ∀ g ∈ gs, g ∈ els) (hL : GenList n gs L) (hall : ∀ p ∈ els, p ∈ L) : Closed n els ↔ L.length = els.length := by
  have hgp : ∀ g ∈ gs, permOk n g := fun g hg => hp g (hsub g hg)
  constructor
  · intro hc
    have : L = els := asc_uniq cmpL_tot hL.1 ha (fun p => ⟨fun h => hc p (((hL.2 p).1 h).mono hsub), hall p⟩)
    rw [this]
  · intro hlen p hpg
    have hpL : p ∈ L := (hL.2 p).2 (Gen.trans hgp (fun g hg => (hL.2 g).1 (hall g hg)) hpg)
    have hn := ha.nodup cmpL_tot
    have hLn := hL.1.nodup cmpL_tot
    apply Classical.byContradiction
    intro hnp
    have := nodup_sub_len (l := p :: els) (m := L) (List.nodup_cons.2 ⟨hnp, hn⟩) (fun x hx => by
      rcases List.mem_cons.1 hx with rfl | hx
      · exact hpL
      · exact hall x hx)
    simp at this; omega

/-- A valid group. -/
def grpOk (n : Int) (els : List (List Int)) : Prop := (1 ≤ n ∧ n ≤ 32) ∧ (1 ≤ els.length ∧ els.length ≤ 720) ∧ (∀ p ∈ els, permOk n.toNat p) ∧ Asc cmpL els ∧ Closed n.toNat els
open Classical in
noncomputable def grpB (n : Int) (els : List (List Int)) : Bool := decide (grpOk n els)
theorem grpB_t {n : Int} {els : List (List Int)} : grpB n els = true ↔ grpOk n els := by unfold grpB; simp
theorem grpB_f {n : Int} {els : List (List Int)} : grpB n els = false ↔ ¬ grpOk n els := by unfold grpB; simp
end Go.Proofs.Ytkifdjjnbplghaa
