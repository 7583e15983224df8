/- Cycles of a permutation: they part its points, and a set is kept if it is made of whole cycles. -/
import Derived.Test.YthogadbnddmkdaaGreatzVB
import Derived.Test.YthogadbnddmkdaaGreatzK64
set_option linter.unusedSimpArgs false
set_option linter.unusedVariables false
set_option maxHeartbeats 4000000
set_option maxRecDepth 100000
namespace Go.Proofs.YthogadbnddmkdaaGreat
open Go.Av
def inR (n : Nat) (z : Int) : Prop := 0 ≤ z ∧ z < (n : Int)
theorem pa_range {n : Nat} {p : List Int} (hp : permOk n p) {z : Int} (hz : inR n z) : inR n (pa p z) := hp.2.2 _ (pa_mem hp hz.1 hz.2)
structure CyP (n : Nat) (p : List Int) (O : Int → Prop) (x : Int) (c : List Int) (s : List Bool) (y : Int) : Prop where
  len : s.length = n
  seen : ∀ z, inR n z → (s.getD z.toNat false = true ↔ O z ∨ z ∈ c)
  nod : c.Nodup
  rng : ∀ z ∈ c, inR n z
  out : ∀ z ∈ c, ¬ O z
  next : ∀ z ∈ c, pa p z ∈ c ∨ pa p z = y
  yr : inR n y
  yo : ¬ O y
  conn : ∀ Q : Int → Prop, (∀ z, inR n z → Q z → Q (pa p z)) → Q x → (∀ z ∈ c, Q z) ∧ Q y
theorem getD_setB (s : List Bool) (a i : Nat) : (s.set a true).getD i false = if a = i ∧ a < s.length then true else s.getD i false := by
  rw [List.getD_eq_getElem?_getD, List.getElem?_set]
  by_cases h : a = i
  · subst h
    by_cases h2 : a < s.length
    · simp [h2]
    · simp [h2]
  · simp [h]
theorem cyI_walk {n : Nat} {p : List Int} (hp : permOk n p) {O : Int → Prop} (hO : ∀ z, inR n z → ¬ O z → ¬ O (pa p z)) {x : Int} : ∀ (f : Nat) (c : List Int) (s : List Bool) (y : Int), s.count false ≤ f → CyP n p O x c s y →
    ∃ c' s', cyI f p c s y = (c', s') ∧ s'.length = n ∧ (∀ z, inR n z → (s'.getD z.toNat false = true ↔ O z ∨ z ∈ c')) ∧ c'.Nodup ∧ (∀ z ∈ c', inR n z ∧ ¬ O z) ∧ (∀ z ∈ c', pa p z ∈ c') ∧
      (∀ Q : Int → Prop, (∀ z, inR n z → Q z → Q (pa p z)) → Q x → ∀ z ∈ c', Q z) ∧ (∀ z ∈ c, z ∈ c') ∧ y ∈ c'
  | f, c, s, y, hf, h => by
    by_cases hs : s.getD y.toNat false = true
    · have hy : y ∈ c := ((h.seen y h.yr).1 hs).resolve_left h.yo
      refine ⟨c, s, cyI_t hs, h.len, h.seen, h.nod, fun z hz => ⟨h.rng z hz, h.out z hz⟩, fun z hz => ?_, fun Q q1 q2 => (h.conn Q q1 q2).1, fun z hz => hz, hy⟩
      rcases h.next z hz with h1 | h1
      · exact h1
      · rw [h1]; exact hy
    · have hs' : s.getD y.toNat false = false := by cases hb : s.getD y.toNat false <;> simp_all
      have hyl : y.toNat < s.length := by rw [h.len]; have := h.yr; unfold inR at this; omega
      have hcnt := set_count hyl hs'
      cases f with
      | zero => omega
      | succ f =>
        have hyc : y ∉ c := fun hy => by
          rw [(h.seen y h.yr).2 (.inr hy)] at hs'; simp at hs'
        have hn : CyP n p O x (c ++ [y]) (s.set y.toNat true) (pa p y) := by
          refine ⟨by rw [List.length_set]; exact h.len, fun z hz => ?_, ?_, fun z hz => ?_, fun z hz => ?_, fun z hz => ?_, pa_range hp h.yr, hO y h.yr h.yo, fun Q q1 q2 => ?_⟩
          · rw [getD_setB]
            by_cases he : y = z
            · subst he
              simp [hyl]
            · rw [if_neg (by have := h.yr; unfold inR at *; omega), h.seen z hz, List.mem_append, List.mem_singleton]
              constructor
              · rintro (g | g)
                · exact .inl g
                · exact .inr (.inl g)
              · rintro (g | g | g)
                · exact .inl g
                · exact .inr g
                · exact absurd g.symm he
          · rw [List.nodup_append]
            exact ⟨h.nod, by simp, fun a ha b hb => by rw [List.mem_singleton.1 hb]; exact fun e => hyc (e ▸ ha)⟩
          · rcases List.mem_append.1 hz with g | g
            · exact h.rng z g
            · rw [List.mem_singleton.1 g]; exact h.yr
          · rcases List.mem_append.1 hz with g | g
            · exact h.out z g
            · rw [List.mem_singleton.1 g]; exact h.yo
          · rcases List.mem_append.1 hz with g | g
            · rcases h.next z g with g | g
              · exact .inl (by simp [g])
              · exact .inl (by simp [g])
            · rw [List.mem_singleton.1 g]; exact .inr rfl
          · obtain ⟨g1, g2⟩ := h.conn Q q1 q2
            refine ⟨fun z hz => ?_, q1 y h.yr g2⟩
            rcases List.mem_append.1 hz with g | g
            · exact g1 z g
            · rw [List.mem_singleton.1 g]; exact g2
        obtain ⟨c', s', e, r1, r2, r3, r4, r5, r6, r7, r8⟩ := cyI_walk hp hO f (c ++ [y]) (s.set y.toNat true) (pa p y) (by omega) hn
        exact ⟨c', s', by rw [cyI_f hs', e], r1, r2, r3, r4, r5, r6, fun z hz => r7 z (by simp [hz]), r7 y (by simp)⟩
structure CyL (n : Nat) (p : List Int) (k : Nat) (C : List (List Int)) (s : List Bool) : Prop where
  len : s.length = n
  seen : ∀ z, inR n z → (s.getD z.toNat false = true ↔ ∃ c ∈ C, z ∈ c)
  upto : ∀ z, inR n z → z < (k : Int) → ∃ c ∈ C, z ∈ c
  each : ∀ c ∈ C, c ≠ [] ∧ c.Nodup ∧ (∀ z ∈ c, inR n z) ∧ (∀ z ∈ c, pa p z ∈ c) ∧ ∃ x ∈ c, ∀ Q : Int → Prop, (∀ z, inR n z → Q z → Q (pa p z)) → Q x → ∀ z ∈ c, Q z
  apart : C.Pairwise (fun c d => ∀ z ∈ c, z ∉ d)
theorem closed_back {n : Nat} {p c : List Int} (hp : permOk n p) (hn : c.Nodup) (hr : ∀ z ∈ c, inR n z) (hc : ∀ z ∈ c, pa p z ∈ c) {z : Int} (hz : inR n z) (h : pa p z ∈ c) : z ∈ c := by
  have hm : (c.map (pa p)).Nodup := by
    rw [List.nodup_iff_pairwise_ne, List.pairwise_map]
    refine (List.nodup_iff_pairwise_ne.1 hn).imp_of_mem ?_
    intro a b ha hb hab e
    exact hab (pa_inj hp (hr a ha) (hr b hb) e)
  by_cases hin : pa p z ∈ c.map (pa p)
  · obtain ⟨w, hw, e⟩ := List.mem_map.1 hin
    rw [← pa_inj hp (hr w hw) hz e]; exact hw
  · have h2 : (pa p z :: c.map (pa p)).Nodup := List.nodup_cons.2 ⟨hin, hm⟩
    have h3 := nodup_sub_len (m := c) h2 (fun y hy => by
      rcases List.mem_cons.1 hy with rfl | hy
      · exact h
      · obtain ⟨w, hw, rfl⟩ := List.mem_map.1 hy
        exact hc w hw)
    simp at h3
    omega
theorem cyL_facts {n : Nat} {p : List Int} (hp : permOk n p) : ∀ k, k ≤ n → CyL n p k (cyL p k).1 (cyL p k).2
  | 0, _ => by
    rw [cyL_zero]
    refine ⟨by simp [hp.1], fun z hz => ?_, fun z hz h => ?_, by simp, by simp⟩
    · simp only [List.getD_eq_getElem?_getD, List.getElem?_replicate]
      split <;> simp
    · unfold inR at hz; omega
  | k + 1, hk => by
    have ih := cyL_facts hp k (by omega)
    rw [cyL_succ]
    unfold cyS
    generalize cyL p k = st at *
    obtain ⟨C, s⟩ := st
    simp only at ih ⊢
    have hkr : inR n (k : Int) := ⟨by omega, by omega⟩
    by_cases hs : s.getD k false = true
    · rw [cyI_t (by simpa using hs)]
      simp only [List.length_nil, if_true]
      refine ⟨ih.len, ih.seen, fun z hz hzk => ?_, ih.each, ih.apart⟩
      by_cases he : z = k
      · subst he
        exact (ih.seen _ hkr).1 (by simpa using hs)
      · exact ih.upto z hz (by omega)
    · have hO : ∀ z, inR n z → ¬ (∃ c ∈ C, z ∈ c) → ¬ (∃ c ∈ C, pa p z ∈ c) := fun z hz h0 ⟨c, hc, h1⟩ => by
        obtain ⟨-, e2, e3, e4, -⟩ := ih.each c hc
        exact h0 ⟨c, hc, closed_back hp e2 e3 e4 hz h1⟩
      have hko : ¬ ∃ c ∈ C, (k : Int) ∈ c := fun h => hs (by simpa using (ih.seen _ hkr).2 h)
      have h0 : CyP n p (fun z => ∃ c ∈ C, z ∈ c) (k : Int) [] s (k : Int) := ⟨ih.len, fun z hz => by rw [ih.seen z hz]; simp, by simp, by simp, by simp, by simp, hkr, hko, fun Q q1 q2 => ⟨by simp, q2⟩⟩
      obtain ⟨c', s', e, r1, r2, r3, r4, r5, r6, r7, r8⟩ := cyI_walk hp hO (s.count false) [] s (k : Int) (Nat.le_refl _) h0
      rw [e]
      have hne : ¬ c'.length = 0 := fun h => by
        rw [List.eq_nil_of_length_eq_zero h] at r8; simp at r8
      simp only [if_neg hne]
      refine ⟨r1, fun z hz => ?_, fun z hz hzk => ?_, fun c hc => ?_, ?_⟩
      · rw [r2 z hz]
        constructor
        · rintro (⟨c, hc, h1⟩ | h1)
          · exact ⟨c, by simp [hc], h1⟩
          · exact ⟨c', by simp, h1⟩
        · rintro ⟨c, hc, h1⟩
          rcases List.mem_append.1 hc with g | g
          · exact .inl ⟨c, g, h1⟩
          · rw [List.mem_singleton.1 g] at h1; exact .inr h1
      · by_cases he : z = k
        · subst he; exact ⟨c', by simp, r8⟩
        · obtain ⟨c, hc, h1⟩ := ih.upto z hz (by omega)
          exact ⟨c, by simp [hc], h1⟩
      · rcases List.mem_append.1 hc with g | g
        · exact ih.each c g
        · rw [List.mem_singleton.1 g]
          exact ⟨fun h => hne (by rw [h]; rfl), r3, fun z hz => (r4 z hz).1, r5, (k : Int), r8, fun Q q1 q2 => r6 Q q1 q2⟩
      · rw [List.pairwise_append]
        refine ⟨ih.apart, by simp, fun c hc d hd z hz => ?_⟩
        rw [List.mem_singleton.1 hd]
        exact fun h => (r4 z h).2 ⟨c, hc, hz⟩
end Go.Proofs.YthogadbnddmkdaaGreat
