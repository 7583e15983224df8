/- Sets kept by a permutation are the unions of its cycles; their number. -/
import Derived.Test.YthogadbnddmkdaaGreatzJA
import Derived.Test.YthogadbnddmkdaaGreatzJ5
set_option linter.unusedSimpArgs false
set_option linter.unusedVariables false
set_option maxHeartbeats 4000000
set_option maxRecDepth 100000
namespace Go.Proofs.YthogadbnddmkdaaGreat
open Go.Av
def sels : List (List Int) → Nat → List (List (List Int))
  | [], 0 => [[]]
  | [], _ + 1 => []
  | c :: r, j => (if c.length ≤ j then (sels r (j - c.length)).map (c :: ·) else []) ++ sels r j
theorem sels_mem : ∀ (r : List (List Int)) (j : Nat) (Q : List (List Int)), Q ∈ sels r j ↔ Q.Sublist r ∧ Q.flatten.length = j
  | [], 0, Q => by
    simp only [sels, List.mem_singleton, List.sublist_nil]
    constructor
    · rintro rfl; simp
    · exact fun h => h.1
  | [], j + 1, Q => by
    simp only [sels, List.not_mem_nil, List.sublist_nil, false_iff]
    rintro ⟨rfl, h⟩
    simp at h
  | c :: r, j, Q => by
    rw [sels, List.mem_append, sels_mem r j Q, List.sublist_cons_iff]
    constructor
    · rintro (h | ⟨h1, h2⟩)
      · split at h
        · obtain ⟨R, hR, rfl⟩ := List.mem_map.1 h
          obtain ⟨g1, g2⟩ := (sels_mem r _ R).1 hR
          exact ⟨.inr ⟨R, rfl, g1⟩, by simp only [List.flatten_cons, List.length_append]; omega⟩
        · simp at h
      · exact ⟨.inl h1, h2⟩
    · rintro ⟨h | ⟨R, rfl, g1⟩, h2⟩
      · exact .inr ⟨h, h2⟩
      · simp only [List.flatten_cons, List.length_append] at h2
        refine .inl ?_
        rw [if_pos (by omega)]
        exact List.mem_map.2 ⟨R, (sels_mem r _ R).2 ⟨g1, by omega⟩, rfl⟩
theorem sels_nodup : ∀ (r : List (List Int)) (j : Nat), r.Nodup → (sels r j).Nodup
  | [], 0, _ => by simp [sels]
  | [], j + 1, _ => by simp [sels]
  | c :: r, j, hn => by
    rw [List.nodup_cons] at hn
    rw [sels, List.nodup_append]
    refine ⟨?_, sels_nodup r j hn.2, ?_⟩
    · split
      · rw [List.nodup_iff_pairwise_ne, List.pairwise_map]
        exact (List.nodup_iff_pairwise_ne.1 (sels_nodup r _ hn.2)).imp (fun hab e => hab (by simpa using e))
      · simp
    · intro a ha b hb e
      subst e
      split at ha
      · obtain ⟨R, -, rfl⟩ := List.mem_map.1 ha
        exact hn.1 (((sels_mem r j _).1 hb).1.subset (by simp))
      · simp at ha
theorem wyL_get {m k : Nat} {w : List Int} (hm : 1 ≤ m) (hw : w.length = k + 1) : ∀ j, j ≤ k + 1 - m → ∀ i, i ≤ k → (wyL m k w j).getD i 0 = if k < i + j then w.getD i 0 + w.getD (i - m) 0 else w.getD i 0
  | 0, _, i, hi => by rw [if_neg (by omega)]; rfl
  | j + 1, hj, i, hi => by
    rw [wyL, getD_set, wyL_len, hw]
    by_cases he : k - j = i
    · rw [if_pos ⟨he, by omega⟩, wyL_get hm hw j (by omega) (k - j) (by omega), wyL_get hm hw j (by omega) (k - j - m) (by omega), if_neg (by omega), if_neg (by omega), if_pos (by omega), he]
    · rw [if_neg (fun h => he h.1), wyL_get hm hw j (by omega) i hi]
      by_cases h1 : k < i + j
      · rw [if_pos h1, if_pos (by omega)]
      · rw [if_neg h1, if_neg (by omega)]
theorem fixW_cnt (k : Nat) : ∀ (r : List (List Int)), (∀ c ∈ r, 1 ≤ c.length) → ∀ j, j ≤ k → (fixW k r.reverse).getD j 0 = ((sels r j).length : Int)
  | [], _, j, hj => by
    rw [List.reverse_nil, fixW_nil, getD_set]
    cases j with
    | zero => simp [sels]
    | succ j =>
      rw [if_neg (by omega)]
      simp only [sels, List.length_nil, List.getD_eq_getElem?_getD, List.getElem?_replicate]
      split <;> rfl
  | c :: r, h, j, hj => by
    have hc := h c (by simp)
    have ih := fixW_cnt k r (fun d hd => h d (by simp [hd]))
    rw [List.reverse_cons, fixW_snoc, wyL_get hc (fixW_len k _) _ (Nat.le_refl _) j hj, sels, List.length_append]
    by_cases h1 : c.length ≤ j
    · rw [if_pos (by omega), if_pos h1, ih j hj, ih (j - c.length) (by omega), List.length_map]; omega
    · rw [if_neg (by omega), if_neg h1, ih j hj]; simp
theorem sub_eq {A : Type} : ∀ {l : List A}, l.Nodup → ∀ {Q R : List A}, Q.Sublist l → R.Sublist l → (∀ x, x ∈ Q ↔ x ∈ R) → Q = R
  | [], _, Q, R, hq, hr, _ => by rw [List.sublist_nil.1 hq, List.sublist_nil.1 hr]
  | a :: l, hn, Q, R, hq, hr, hm => by
    rw [List.nodup_cons] at hn
    rcases List.sublist_cons_iff.1 hq with g1 | ⟨Q, rfl, g1⟩ <;> rcases List.sublist_cons_iff.1 hr with g2 | ⟨R, rfl, g2⟩
    · exact sub_eq hn.2 g1 g2 hm
    · exact absurd (g1.subset ((hm a).2 (by simp))) hn.1
    · exact absurd (g2.subset ((hm a).1 (by simp))) hn.1
    · refine congrArg _ (sub_eq hn.2 g1 g2 (fun x => ?_))
      constructor
      · intro hx
        rcases List.mem_cons.1 ((hm x).1 (List.mem_cons_of_mem _ hx)) with h | h
        · rw [h] at hx; exact absurd (g1.subset hx) hn.1
        · exact h
      · intro hx
        rcases List.mem_cons.1 ((hm x).2 (List.mem_cons_of_mem _ hx)) with h | h
        · rw [h] at hx; exact absurd (g2.subset hx) hn.1
        · exact h
theorem apart_eq {A : Type} : ∀ {C : List (List A)}, C.Pairwise (fun c d => ∀ z ∈ c, z ∉ d) → ∀ {c d : List A} {z : A}, c ∈ C → d ∈ C → z ∈ c → z ∈ d → c = d
  | e :: C, h, c, d, z, hc, hd, h1, h2 => by
    rw [List.pairwise_cons] at h
    rcases List.mem_cons.1 hc with e1 | g1 <;> rcases List.mem_cons.1 hd with e2 | g2
    · rw [e1, e2]
    · rw [e1] at h1; exact absurd h2 (h.1 d g2 z h1)
    · rw [e2] at h2; exact absurd h1 (h.1 c g1 z h2)
    · exact apart_eq h.2 g1 g2 h1 h2
theorem full_of {A : Type} {l m : List A} (hl : l.Nodup) (hs : ∀ x ∈ l, x ∈ m) (hlen : m.length ≤ l.length) {y : A} (hy : y ∈ m) : y ∈ l := by
  refine Classical.byContradiction fun h => ?_
  have := nodup_sub_len (m := m) (List.nodup_cons.2 ⟨h, hl⟩) (fun x hx => by
    rcases List.mem_cons.1 hx with rfl | hx
    · exact hy
    · exact hs x hx)
  simp at this; omega
theorem kept_count {n k : Nat} {p : List Int} (hp : permOk n p) : fxV p k = (((subsN n k).filter fun S => decide (img p S = S)).length : Int) := by
  have hC := cyL_facts hp n (Nat.le_refl n)
  unfold fxV
  rw [hp.1]
  generalize (cyL p n).1 = C at *
  generalize (cyL p n).2 = s at *
  have hr := fixW_cnt k C.reverse (fun c hc => List.length_pos_iff.2 (hC.each c (List.mem_reverse.1 hc)).1) k (Nat.le_refl k)
  rw [List.reverse_reverse] at hr
  rw [hr]
  have hap : C.reverse.Pairwise (fun c d => ∀ z ∈ c, z ∉ d) := List.pairwise_reverse.2 (hC.apart.imp (fun h z hz hw => h z hw hz))
  have hnd : C.reverse.Nodup := by
    rw [List.nodup_iff_pairwise_ne]
    refine hap.imp_of_mem ?_
    intro c d hc hd h e
    subst e
    obtain ⟨z, hz⟩ := List.exists_mem_of_ne_nil _ (hC.each c (List.mem_reverse.1 hc)).1
    exact h z hz hz
  have hflat : ∀ Q : List (List Int), Q.Sublist C.reverse → Q.flatten.Nodup := fun Q hQ => flat_nodup (hap.sublist hQ) (fun O hO => (hC.each O (List.mem_reverse.1 (hQ.subset hO))).2.1)
  have hfr : ∀ Q : List (List Int), Q.Sublist C.reverse → ∀ z ∈ Q.flatten, inR n z ∧ pa p z ∈ Q.flatten := fun Q hQ z hz => by
    obtain ⟨c, hc, h1⟩ := List.mem_flatten.1 hz
    obtain ⟨-, -, e3, e4, -⟩ := hC.each c (List.mem_reverse.1 (hQ.subset hc))
    exact ⟨e3 z h1, List.mem_flatten.2 ⟨c, hc, e4 z h1⟩⟩
  refine congrArg Nat.cast ?_
  rw [← List.length_map (f := fun Q : List (List Int) => sortU cmpZ Q.flatten)]
  refine same_len ?_ ((subsN_nodup n k).filter _) (fun S => ?_)
  · rw [List.nodup_iff_pairwise_ne, List.pairwise_map]
    refine (List.nodup_iff_pairwise_ne.1 (sels_nodup _ k hnd)).imp_of_mem ?_
    intro Q R hQ hR hne e
    have q1 := ((sels_mem _ _ _).1 hQ).1
    have r1 := ((sels_mem _ _ _).1 hR).1
    have hm : ∀ z, z ∈ Q.flatten ↔ z ∈ R.flatten := fun z => by rw [← sortU_mem cmpZ_tot Q.flatten, ← sortU_mem cmpZ_tot R.flatten, e]
    have one : ∀ {Q R : List (List Int)}, Q.Sublist C.reverse → R.Sublist C.reverse → (∀ z, z ∈ Q.flatten → z ∈ R.flatten) → ∀ c ∈ Q, c ∈ R := fun {Q R} q1 r1 hm c hc => by
      have hcC := List.mem_reverse.1 (q1.subset hc)
      obtain ⟨z, hz⟩ := List.exists_mem_of_ne_nil _ (hC.each c hcC).1
      obtain ⟨d, hd, hzd⟩ := List.mem_flatten.1 (hm z (List.mem_flatten.2 ⟨c, hc, hz⟩))
      rw [apart_eq hC.apart hcC (List.mem_reverse.1 (r1.subset hd)) hz hzd]; exact hd
    exact hne (sub_eq hnd q1 r1 (fun c => ⟨one q1 r1 (fun z => (hm z).1) c, one r1 q1 (fun z => (hm z).2) c⟩))
  · rw [List.mem_filter, subsN_mem, decide_eq_true_eq, List.mem_map]
    constructor
    · rintro ⟨Q, hQ, rfl⟩
      obtain ⟨q1, q2⟩ := (sels_mem _ _ _).1 hQ
      have hpm := sortU_perm cmpZ_tot (hflat Q q1)
      have hasc : asc 0 ((n : Int) - 1) (sortU cmpZ Q.flatten) = true := asc_ofZ (sortU_asc cmpZ_tot _) (fun x hx => by
        have := (hfr Q q1 x (hpm.mem_iff.1 hx)).1
        unfold inR at this; omega)
      refine ⟨⟨by rw [hpm.length_eq, q2], hasc⟩, ?_⟩
      have hi := img_asc hp hasc
      have hil := img_length hp hasc
      have hsub : ∀ y ∈ img p (sortU cmpZ Q.flatten), y ∈ sortU cmpZ Q.flatten := fun y hy => by
        obtain ⟨x, hx, rfl⟩ := (img_mem p _ _).1 hy
        exact hpm.mem_iff.2 (hfr Q q1 x (hpm.mem_iff.1 hx)).2
      exact asc_uniq cmpZ_tot (asc_Asc hi) (asc_Asc hasc) (fun y => ⟨hsub y, full_of ((asc_Asc hi).nodup cmpZ_tot) hsub (by omega)⟩)
    · rintro ⟨⟨h1, h2⟩, h3⟩
      have hrg : ∀ z ∈ S, inR n z := fun z hz => by have := asc_mem h2 z hz; unfold inR; omega
      have hcl : ∀ z ∈ S, pa p z ∈ S := fun z hz => by
        have := (img_mem p S (pa p z)).2 ⟨z, hz, rfl⟩
        rwa [h3] at this
      have hbk : ∀ z, inR n z → z ∉ S → pa p z ∉ S := fun z hz hn h => by
        rw [← h3] at h
        obtain ⟨x, hx, e⟩ := (img_mem p S _).1 h
        rw [pa_inj hp (hrg x hx) hz e] at hx
        exact hn hx
      have hQs : (C.reverse.filter fun c => c.all fun z => S.contains z).Sublist C.reverse := List.filter_sublist
      have hmem : ∀ z, z ∈ (C.reverse.filter fun c => c.all fun z => S.contains z).flatten ↔ z ∈ S := fun z => by
        constructor
        · intro hz
          obtain ⟨c, hc, hzc⟩ := List.mem_flatten.1 hz
          have := (List.mem_filter.1 hc).2
          rw [List.all_eq_true] at this
          have := this z hzc
          rwa [List.contains_iff_mem] at this
        · intro hz
          obtain ⟨c, hc, hzc⟩ := hC.upto z (hrg z hz) (hrg z hz).2
          refine List.mem_flatten.2 ⟨c, List.mem_filter.2 ⟨List.mem_reverse.2 hc, ?_⟩, hzc⟩
          rw [List.all_eq_true]
          obtain ⟨-, -, e3, e4, x, hx, hconn⟩ := hC.each c hc
          intro w hw
          rw [List.contains_iff_mem]
          by_cases hxS : x ∈ S
          · exact hconn (fun y => y ∈ S) (fun y _ hy => hcl y hy) hxS w hw
          · exact absurd hz (hconn (fun y => y ∉ S) (fun y hy1 hy => hbk y hy1 hy) hxS z hzc)
      refine ⟨_, (sels_mem _ _ _).2 ⟨hQs, ?_⟩, asc_uniq cmpZ_tot (sortU_asc cmpZ_tot _) (asc_Asc h2) (fun y => ?_)⟩
      · rw [same_len (hflat _ hQs) ((asc_Asc h2).nodup cmpZ_tot) hmem, h1]
      · rw [sortU_mem cmpZ_tot, hmem]
end Go.Proofs.YthogadbnddmkdaaGreat
