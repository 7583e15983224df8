/- Packings: all of them, and one of each class. -/
import Derived.Test.YthogadbnddmkdaaGreatzJ1
import Derived.Test.YthogadbnddmkdaaGreatzZ3
set_option linter.unusedSimpArgs false
set_option linter.unusedVariables false
set_option maxHeartbeats 4000000
set_option maxRecDepth 100000
namespace Go.Proofs.YthogadbnddmkdaaGreat
open Go.Av
def pwS (s : Int) (bs : List (List Int)) : Prop := ∀ b ∈ bs, ∀ c ∈ bs, b ≠ c → ¬ s < (comm b c : Int)
theorem comm_img {n : Nat} {p a b : List Int} (hp : permOk n p) (ha : asc 0 ((n : Int) - 1) a = true) (hb : asc 0 ((n : Int) - 1) b = true) : comm (img p a) (img p b) = comm a b := by
  unfold comm
  have h1 : (img p a).Perm (a.map (pa p)) := sortU_perm cmpZ_tot (map_nodup hp ha)
  rw [h1.countP_eq, List.countP_map]
  refine List.countP_congr (fun x hx => ?_)
  simp only [Function.comp, List.contains_iff_mem]
  rw [img_mem]
  have hxa := asc_mem ha x hx
  constructor
  · rintro ⟨y, hy, e⟩
    have hyb := asc_mem hb y hy
    rw [← pa_inj hp ⟨hyb.1, by omega⟩ ⟨hxa.1, by omega⟩ e]; exact hy
  · intro h
    exact ⟨x, h, rfl⟩
theorem pwS_img {v k j : Nat} {s : Int} {p : List Int} {bs : List (List Int)} (h : packOk v k j bs) (hp : permOk v p) (hs : pwS s bs) : pwS s (imgS p bs) := by
  intro b hb c hc hne
  obtain ⟨b', hb', rfl⟩ := (imgS_memJ p bs b).1 hb
  obtain ⟨c', hc', rfl⟩ := (imgS_memJ p bs c).1 hc
  rw [comm_img hp (h.2.2 b' hb').2 (h.2.2 c' hc').2]
  exact hs b' hb' c' hc' (fun e => hne (by rw [e]))
theorem comm_symm {n : Nat} {a b : List Int} (ha : asc 0 ((n : Int) - 1) a = true) (hb : asc 0 ((n : Int) - 1) b = true) : comm a b = comm b a := by
  unfold comm
  rw [List.countP_eq_length_filter, List.countP_eq_length_filter]
  refine same_len (((asc_Asc ha).nodup cmpZ_tot).filter _) (((asc_Asc hb).nodup cmpZ_tot).filter _) (fun x => ?_)
  simp only [List.mem_filter, List.contains_iff_mem]
  exact And.comm
theorem fitB_iff {bs : List (List Int)} {s : Int} {set : List Int} : fitB bs s set = true ↔ ∀ b ∈ bs, b ≠ set ∧ ¬ s < (comm b set : Int) := by
  unfold fitB
  rw [Bool.not_eq_true', List.any_eq_false]
  constructor
  · intro h b hb
    have := h b hb
    simpa [not_or] using this
  · intro h b hb
    have := h b hb
    simp [this.1]
    omega
def packS (v k j : Nat) (s : Int) (bs : List (List Int)) : Prop := packOk v k j bs ∧ pwS s bs
theorem more_mem (bs : List (List Int)) (set y : List Int) : y ∈ more bs set ↔ y ∈ bs ∨ y = set := by
  unfold more
  rw [sortU_mem cmpL_tot, List.mem_append, List.mem_singleton]
theorem more_pack {v k j : Nat} {s : Int} {bs : List (List Int)} {set : List Int} (h : packS v k j s bs) (hs : set ∈ exts v bs k s) : packS v k (j + 1) s (more bs set) := by
  obtain ⟨g1, g2, g3⟩ := exts_mem hs
  have hf := fitB_iff.1 (List.mem_filter.1 hs).2
  refine ⟨more_ok h.1 g1 g2 g3, fun b hb c hc hne => ?_⟩
  rcases (more_mem bs set b).1 hb with hb2 | e1
  · rcases (more_mem bs set c).1 hc with hc2 | e2
    · exact h.2 b hb2 c hc2 hne
    · rw [e2]; exact (hf b hb2).2
  · rw [e1] at hne ⊢
    rcases (more_mem bs set c).1 hc with hc2 | e2
    · rw [comm_symm g2 (h.1.2.2 c hc2).2]
      exact (hf c hc2).2
    · exact absurd e2.symm hne
theorem img_pack {v k j : Nat} {s : Int} {p : List Int} {bs : List (List Int)} (h1 : 1 ≤ v) (h6 : v ≤ 6) (h : packS v k j s bs) (hp : permOk v p) : packS v k j s (imgS p bs) := ⟨imgS_ok h.1 h1 h6 hp, pwS_img h.1 hp h.2⟩
theorem least_pack {v k j : Nat} {s : Int} {bs : List (List Int)} (h1 : 1 ≤ v) (h6 : v ≤ 6) (h : packS v k j s bs) : packS v k j s (leastF bs (perms v)) := by
  obtain ⟨p, hp, e⟩ := least_ex (h.1.sys h1 h6)
  rw [e]; exact img_pack h1 h6 h hp
theorem least_idem {v k j : Nat} {bs : List (List Int)} (h1 : 1 ≤ v) (h6 : v ≤ 6) (h : packOk v k j bs) : leastF (leastF bs (perms v)) (perms v) = leastF bs (perms v) := by
  obtain ⟨p, hp, e⟩ := least_ex (h.sys h1 h6)
  rw [e, least_inv (h.sys h1 h6) hp, ← e]
theorem growL_mem {v k : Nat} {s : Int} {l : List (List (List Int))} {x : List (List Int)} : x ∈ growL v k s l ↔ ∃ bs ∈ l, ∃ set ∈ exts v bs k s, leastF (more bs set) (perms v) = x := by
  unfold growL grow1
  rw [List.mem_flatMap]
  constructor
  · rintro ⟨bs, hb, hx⟩
    obtain ⟨set, hs, e⟩ := List.mem_map.1 hx
    exact ⟨bs, hb, set, hs, e⟩
  · rintro ⟨bs, hb, set, hs, e⟩
    exact ⟨bs, hb, List.mem_map.2 ⟨set, hs, e⟩⟩
theorem genN_mem {v k : Nat} {s : Int} {j : Nat} {x : List (List Int)} : x ∈ genN v k s (j + 1) ↔ x ∈ growL v k s (genN v k s j) := sortU_mem cmpSS_tot _ _
theorem genN_pack {v k : Nat} {s : Int} (h1 : 1 ≤ v) (h6 : v ≤ 6) : ∀ j, ∀ bs ∈ genN v k s j, packS v k j s bs ∧ leastF bs (perms v) = bs
  | 0, bs, h => by
    rw [List.mem_singleton.1 h]
    have hp : packS v k 0 s [] := ⟨⟨rfl, by simp [Asc], by simp⟩, by simp [pwS]⟩
    refine ⟨hp, ?_⟩
    have hl := (leastP hp.1 h1 h6).1
    exact List.eq_nil_of_length_eq_zero hl
  | j + 1, bs, h => by
    obtain ⟨a, ha, set, hs, rfl⟩ := growL_mem.1 (genN_mem.1 h)
    have hm := more_pack (genN_pack h1 h6 j a ha).1 hs
    exact ⟨least_pack h1 h6 hm, least_idem h1 h6 hm.1⟩
theorem genN_all {v k : Nat} {s : Int} (h1 : 1 ≤ v) (h6 : v ≤ 6) : ∀ (j : Nat) (P : List (List Int)), packS v k j s P → leastF P (perms v) ∈ genN v k s j
  | 0, P, h => by
    have e : P = [] := List.eq_nil_of_length_eq_zero h.1.1
    subst e
    have hl := (leastP h.1 h1 h6).1
    rw [List.eq_nil_of_length_eq_zero hl]
    simp [genN]
  | j + 1, [], h => by
    have := h.1.1
    simp at this
  | j + 1, c :: P, h => by
    obtain ⟨⟨hl, ha, hm⟩, hw⟩ := h
    have ha' := List.pairwise_cons.1 ha
    have hcn : c ∉ P := fun hc => by
      have := ha'.1 c hc
      rw [(cmpL_eq0 c c).2 rfl] at this
      omega
    have hP : packS v k j s P := ⟨⟨by simpa using hl, ha'.2, fun b hb => hm b (by simp [hb])⟩, fun b hb d hd => hw b (by simp [hb]) d (by simp [hd])⟩
    have ih := genN_all h1 h6 j P hP
    obtain ⟨p, hp, e⟩ := least_ex (hP.1.sys h1 h6)
    rw [e] at ih
    have hc := hm c (by simp)
    have hfull : packOk v k (j + 1) (c :: P) := ⟨hl, ha, hm⟩
    have hset : img p c ∈ exts v (imgS p P) k s := by
      unfold exts
      refine List.mem_filter.2 ⟨?_, fitB_iff.2 (fun b hb => ?_)⟩
      · exact subsL_all v 0 k _ (by rw [img_length hp hc.2, hc.1]) (by rw [Int.zero_add]; exact img_asc hp hc.2)
      · obtain ⟨d, hd, rfl⟩ := (imgS_memJ p P b).1 hb
        have hd' := hm d (by simp [hd])
        have hne : d ≠ c := fun e => hcn (e ▸ hd)
        refine ⟨fun e => hne (img_inj hp hd'.2 hc.2 e), ?_⟩
        rw [comm_img hp hd'.2 hc.2]
        exact hw d (by simp [hd]) c (by simp) hne
    have hmore : more (imgS p P) (img p c) = imgS p (c :: P) := by
      refine asc_uniq cmpL_tot (sortU_asc cmpL_tot _) (sortU_asc cmpL_tot _) (fun y => ?_)
      change y ∈ more (imgS p P) (img p c) ↔ y ∈ imgS p (c :: P)
      rw [more_mem, imgS_memJ, imgS_memJ]
      constructor
      · rintro (⟨b, hb, e⟩ | rfl)
        · exact ⟨b, by simp [hb], e⟩
        · exact ⟨c, by simp, rfl⟩
      · rintro ⟨b, hb, e⟩
        rcases List.mem_cons.1 hb with rfl | hb
        · exact .inr e.symm
        · exact .inl ⟨b, hb, e⟩
    refine genN_mem.2 (growL_mem.2 ⟨_, ih, _, hset, ?_⟩)
    rw [hmore, least_inv (hfull.sys h1 h6) hp]
def pk (s : Int) (B : List (List Int)) : List (List Int) → Nat → List (List (List Int))
  | _, 0 => [B]
  | [], _ + 1 => []
  | x :: rest, r + 1 => (if (B.all fun b => !decide (s < (comm b x : Int))) = true then pk s (B ++ [x]) rest r else []) ++ pk s B rest (r + 1)
theorem pk_zero (s : Int) (B : List (List Int)) (rest : List (List Int)) : pk s B rest 0 = [B] := by cases rest <;> rfl
theorem pk_mem {s : Int} : ∀ (rest : List (List Int)) (r : Nat) (B P : List (List Int)), P ∈ pk s B rest r ↔ ∃ Q, P = B ++ Q ∧ Q.length = r ∧ Q.Sublist rest ∧ (∀ b ∈ B, ∀ c ∈ Q, ¬ s < (comm b c : Int)) ∧ Q.Pairwise (fun b c => ¬ s < (comm b c : Int))
  | rest, 0, B, P => by
    rw [pk_zero, List.mem_singleton]
    constructor
    · rintro rfl
      exact ⟨[], by simp, rfl, List.nil_sublist _, by simp, .nil⟩
    · rintro ⟨Q, rfl, hQ, _, _⟩
      rw [List.eq_nil_of_length_eq_zero hQ, List.append_nil]
  | [], r + 1, B, P => by
    constructor
    · intro h; simp [pk] at h
    · rintro ⟨Q, rfl, hQ, hs, _⟩
      rw [List.sublist_nil] at hs
      rw [hs] at hQ
      simp at hQ
  | x :: rest, r + 1, B, P => by
    unfold pk
    rw [List.mem_append]
    constructor
    · rintro (h | h)
      · split at h
        · rename_i hc
          obtain ⟨Q, rfl, hQ, hs, hB, hp⟩ := (pk_mem rest r (B ++ [x]) P).1 h
          rw [List.all_eq_true] at hc
          refine ⟨x :: Q, by simp, by simp [hQ], hs.cons_cons x, ?_, ?_⟩
          · intro b hb c hcm
            rcases List.mem_cons.1 hcm with rfl | hcm
            · simpa using hc b hb
            · exact hB b (by simp [hb]) c hcm
          · exact List.pairwise_cons.2 ⟨fun c hcm => hB x (by simp) c hcm, hp⟩
        · simp at h
      · obtain ⟨Q, rfl, hQ, hs, hp⟩ := (pk_mem rest (r + 1) B P).1 h
        exact ⟨Q, rfl, hQ, hs.cons x, hp⟩
    · rintro ⟨Q, rfl, hQ, hs, hB, hp⟩
      cases hs with
      | cons _ hs => exact .inr ((pk_mem rest (r + 1) B _).2 ⟨Q, rfl, hQ, hs, hB, hp⟩)
      | cons_cons _ hs =>
        rename_i Q
        refine .inl ?_
        have hp' := List.pairwise_cons.1 hp
        rw [if_pos (by
          rw [List.all_eq_true]
          intro b hb
          simpa using hB b hb x (by simp))]
        refine (pk_mem rest r (B ++ [x]) _).2 ⟨Q, by simp, by simpa using hQ, hs, ?_, hp'.2⟩
        intro b hb c hc
        rcases List.mem_append.1 hb with hb | hb
        · exact hB b hb c (by simp [hc])
        · rw [List.mem_singleton.1 hb]; exact hp'.1 c hc
theorem pk_nodup {s : Int} : ∀ (rest : List (List Int)) (r : Nat) (B : List (List Int)), rest.Nodup → (pk s B rest r).Nodup
  | rest, 0, B, _ => by rw [pk_zero]; simp
  | [], r + 1, B, _ => by simp [pk]
  | x :: rest, r + 1, B, hn => by
    rw [List.nodup_cons] at hn
    unfold pk
    rw [List.nodup_append]
    refine ⟨?_, pk_nodup rest (r + 1) B hn.2, ?_⟩
    · split
      · exact pk_nodup rest r (B ++ [x]) hn.2
      · simp
    · intro P hP Q hQ e
      subst e
      split at hP
      · obtain ⟨Q1, e1, _, _, _⟩ := (pk_mem _ _ _ _).1 hP
        obtain ⟨Q2, e2, _, hs2, _⟩ := (pk_mem _ _ _ _).1 hQ
        rw [e1, List.append_assoc, List.singleton_append] at e2
        have := List.append_cancel_left e2
        exact hn.1 (hs2.subset (by rw [← this]; simp))
      · simp at hP
theorem subsL_asc : ∀ (m : Nat) (lo : Int) (k : Nat), Asc cmpL (subsL m lo k)
  | m, lo, 0 => by cases m <;> simp [subsL, Asc]
  | 0, lo, k + 1 => by simp [subsL, Asc]
  | m + 1, lo, k + 1 => by
    unfold subsL Asc
    rw [List.pairwise_append, List.pairwise_map]
    refine ⟨(subsL_asc m (lo + 1) k).imp (fun h => ?_), subsL_asc m (lo + 1) (k + 1), ?_⟩
    · simpa [cmpL] using h
    · intro a ha b hb
      obtain ⟨c, _, rfl⟩ := List.mem_map.1 ha
      obtain ⟨h1, h2⟩ := subsL_mem m (lo + 1) (k + 1) b hb
      cases b with
      | nil => simp at h1
      | cons y r =>
        have := asc_mem h2 y (by simp)
        simp only [cmpL]
        split <;> omega
theorem pk_pack {v k m : Nat} {s : Int} {P : List (List Int)} : P ∈ pk s [] (subsN v k) m ↔ packS v k m s P := by
  have hA : Asc cmpL (subsN v k) := subsL_asc v 0 k
  rw [pk_mem]
  constructor
  · rintro ⟨Q, e0, hQ, hs, _, hp⟩
    rw [List.nil_append] at e0
    subst e0
    have hQA : Asc cmpL P := List.Pairwise.sublist hs hA
    have hrow : ∀ b ∈ P, b.length = k ∧ asc 0 ((v : Int) - 1) b = true := fun b hb => by
      have := subsL_mem v 0 k b (hs.subset hb)
      rwa [Int.zero_add] at this
    refine ⟨⟨hQ, hQA, hrow⟩, fun b hb c hc hne => ?_⟩
    obtain ⟨i, hi, rfl⟩ := List.getElem_of_mem hb
    obtain ⟨j, hj, rfl⟩ := List.getElem_of_mem hc
    rcases Nat.lt_trichotomy i j with h | h | h
    · exact List.pairwise_iff_getElem.1 hp i j hi hj h
    · subst h; exact absurd rfl hne
    · rw [comm_symm (hrow _ hb).2 (hrow _ hc).2]
      exact List.pairwise_iff_getElem.1 hp j i hj hi h
  · rintro ⟨⟨hl, ha, hm⟩, hw⟩
    refine ⟨P, by simp, hl, ?_, by simp, ?_⟩
    · have e : P = (subsN v k).filter (fun x => P.contains x) := by
        refine asc_uniq cmpL_tot ha (hA.filter _) (fun y => ?_)
        rw [List.mem_filter]
        simp only [List.contains_iff_mem]
        refine ⟨fun hy => ⟨?_, hy⟩, fun hy => hy.2⟩
        obtain ⟨q1, q2⟩ := hm y hy
        exact subsL_all v 0 k y q1 (by rw [Int.zero_add]; exact q2)
      rw [e]; exact List.filter_sublist
    · refine (List.nodup_iff_pairwise_ne.1 (ha.nodup cmpL_tot)).imp_of_mem ?_
      intro b c hb hc hne
      exact hw b hb c hc hne
theorem pack_sum {v k m : Nat} {s : Int} (h1 : 1 ≤ v) (h6 : v ≤ 6) : (pk s [] (subsN v k) m).length = sumN (fun bs => (orbF v bs).length) (genN v k s m) := by
  have hD := (genN_ok (v := v) (k := k) (s := s) h1 h6 m).1.nodup cmpSS_tot
  have hSn : (subsN v k).Nodup := (subsL_asc v 0 k).nodup cmpL_tot
  have hL := pk_nodup (s := s) (subsN v k) m [] hSn
  rw [parted (fun P => leastF P (perms v)) hD _ (fun P hP => genN_all h1 h6 m P (pk_pack.1 hP))]
  refine sumN_congr (fun bs hb => ?_)
  obtain ⟨hp, hf⟩ := genN_pack h1 h6 m bs hb
  refine same_len (hL.filter _) (AscSS_nodup (sortU_asc cmpSS_tot _)) (fun P => ?_)
  rw [List.mem_filter, decide_eq_true_eq, pk_pack]
  have hbs := hp.1.sys h1 h6
  constructor
  · rintro ⟨q1, q2⟩
    exact (orb_least hbs (q1.1.sys h1 h6)).2 (by rw [q2, hf])
  · intro hP
    obtain ⟨p, hpp, e⟩ := orbF_mem.1 hP
    have hP2 : packS v k m s P := by rw [← e]; exact img_pack h1 h6 hp hpp
    exact ⟨hP2, by rw [← e, least_inv hbs hpp, hf]⟩
end Go.Proofs.YthogadbnddmkdaaGreat
