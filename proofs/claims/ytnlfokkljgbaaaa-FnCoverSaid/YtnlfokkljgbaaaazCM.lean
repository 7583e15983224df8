/- Exact covers: what is left behind an option. -/
import Derived.Test.YtnlfokkljgbaaaazCL
import Derived.Test.YtnlfokkljgbaaaazK39
set_option linter.unusedSimpArgs false
set_option linter.unusedVariables false
set_option maxHeartbeats 4000000
set_option maxRecDepth 100000
namespace Go.Proofs.Ytnlfokkljgbaaaa
open Go.Av
theorem cntL_mono {E : List Int} {a : Nat} : ∀ {b : Nat}, a ≤ b → cntL E a ≤ cntL E b
  | 0, h => by rw [show a = 0 by omega]; exact Nat.le_refl _
  | b + 1, h => by
    by_cases hab : a = b + 1
    · rw [hab]; exact Nat.le_refl _
    · have := cntL_mono (E := E) (a := a) (b := b) (by omega)
      rw [cntL_succ]; omega
theorem cntL_ltC {E : List Int} {a b : Nat} (h : a < b) (ha : (a : Int) ∉ E) : cntL E a < cntL E b := by
  have h1 : cntL E (a + 1) ≤ cntL E b := cntL_mono h
  rw [cntL_succ, if_neg (by simpa using ha)] at h1
  omega
theorem cntL_surj {E : List Int} {y : Nat} : ∀ {n : Nat}, y < cntL E n → ∃ x : Nat, x < n ∧ (x : Int) ∉ E ∧ cntL E x = y
  | 0, h => by simp [cntL, leftL] at h
  | n + 1, h => by
    by_cases h1 : y < cntL E n
    · obtain ⟨x, a, b, c⟩ := cntL_surj h1
      exact ⟨x, by omega, b, c⟩
    · rw [cntL_succ] at h
      by_cases hE : E.contains (n : Int) = true
      · rw [if_pos hE] at h; omega
      · rw [if_neg hE] at h
        exact ⟨n, by omega, by simpa using hE, by omega⟩
def rho (E : List Int) (x : Int) : Int := (cntL E x.toNat : Int)
theorem rho_lt {E : List Int} {x y : Int} (h0 : 0 ≤ x) (h : x < y) (hx : x ∉ E) : rho E x < rho E y := by
  have := cntL_ltC (E := E) (a := x.toNat) (b := y.toNat) (by omega) (by rw [Int.toNat_of_nonneg h0]; exact hx)
  unfold rho; omega
theorem rho_inj {E : List Int} {x y : Int} (h0 : 0 ≤ x) (h1 : 0 ≤ y) (hx : x ∉ E) (hy : y ∉ E) (h : rho E x = rho E y) : x = y := by
  rcases Int.lt_trichotomy x y with c | c | c
  · have := rho_lt h0 c hx; omega
  · exact c
  · have := rho_lt h1 c hy; omega
theorem rho_in {E : List Int} {x : Int} {n : Nat} (h0 : 0 ≤ x) (h : x < n) (hx : x ∉ E) : 0 ≤ rho E x ∧ rho E x < (cntL E n : Nat) := by
  have := rho_lt (y := (n : Int)) h0 h hx
  unfold rho at this ⊢
  rw [Int.toNat_natCast] at this
  omega
theorem optsI_eq (O : List (List Int)) (E : List Int) : optsI O E = (O.filter fun o => !o.any fun x => E.contains x).map fun o => o.map (rho E) := rfl
def kP (O : List (List Int)) (E : List Int) : List (List Int × Nat) := O.zipIdx.filter fun p => !p.1.any fun x => E.contains x
theorem zipIdx_filter_fst (f : List Int → Bool) : ∀ (O : List (List Int)) (j : Nat), ((O.zipIdx j).filter fun p => f p.1).map Prod.fst = O.filter f
  | [], _ => rfl
  | x :: O, j => by
    rw [List.zipIdx_cons]
    cases h : f x
    · rw [List.filter_cons_of_neg (by simp [h]), List.filter_cons_of_neg (by simp [h])]; exact zipIdx_filter_fst f O (j + 1)
    · rw [List.filter_cons_of_pos (by simp [h]), List.filter_cons_of_pos h, List.map_cons, zipIdx_filter_fst f O (j + 1)]
theorem kP_kept (O : List (List Int)) (E : List Int) : keptI O E = (kP O E).map fun p => (p.2 : Int) := rfl
theorem kP_opts (O : List (List Int)) (E : List Int) : optsI O E = (kP O E).map fun p => p.1.map (rho E) := by
  have h : (O.filter fun o => !o.any fun x => E.contains x) = (kP O E).map Prod.fst := (zipIdx_filter_fst (fun o => !o.any fun x => E.contains x) O 0).symm
  rw [optsI_eq, h, List.map_map]; rfl
theorem kP_mem {O : List (List Int)} {E : List Int} {p : List Int × Nat} (h : p ∈ kP O E) : O[p.2]? = some p.1 ∧ ∀ x ∈ p.1, x ∉ E := by
  unfold kP at h
  obtain ⟨h1, h2⟩ := List.mem_filter.1 h
  refine ⟨List.mem_zipIdx_iff_getElem?.1 h1, fun x hx hE => ?_⟩
  rw [Bool.not_eq_true', ← Bool.not_eq_true, List.any_eq_true] at h2
  exact h2 ⟨x, hx, List.contains_iff_mem.2 hE⟩
theorem kP_of {O : List (List Int)} {E : List Int} {k : Nat} (hk : k < O.length) (h : ∀ x ∈ O.getD k [], x ∉ E) : (O.getD k [], k) ∈ kP O E := by
  refine List.mem_filter.2 ⟨List.mem_zipIdx_iff_getElem?.2 (by rw [List.getD_eq_getElem?_getD, List.getElem?_eq_getElem hk]; rfl), ?_⟩
  rw [Bool.not_eq_true', ← Bool.not_eq_true, List.any_eq_true]
  rintro ⟨x, hx, hc⟩
  exact h x hx (List.contains_iff_mem.1 hc)
theorem kP_inc (O : List (List Int)) (E : List Int) : ((kP O E).map Prod.snd).Pairwise (· < ·) := by
  have h : (O.zipIdx.map Prod.snd).Pairwise (· < ·) := by
    rw [List.zipIdx_map_snd]
    exact List.pairwise_lt_range'
  exact h.sublist (List.Sublist.map _ List.filter_sublist)
def kap (O : List (List Int)) (E : List Int) (t : Int) : Int := (keptI O E).getD t.toNat 0
theorem kap_get {O : List (List Int)} {E : List Int} {t : Int} (h0 : 0 ≤ t) (h1 : t < (kP O E).length) : ∃ p, (kP O E)[t.toNat]? = some p ∧ p ∈ kP O E ∧ kap O E t = (p.2 : Int) ∧ (optsI O E).getD t.toNat [] = p.1.map (rho E) ∧ O.getD (kap O E t).toNat [] = p.1 ∧ p.2 < O.length := by
  have hl : t.toNat < (kP O E).length := by omega
  have hp := List.getElem?_eq_getElem hl
  have hm := List.getElem_mem hl
  have ho := (kP_mem hm).1
  have hk : kap O E t = ((kP O E)[t.toNat].2 : Int) := by unfold kap; rw [kP_kept, List.getD_eq_getElem?_getD, List.getElem?_map, hp]; rfl
  refine ⟨_, hp, hm, hk, ?_, ?_, (List.getElem?_eq_some_iff.1 ho).1⟩
  · rw [kP_opts, List.getD_eq_getElem?_getD, List.getElem?_map, hp]; rfl
  · rw [hk, Int.toNat_natCast, List.getD_eq_getElem?_getD, ho]; rfl
theorem kap_inj {O : List (List Int)} {E : List Int} {s t : Int} (h0 : 0 ≤ s) (h1 : s < (kP O E).length) (g0 : 0 ≤ t) (g1 : t < (kP O E).length) (h : kap O E s = kap O E t) : s = t := by
  obtain ⟨p, hp, _, e1, _⟩ := kap_get h0 h1
  obtain ⟨q, hq, _, e2, _⟩ := kap_get g0 g1
  have hi := kP_inc O E
  have a1 : s.toNat < ((kP O E).map Prod.snd).length := by rw [List.length_map]; omega
  have a2 : t.toNat < ((kP O E).map Prod.snd).length := by rw [List.length_map]; omega
  have b1 : ((kP O E).map Prod.snd)[s.toNat] = p.2 := by rw [List.getElem_map, (List.getElem?_eq_some_iff.1 hp).2]
  have b2 : ((kP O E).map Prod.snd)[t.toNat] = q.2 := by rw [List.getElem_map, (List.getElem?_eq_some_iff.1 hq).2]
  have e : p.2 = q.2 := by omega
  rcases Nat.lt_trichotomy s.toNat t.toNat with c | c | c
  · have := List.pairwise_iff_getElem.1 hi _ _ a1 a2 c
    rw [b1, b2] at this; omega
  · omega
  · have := List.pairwise_iff_getElem.1 hi _ _ a2 a1 c
    rw [b1, b2] at this; omega
theorem flatMap_congrC {A B : Type} {f g : A → List B} : ∀ {l : List A}, (∀ x ∈ l, f x = g x) → l.flatMap f = l.flatMap g
  | [], _ => rfl
  | x :: r, h => by rw [List.flatMap_cons, List.flatMap_cons, h x (by simp), flatMap_congrC (fun y hy => h y (List.mem_cons_of_mem _ hy))]
theorem items_rest {O : List (List Int)} {E T : List Int} (hT : ∀ t ∈ T, 0 ≤ t ∧ t < (kP O E).length) : itemsOf (optsI O E) T = (itemsOf O (T.map (kap O E))).map (rho E) := by
  unfold itemsOf
  rw [List.flatMap_map, List.map_flatMap]
  refine flatMap_congrC fun t ht => ?_
  obtain ⟨p, _, _, _, e2, e3, _⟩ := kap_get (hT t ht).1 (hT t ht).2
  rw [e2, e3]
theorem items_free {O : List (List Int)} {E T : List Int} (hT : ∀ t ∈ T, 0 ≤ t ∧ t < (kP O E).length) : ∀ x ∈ itemsOf O (T.map (kap O E)), x ∉ E := fun x hx => by
  obtain ⟨k, hk, hxk⟩ := items_mem.1 hx
  obtain ⟨t, ht, rfl⟩ := List.mem_map.1 hk
  obtain ⟨p, _, hp, _, _, e3, _⟩ := kap_get (hT t ht).1 (hT t ht).2
  rw [e3] at hxk
  exact (kP_mem hp).2 x hxk
theorem items_rng {O : List (List Int)} {n : Nat} (hO : coverOk n O = true) {S : List Int} {x : Int} (hx : x ∈ itemsOf O S) : 0 ≤ x ∧ x < n := by
  obtain ⟨k, _, hxk⟩ := items_mem.1 hx
  by_cases hk : k.toNat < O.length
  · simp only [coverOk, Bool.and_eq_true, decide_eq_true_eq, List.all_eq_true] at hO
    have hm : O.getD k.toNat [] ∈ O := by
      rw [List.getD_eq_getElem?_getD, List.getElem?_eq_getElem hk]; exact List.getElem_mem _
    have := asc_mem (hO.2 _ hm).2 x hxk
    omega
  · rw [List.getD_eq_getElem?_getD, List.getElem?_eq_none (by omega)] at hxk
    simp at hxk
theorem nodup_mapC {f : Int → Int} {l : List Int} (hl : l.Nodup) (hf : ∀ x ∈ l, ∀ y ∈ l, f x = f y → x = y) : (l.map f).Nodup := by
  unfold List.Nodup
  rw [List.pairwise_map]
  refine (List.Pairwise.and_mem.1 hl).imp ?_
  rintro a b ⟨ha, hb, hab⟩ e
  exact hab (hf a ha b hb e)
theorem nodup_ofmapC {f : Int → Int} {l : List Int} (h : (l.map f).Nodup) : l.Nodup := by
  unfold List.Nodup at h
  rw [List.pairwise_map] at h
  exact h.imp fun h e => h (by rw [e])
section
variable {O : List (List Int)} {n : Nat} {o : Int}
def phi (O : List (List Int)) (o : Int) (T : List Int) : List Int := isort (o :: T.map (kap O (O.getD o.toNat [])))
theorem phi_mem {T : List Int} {k : Int} : k ∈ phi O o T ↔ k = o ∨ ∃ t ∈ T, kap O (O.getD o.toNat []) t = k := by
  unfold phi
  rw [(isort_permC _).mem_iff, List.mem_cons, List.mem_map]
theorem kap_ne (hO : coverOk n O = true) (h0 : 0 ≤ o) (h1 : o < O.length) {t : Int} (t0 : 0 ≤ t) (t1 : t < (kP O (O.getD o.toNat [])).length) : kap O (O.getD o.toNat []) t ≠ o := fun h => by
  obtain ⟨p, _, hp, _, _, e3, _⟩ := kap_get t0 t1
  obtain ⟨x, hx, _⟩ := opt_ne hO h0 h1
  rw [h] at e3
  exact (kP_mem hp).2 x (by rw [← e3]; exact hx) hx
theorem opt_nodup (hO : coverOk n O = true) (h0 : 0 ≤ o) (h1 : o < O.length) : (O.getD o.toNat []).Nodup := by
  simp only [coverOk, Bool.and_eq_true, decide_eq_true_eq, List.all_eq_true] at hO
  have hm : O.getD o.toNat [] ∈ O := by
    rw [List.getD_eq_getElem?_getD, List.getElem?_eq_getElem (show o.toNat < O.length by omega)]; exact List.getElem_mem _
  exact asc_nodupA (hO.2 _ hm).2
theorem phi_ok (hO : coverOk n O = true) (h0 : 0 ≤ o) (h1 : o < O.length) {T : List Int} (hT : ExC (optsI O (O.getD o.toNat [])) (cntL (O.getD o.toNat []) n) T) : ExC O n (phi O o T) := by
  have hol : (optsI O (O.getD o.toNat [])).length = (kP O (O.getD o.toNat [])).length := by rw [kP_opts, List.length_map]
  have hi : ∀ t ∈ T, 0 ≤ t ∧ t < (kP O (O.getD o.toNat [])).length := fun t ht => by have := hT.idx t ht; omega
  have hr := items_rest hi
  have hf := items_free hi
  have hE := opt_nodup hO h0 h1
  have he : itemsOf O (o :: T.map (kap O (O.getD o.toNat []))) = O.getD o.toNat [] ++ itemsOf O (T.map (kap O (O.getD o.toNat []))) := by simp [itemsOf]
  have hn : (itemsOf O (o :: T.map (kap O (O.getD o.toNat [])))).Nodup := by
    rw [he, List.nodup_append]
    refine ⟨hE, nodup_ofmapC (hr ▸ hT.nd), fun a ha b hb e => ?_⟩
    exact hf b hb (e ▸ ha)
  have hx : ∀ k ∈ o :: T.map (kap O (O.getD o.toNat [])), 0 ≤ k ∧ k < O.length := fun k hk => by
    rcases List.mem_cons.1 hk with rfl | hk
    · exact ⟨h0, h1⟩
    · obtain ⟨t, ht, rfl⟩ := List.mem_map.1 hk
      obtain ⟨p, _, _, e1, _, _, e4⟩ := kap_get (hi t ht).1 (hi t ht).2
      omega
  have hp := isort_permC (o :: T.map (kap O (O.getD o.toNat [])))
  have hip := items_perm (O := O) hp
  refine ⟨isort_inc (ChOk.nodup hO hx hn), fun k hk => hx k (hp.mem_iff.1 hk), hip.nodup_iff.2 hn, fun x hxn => hip.mem_iff.2 ?_⟩
  rw [he, List.mem_append]
  by_cases hxE : (x : Int) ∈ O.getD o.toNat []
  · exact .inl hxE
  · right
    have hb := rho_in (n := n) (show 0 ≤ (x : Int) by omega) (by omega) hxE
    have hy := hT.all (rho (O.getD o.toNat []) (x : Int)).toNat (by omega)
    rw [Int.toNat_of_nonneg hb.1, hr] at hy
    obtain ⟨z, hz, hzx⟩ := List.mem_map.1 hy
    have := rho_inj (items_rng hO hz).1 (by omega) (hf z hz) hxE hzx
    rw [← this]; exact hz
theorem phi_onto (hO : coverOk n O = true) (h0 : 0 ≤ o) (h1 : o < O.length) {S : List Int} (hS : ExC O n S) (ho : o ∈ S) : ∃ T, ExC (optsI O (O.getD o.toNat [])) (cntL (O.getD o.toNat []) n) T ∧ phi O o T = S := by
  have hol : (optsI O (O.getD o.toNat [])).length = (kP O (O.getD o.toNat [])).length := by rw [kP_opts, List.length_map]
  let T : List Int := ((List.range (kP O (O.getD o.toNat [])).length).filter fun (t : Nat) => S.contains (kap O (O.getD o.toNat []) (t : Int))).map fun (t : Nat) => (t : Int)
  have hTm : ∀ t, t ∈ T ↔ (0 ≤ t ∧ t < (kP O (O.getD o.toNat [])).length) ∧ kap O (O.getD o.toNat []) t ∈ S := fun t => by
    constructor
    · intro h
      obtain ⟨i, hi, rfl⟩ := List.mem_map.1 h
      obtain ⟨g1, g2⟩ := List.mem_filter.1 hi
      have := List.mem_range.1 g1
      exact ⟨⟨by omega, by omega⟩, List.contains_iff_mem.1 g2⟩
    · rintro ⟨⟨g1, g2⟩, g3⟩
      refine List.mem_map.2 ⟨t.toNat, List.mem_filter.2 ⟨List.mem_range.2 (by omega), ?_⟩, Int.toNat_of_nonneg g1⟩
      rw [Int.toNat_of_nonneg g1]; exact List.contains_iff_mem.2 g3
  have hTi : T.Pairwise (· < ·) := by
    show (List.map _ _).Pairwise _
    rw [List.pairwise_map]
    exact (List.pairwise_lt_range.filter _).imp fun h => by omega
  have hi : ∀ t ∈ T, 0 ≤ t ∧ t < (kP O (O.getD o.toNat [])).length := fun t ht => ((hTm t).1 ht).1
  have hpm : ∀ k, k ∈ o :: T.map (kap O (O.getD o.toNat [])) ↔ k ∈ S := fun k => by
    rw [List.mem_cons, List.mem_map]
    constructor
    · rintro (rfl | ⟨t, ht, rfl⟩)
      · exact ho
      · exact ((hTm t).1 ht).2
    · intro hk
      by_cases hko : k = o
      · exact .inl hko
      · right
        have hx := hS.idx k hk
        have hm := kP_of (O := O) (E := O.getD o.toNat []) (k := k.toNat) (by omega) (fun x hx hE => hko (items_uniq hS.nd hk ho hx hE))
        obtain ⟨i, hi, he⟩ := List.getElem_of_mem hm
        have hki : kap O (O.getD o.toNat []) (i : Int) = k := by
          obtain ⟨p, hp, _, e1, _⟩ := kap_get (O := O) (E := O.getD o.toNat []) (t := (i : Int)) (by omega) (by omega)
          rw [Int.toNat_natCast, List.getElem?_eq_getElem hi, he] at hp
          cases hp
          rw [e1]; exact Int.toNat_of_nonneg hx.1
        exact ⟨(i : Int), (hTm _).2 ⟨⟨by omega, by omega⟩, by rw [hki]; exact hk⟩, hki⟩
  have hnd : (o :: T.map (kap O (O.getD o.toNat []))).Nodup := by
    rw [List.nodup_cons]
    refine ⟨fun h => ?_, nodup_mapC (inc_nodup hTi) fun a ha b hb e => kap_inj (hi a ha).1 (hi a ha).2 (hi b hb).1 (hi b hb).2 e⟩
    obtain ⟨t, ht, e⟩ := List.mem_map.1 h
    exact kap_ne hO h0 h1 (hi t ht).1 (hi t ht).2 e
  have hp : (o :: T.map (kap O (O.getD o.toNat []))).Perm S := (List.perm_ext_iff_of_nodup hnd (inc_nodup hS.inc)).2 hpm
  have hip := items_perm (O := O) hp
  have he : itemsOf O (o :: T.map (kap O (O.getD o.toNat []))) = O.getD o.toNat [] ++ itemsOf O (T.map (kap O (O.getD o.toNat []))) := by simp [itemsOf]
  rw [he] at hip
  have hr := items_rest hi
  have hf := items_free hi
  have hn2 := (List.nodup_append.1 (hip.nodup_iff.2 hS.nd)).2.1
  refine ⟨T, ⟨hTi, fun t ht => by have := hi t ht; omega, ?_, fun y hy => ?_⟩, ?_⟩
  · rw [hr]
    exact nodup_mapC hn2 fun a ha b hb e => rho_inj (items_rng hO ha).1 (items_rng hO hb).1 (hf a ha) (hf b hb) e
  · obtain ⟨x, x1, x2, x3⟩ := cntL_surj hy
    have hx := hip.mem_iff.2 (hS.all x x1)
    rcases List.mem_append.1 hx with hx | hx
    · exact absurd hx x2
    · rw [hr]
      refine List.mem_map.2 ⟨(x : Int), hx, ?_⟩
      unfold rho
      rw [Int.toNat_natCast, x3]
  · unfold phi
    exact inc_uniq (isort_inc hnd) hS.inc fun k => by rw [(isort_permC _).mem_iff]; exact hpm k
theorem phi_inj (hO : coverOk n O = true) (h0 : 0 ≤ o) (h1 : o < O.length) {T U : List Int} (hT : T.Pairwise (· < ·)) (hU : U.Pairwise (· < ·)) (iT : ∀ t ∈ T, 0 ≤ t ∧ t < (kP O (O.getD o.toNat [])).length) (iU : ∀ t ∈ U, 0 ≤ t ∧ t < (kP O (O.getD o.toNat [])).length) (h : phi O o T = phi O o U) : T = U := by
  have go : ∀ {A B : List Int}, (∀ t ∈ A, 0 ≤ t ∧ t < (kP O (O.getD o.toNat [])).length) → (∀ t ∈ B, 0 ≤ t ∧ t < (kP O (O.getD o.toNat [])).length) → phi O o A = phi O o B → ∀ t ∈ A, t ∈ B := by
    intro A B iA iB h t ht
    have hm : kap O (O.getD o.toNat []) t ∈ phi O o B := by rw [← h]; exact phi_mem.2 (.inr ⟨t, ht, rfl⟩)
    rcases phi_mem.1 hm with e | ⟨u, hu, e⟩
    · exact absurd e (kap_ne hO h0 h1 (iA t ht).1 (iA t ht).2)
    · rw [← kap_inj (iB u hu).1 (iB u hu).2 (iA t ht).1 (iA t ht).2 e]; exact hu
  exact inc_uniq hT hU fun t => ⟨go iT iU h t, go iU iT h.symm t⟩
theorem asc_mapC {f : Int → Int} : ∀ {l : List Int} {lo hi lo' hi' : Int}, asc lo hi l = true → (∀ x ∈ l, lo' ≤ f x ∧ f x ≤ hi') → (∀ x ∈ l, ∀ y ∈ l, x < y → f x < f y) → asc lo' hi' (l.map f) = true
  | [], _, _, _, _, _, _, _ => rfl
  | x :: r, lo, hi, lo', hi', h, hb, hm => by
    simp only [asc, Bool.and_eq_true, decide_eq_true_eq] at h
    obtain ⟨b1, b2⟩ := hb x (by simp)
    have hr := asc_gtA h.2
    simp only [List.map_cons, asc, Bool.and_eq_true, decide_eq_true_eq]
    refine ⟨⟨b1, b2⟩, asc_mapC h.2 (fun y hy => ⟨?_, (hb y (by simp [hy])).2⟩) fun y hy z hz => hm y (by simp [hy]) z (by simp [hz])⟩
    have := hm x (by simp) y (by simp [hy]) (by have := hr y hy; omega)
    omega
theorem rest_cover (hO : coverOk n O = true) {E : List Int} (h : 1 ≤ cntL E n) : coverOk (cntL E n : Nat) (optsI O E) = true := by
  have hO2 := hO
  simp only [coverOk, Bool.and_eq_true, decide_eq_true_eq, List.all_eq_true] at hO2 ⊢
  have hl := leftL_len n E
  have hol := optsI_len O E
  refine ⟨⟨⟨by omega, by unfold cntL; omega⟩, by omega⟩, fun xs hxs => ?_⟩
  rw [kP_opts] at hxs
  obtain ⟨p, hp, rfl⟩ := List.mem_map.1 hxs
  obtain ⟨g1, g2⟩ := kP_mem hp
  have hm := hO2.2 p.1 (List.mem_of_getElem? g1)
  have hr := asc_gtA hm.2
  refine ⟨?_, asc_mapC hm.2 (fun x hx => ?_) fun x hx y hy hxy => rho_lt (hr x hx).1 hxy (g2 x hx)⟩
  · have := hm.1
    cases hh : p.1 with
    | nil => rw [hh] at this; simp at this
    | cons a b => rfl
  · have := rho_in (n := n) (hr x hx).1 (by have := (hr x hx).2; omega) (g2 x hx)
    omega
theorem rest_count (hO : coverOk n O = true) (h0 : 0 ≤ o) (h1 : o < O.length) (hc : 1 ≤ cntL (O.getD o.toNat []) n) : (solsAll (optsI O (O.getD o.toNat [])) (cntL (O.getD o.toNat []) n)).length = ((solsAll O n).filter fun S => S.contains o).length := by
  have hR := rest_cover hO hc
  have hol : (optsI O (O.getD o.toNat [])).length = (kP O (O.getD o.toNat [])).length := by rw [kP_opts, List.length_map]
  have hL := fun S => solsAll_mem (S := S) hO
  have hL' := fun S => solsAll_mem (S := S) hR
  have hp : ((solsAll (optsI O (O.getD o.toNat [])) (cntL (O.getD o.toNat []) n)).map (phi O o)).Perm ((solsAll O n).filter fun S => S.contains o) := by
    refine (List.perm_ext_iff_of_nodup ?_ ((solsAll_nodup hO).filter _)).2 fun S => ?_
    · unfold List.Nodup
      rw [List.pairwise_map]
      refine (List.Pairwise.and_mem.1 (solsAll_nodup hR)).imp ?_
      rintro a b ⟨ha, hb, hab⟩ e
      have xa := (hL' a).1 ha
      have xb := (hL' b).1 hb
      exact hab (phi_inj hO h0 h1 xa.inc xb.inc (fun t ht => by have := xa.idx t ht; omega) (fun t ht => by have := xb.idx t ht; omega) e)
    · rw [List.mem_map, List.mem_filter]
      constructor
      · rintro ⟨T, hT, rfl⟩
        exact ⟨(hL _).2 (phi_ok hO h0 h1 ((hL' T).1 hT)), List.contains_iff_mem.2 (phi_mem.2 (.inl rfl))⟩
      · rintro ⟨hS, ho⟩
        obtain ⟨T, hT, e⟩ := phi_onto hO h0 h1 ((hL S).1 hS) (List.contains_iff_mem.1 ho)
        exact ⟨T, (hL' T).2 hT, e⟩
  have := hp.length_eq
  rw [List.length_map] at this
  exact this
end
end Go.Proofs.Ytnlfokkljgbaaaa
