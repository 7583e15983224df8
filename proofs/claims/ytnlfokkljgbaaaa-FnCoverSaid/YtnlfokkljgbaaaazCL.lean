/- Exact covers: what the search finds. -/
import Derived.Test.YtnlfokkljgbaaaazCA
set_option linter.unusedSimpArgs false
set_option linter.unusedVariables false
set_option maxHeartbeats 4000000
set_option maxRecDepth 100000
namespace Go.Proofs.Ytnlfokkljgbaaaa
open Go.Av
def sols (O : List (List Int)) (n : Nat) : Nat → List Int → List (List Int)
  | 0, _ => []
  | d + 1, ch => if (marks n (itemsOf O ch)).contains false = false then [isort ch] else (chs O (itemsOf O ch) n).flatMap fun k => sols O n d (ch ++ [k])
theorem foldl_spent {O : List (List Int)} {n : Nat} {one : Bool} {d : Nat} {ch : List Int} : ∀ (l : List Int) (s : VS), s.spent = true → l.foldl (fun st k => vst O n one d (ch ++ [k]) st) s = s
  | [], _, _ => rfl
  | k :: l, s, h => by rw [List.foldl_cons, vst_stop (.inl h)]; exact foldl_spent l s h
theorem vst_sols {O : List (List Int)} {n : Nat} : ∀ (d : Nat) (ch : List Int) (st : VS), (vst O n false d ch st).spent = false → (vst O n false d ch st).found = st.found ++ sols O n d ch
  | 0, ch, st, _ => by show st.found = _; simp [sols]
  | d + 1, ch, st, h => by
    unfold vst at h ⊢
    unfold sols
    by_cases h1 : st.spent = true ∨ (false = true ∧ st.found ≠ [])
    · rw [if_pos h1] at h
      rcases h1 with h1 | ⟨h1, _⟩
      · rw [h1] at h; cases h
      · cases h1
    rw [if_neg h1] at h ⊢
    by_cases h2 : st.left = 0
    · rw [if_pos h2] at h; cases h
    rw [if_neg h2] at h ⊢
    by_cases h3 : (marks n (itemsOf O ch)).contains false = false
    · rw [if_pos h3, if_pos h3]
    rw [if_neg h3] at h ⊢
    rw [if_neg h3]
    have go : ∀ (l : List Int) (s : VS), (l.foldl (fun st k => vst O n false d (ch ++ [k]) st) s).spent = false → (l.foldl (fun st k => vst O n false d (ch ++ [k]) st) s).found = s.found ++ l.flatMap fun k => sols O n d (ch ++ [k]) := by
      intro l
      induction l with
      | nil => intro s _; simp
      | cons k l ih =>
        intro s hs
        rw [List.foldl_cons] at hs ⊢
        have hk : (vst O n false d (ch ++ [k]) s).spent = false := by
          cases hh : (vst O n false d (ch ++ [k]) s).spent
          · rfl
          · rw [foldl_spent _ _ hh, hh] at hs; cases hs
        rw [ih _ hs, vst_sols d _ _ hk, List.flatMap_cons, List.append_assoc]
    exact go _ _ h
def relF (t s : VS) : Prop := (t.found = [] ∧ t = s) ∨ ∃ x, t.found = [x] ∧ t.spent = false ∧ s.found.head? = some x
theorem vst_first {O : List (List Int)} {n : Nat} : ∀ (d : Nat) (ch : List Int) (t s : VS), relF t s → (vst O n false d ch s).spent = false → relF (vst O n true d ch t) (vst O n false d ch s)
  | 0, _, _, _, h, _ => h
  | d + 1, ch, t, s, h, hs => by
    rcases h with ⟨h0, rfl⟩ | ⟨x, h1, h2, h3⟩
    rotate_left
    · rw [vst_stop (.inr ⟨rfl, by rw [h1]; simp⟩)]
      refine .inr ⟨x, h1, h2, ?_⟩
      rw [vst_sols _ _ _ hs, List.head?_append, h3]; rfl
    have hsp : t.spent = false := by
      cases hh : t.spent
      · rfl
      · rw [vst_stop (.inl hh), hh] at hs; cases hs
    unfold vst at hs ⊢
    rw [if_neg (by rw [hsp]; simp)] at hs
    rw [if_neg (show ¬ (t.spent = true ∨ true = true ∧ t.found ≠ []) by rw [hsp, h0]; simp), if_neg (show ¬ (t.spent = true ∨ false = true ∧ t.found ≠ []) by rw [hsp]; simp)]
    by_cases h2 : t.left = 0
    · rw [if_pos h2] at hs; cases hs
    rw [if_neg h2] at hs
    rw [if_neg h2, if_neg h2]
    by_cases h3 : (marks n (itemsOf O ch)).contains false = false
    · rw [if_pos h3, if_pos h3]
      exact .inr ⟨isort ch, by simp [h0], hsp, by simp [h0]⟩
    rw [if_neg h3] at hs
    rw [if_neg h3, if_neg h3]
    have go : ∀ (l : List Int) (a b : VS), relF a b → (l.foldl (fun st k => vst O n false d (ch ++ [k]) st) b).spent = false → relF (l.foldl (fun st k => vst O n true d (ch ++ [k]) st) a) (l.foldl (fun st k => vst O n false d (ch ++ [k]) st) b) := by
      intro l
      induction l with
      | nil => intro a b h _; exact h
      | cons k l ih =>
        intro a b h hb
        rw [List.foldl_cons] at hb
        rw [List.foldl_cons, List.foldl_cons]
        refine ih _ _ (vst_first d _ a b h ?_) hb
        cases hh : (vst O n false d (ch ++ [k]) b).spent
        · rfl
        · rw [foldl_spent _ _ hh, hh] at hb; cases hb
    exact go _ _ _ (.inl ⟨h0, rfl⟩) hs
structure ExC (O : List (List Int)) (n : Nat) (S : List Int) : Prop where
  inc : S.Pairwise (· < ·)
  idx : ∀ k ∈ S, 0 ≤ k ∧ k < O.length
  nd : (itemsOf O S).Nodup
  all : ∀ x : Nat, x < n → (x : Int) ∈ itemsOf O S
theorem items_mem {O : List (List Int)} {S : List Int} {x : Int} : x ∈ itemsOf O S ↔ ∃ k ∈ S, x ∈ O.getD k.toNat [] := by unfold itemsOf; exact List.mem_flatMap
theorem items_uniq {O : List (List Int)} {x : Int} : ∀ {S : List Int} {k j : Int}, (itemsOf O S).Nodup → k ∈ S → j ∈ S → x ∈ O.getD k.toNat [] → x ∈ O.getD j.toNat [] → k = j
  | [], _, _, _, h, _, _, _ => by simp at h
  | a :: S, k, j, hn, hk, hj, h1, h2 => by
    have e : itemsOf O (a :: S) = O.getD a.toNat [] ++ itemsOf O S := by simp [itemsOf]
    rw [e, List.nodup_append] at hn
    obtain ⟨_, n2, n3⟩ := hn
    rcases List.mem_cons.1 hk with e1 | k1 <;> rcases List.mem_cons.1 hj with e2 | j1
    · rw [e1, e2]
    · rw [e1] at h1
      exact absurd rfl (n3 x h1 x (items_mem.2 ⟨j, j1, h2⟩))
    · rw [e2] at h2
      exact absurd rfl (n3 x h2 x (items_mem.2 ⟨k, k1, h1⟩))
    · exact items_uniq n2 k1 j1 h1 h2
theorem items_perm {O : List (List Int)} {S T : List Int} (h : S.Perm T) : (itemsOf O S).Perm (itemsOf O T) := List.Perm.flatMap_right _ h
theorem opt_ne {O : List (List Int)} {n : Nat} (hO : coverOk n O = true) {k : Int} (h0 : 0 ≤ k) (h1 : k < O.length) : ∃ x, x ∈ O.getD k.toNat [] ∧ 0 ≤ x ∧ x < n := by
  simp only [coverOk, Bool.and_eq_true, decide_eq_true_eq, List.all_eq_true] at hO
  have hm : O.getD k.toNat [] ∈ O := by
    rw [List.getD_eq_getElem?_getD, List.getElem?_eq_getElem (show k.toNat < O.length by omega)]
    exact List.getElem_mem _
  have ho := hO.2 _ hm
  cases hh : O.getD k.toNat [] with
  | nil => rw [hh] at ho; simp at ho
  | cons a b =>
    have := asc_mem ho.2 a (by rw [hh]; simp)
    exact ⟨a, by simp, by omega, by omega⟩
theorem ChOk.nodup {O : List (List Int)} {n : Nat} (hO : coverOk n O = true) : ∀ {ch : List Int}, (∀ k ∈ ch, 0 ≤ k ∧ k < O.length) → (itemsOf O ch).Nodup → ch.Nodup
  | [], _, _ => List.nodup_nil
  | a :: S, hi, hn => by
    have e : itemsOf O (a :: S) = O.getD a.toNat [] ++ itemsOf O S := by simp [itemsOf]
    rw [e, List.nodup_append] at hn
    obtain ⟨_, n2, n3⟩ := hn
    rw [List.nodup_cons]
    refine ⟨fun h => ?_, ChOk.nodup hO (fun k hk => hi k (List.mem_cons_of_mem _ hk)) n2⟩
    obtain ⟨x, hx, _⟩ := opt_ne hO (hi a (by simp)).1 (hi a (by simp)).2
    exact n3 x hx x (items_mem.2 ⟨a, h, hx⟩) rfl
theorem isort_inc {l : List Int} (h : l.Nodup) : (isort l).Pairwise (· < ·) := by
  have ho : (isort l).Pairwise (· ≤ ·) := by
    have := List.pairwise_mergeSort (le := fun x y : Int => decide (x ≤ y)) (fun a b c h1 h2 => by simp at *; omega) (fun a b => by simp; omega) l
    exact this.imp fun h => by simpa using h
  have hn : (isort l).Nodup := (List.mergeSort_perm _ _).nodup_iff.2 h
  exact (ho.and hn).imp fun ⟨h1, h2⟩ => by omega
theorem isort_permC (l : List Int) : (isort l).Perm l := List.mergeSort_perm _ _
theorem inc_nodup {l : List Int} (h : l.Pairwise (· < ·)) : l.Nodup := h.imp fun h => by omega
theorem inc_uniq {l m : List Int} (hl : l.Pairwise (· < ·)) (hm : m.Pairwise (· < ·)) (h : ∀ x, x ∈ l ↔ x ∈ m) : l = m :=
  List.Perm.eq_of_pairwise (le := fun a b => a ≤ b) (fun a b _ _ h1 h2 => by omega) (hl.imp fun h => by omega) (hm.imp fun h => by omega) ((List.perm_ext_iff_of_nodup (inc_nodup hl) (inc_nodup hm)).2 h)
theorem marks_full {n : Nat} {D : List Int} : (marks n D).contains false = false ↔ ∀ x : Nat, x < n → (x : Int) ∈ D := by
  rw [← Bool.not_eq_true, List.contains_iff_mem]
  unfold marks
  constructor
  · intro h x hx
    apply Classical.byContradiction
    intro hc
    exact h (List.mem_map.2 ⟨x, List.mem_range.2 hx, by simpa using hc⟩)
  · intro h hc
    obtain ⟨i, hi, he⟩ := List.mem_map.1 hc
    have := h i (List.mem_range.1 hi)
    rw [List.contains_iff_mem.2 this] at he
    cases he
theorem sols_sound {O : List (List Int)} {n : Nat} (hO : coverOk n O = true) : ∀ (d : Nat) (ch : List Int), ChOk O n ch → ∀ S ∈ sols O n d ch, ExC O n S ∧ ∀ k ∈ ch, k ∈ S
  | 0, _, _, S, h => by simp [sols] at h
  | d + 1, ch, hc, S, h => by
    unfold sols at h
    by_cases h3 : (marks n (itemsOf O ch)).contains false = false
    · rw [if_pos h3, List.mem_singleton] at h
      subst h
      have hp := isort_permC ch
      have hi := items_perm (O := O) hp
      refine ⟨⟨isort_inc (ChOk.nodup hO hc.idx hc.nd), fun k hk => hc.idx k (hp.mem_iff.1 hk), hi.nodup_iff.2 hc.nd, fun x hx => hi.mem_iff.2 (marks_full.1 h3 x hx)⟩, fun k hk => hp.mem_iff.2 hk⟩
    · rw [if_neg h3] at h
      rw [Bool.not_eq_false] at h3
      obtain ⟨x, hx, hd, _, he⟩ := chs_item (O := O) h3
      rw [he] at h
      obtain ⟨k, hk, hS⟩ := List.mem_flatMap.1 h
      obtain ⟨g1, g2⟩ := sols_sound hO d _ (hc.snoc hO hk) S hS
      exact ⟨g1, fun j hj => g2 j (by simp [hj])⟩
theorem sols_complete {O : List (List Int)} {n : Nat} (hO : coverOk n O = true) : ∀ (d : Nat) (ch : List Int), ChOk O n ch → n + 1 ≤ d + ch.length → ∀ S, ExC O n S → (∀ k ∈ ch, k ∈ S) → S ∈ sols O n d ch
  | 0, ch, hc, hl, S, _, _ => by have := hc.short; omega
  | d + 1, ch, hc, hl, S, hS, hs => by
    unfold sols
    by_cases h3 : (marks n (itemsOf O ch)).contains false = false
    · rw [if_pos h3, List.mem_singleton]
      have hp := isort_permC ch
      refine inc_uniq hS.inc (isort_inc (ChOk.nodup hO hc.idx hc.nd)) fun k => ⟨fun hk => ?_, fun hk => hs k (hp.mem_iff.1 hk)⟩
      obtain ⟨x, hx, x0, x1⟩ := opt_ne hO (hS.idx k hk).1 (hS.idx k hk).2
      have hxc := marks_full.1 h3 x.toNat (by omega)
      rw [Int.toNat_of_nonneg x0] at hxc
      obtain ⟨j, hj, hxj⟩ := items_mem.1 hxc
      rw [items_uniq hS.nd hk (hs j hj) hx hxj]
      exact hp.mem_iff.2 hj
    · rw [if_neg h3]
      rw [Bool.not_eq_false] at h3
      obtain ⟨x, hx, hd, _, he⟩ := chs_item (O := O) h3
      rw [he]
      obtain ⟨k, hk, hxk⟩ := items_mem.1 (hS.all x hx)
      have hkc : k ∈ chL O (itemsOf O ch) (x : Int) := by
        refine chL_mem.2 ⟨⟨(hS.idx k hk).1, (hS.idx k hk).2, List.contains_iff_mem.2 hxk⟩, ?_⟩
        unfold opI
        rw [Bool.not_eq_true', ← Bool.not_eq_true, List.any_eq_true]
        rintro ⟨y, hy, hyc⟩
        obtain ⟨j, hj, hyj⟩ := items_mem.1 (List.contains_iff_mem.1 hyc)
        have := items_uniq hS.nd hk (hs j hj) hy hyj
        subst this
        rw [List.contains_iff_mem.2 (items_mem.2 ⟨k, hj, hxk⟩)] at hd
        cases hd
      refine List.mem_flatMap.2 ⟨k, hkc, sols_complete hO d _ (hc.snoc hO hkc) (by rw [List.length_append, List.length_singleton]; omega) S hS fun j hj => ?_⟩
      rcases List.mem_append.1 hj with hj | hj
      · exact hs j hj
      · rw [List.mem_singleton.1 hj]; exact hk
theorem sols_nodup {O : List (List Int)} {n : Nat} (hO : coverOk n O = true) : ∀ (d : Nat) (ch : List Int), ChOk O n ch → (sols O n d ch).Nodup
  | 0, _, _ => by simp [sols]
  | d + 1, ch, hc => by
    unfold sols
    by_cases h3 : (marks n (itemsOf O ch)).contains false = false
    · rw [if_pos h3]; simp
    · rw [if_neg h3]
      rw [Bool.not_eq_false] at h3
      obtain ⟨x, hx, hd, _, he⟩ := chs_item (O := O) h3
      rw [he]
      unfold List.Nodup
      rw [List.pairwise_flatMap]
      refine ⟨fun k hk => sols_nodup hO d _ (hc.snoc hO hk), ?_⟩
      have hnd : (chL O (itemsOf O ch) (x : Int)).Nodup := (optW_nodup _ _).filter _
      refine (List.Pairwise.and_mem.1 hnd).imp ?_
      rintro a b ⟨ha, hb, hab⟩ S hS T hT rfl
      obtain ⟨g1, g2⟩ := sols_sound hO d _ (hc.snoc hO ha) S hS
      obtain ⟨_, g3⟩ := sols_sound hO d _ (hc.snoc hO hb) S hT
      have a1 := List.contains_iff_mem.1 (chL_mem.1 ha).1.2.2
      have b1 := List.contains_iff_mem.1 (chL_mem.1 hb).1.2.2
      exact hab (items_uniq g1.nd (g2 a (by simp)) (g3 b (by simp)) a1 b1)
def solsAll (O : List (List Int)) (n : Nat) : List (List Int) := sols O n (n + 1) []
theorem solsAll_mem {O : List (List Int)} {n : Nat} (hO : coverOk n O = true) {S : List Int} : S ∈ solsAll O n ↔ ExC O n S :=
  ⟨fun h => (sols_sound hO _ _ (ChOk.nil O n) S h).1, fun h => sols_complete hO _ _ (ChOk.nil O n) (by simp) S h (by simp)⟩
theorem solsAll_nodup {O : List (List Int)} {n : Nat} (hO : coverOk n O = true) : (solsAll O n).Nodup := sols_nodup hO _ _ (ChOk.nil O n)
end Go.Proofs.Ytnlfokkljgbaaaa
