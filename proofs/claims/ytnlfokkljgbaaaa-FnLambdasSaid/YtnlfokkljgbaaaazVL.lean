/- Designs: sets in blocks, counted twice. -/
import Derived.Test.YtnlfokkljgbaaaazK24
import Derived.Test.YtnlfokkljgbaaaazK20
set_option linter.unusedSimpArgs false
set_option linter.unusedVariables false
set_option maxHeartbeats 4000000
set_option maxRecDepth 100000
namespace Go.Proofs.Ytnlfokkljgbaaaa
open Go.Av
theorem subsL_allV : ∀ (m : Nat) (lo : Int) (k : Nat) (s : List Int), s.length = k → asc lo (lo + m - 1) s = true → s ∈ subsL m lo k
  | m, lo, 0, s, hl, _ => by
    rw [List.length_eq_zero_iff.1 hl]
    cases m <;> simp [subsL]
  | 0, lo, k + 1, [], hl, _ => by simp at hl
  | 0, lo, k + 1, x :: s, hl, ha => by
    have := asc_mem ha x (by simp)
    omega
  | m + 1, lo, k + 1, [], hl, _ => by simp at hl
  | m + 1, lo, k + 1, x :: s, hl, ha => by
    have e : lo + ((m + 1 : Nat) : Int) - 1 = (lo + 1) + (m : Int) - 1 := by omega
    unfold subsL
    rw [List.mem_append]
    simp only [asc, Bool.and_eq_true, decide_eq_true_eq] at ha
    by_cases hx : x = lo
    · subst hx
      refine .inl (List.mem_map.2 ⟨s, subsL_allV m (x + 1) k s (by simpa using hl) ?_, rfl⟩)
      rw [← e]; exact ha.2
    · refine .inr (subsL_allV m (lo + 1) (k + 1) (x :: s) hl ?_)
      rw [← e]
      simp only [asc, Bool.and_eq_true, decide_eq_true_eq]
      exact ⟨by omega, ha.2⟩
theorem subsN_memV {n k : Nat} {s : List Int} : s ∈ subsN n k ↔ s.length = k ∧ asc 0 ((n : Int) - 1) s = true := by
  constructor
  · intro h
    have := subsL_mem n 0 k s h
    rwa [Int.zero_add] at this
  · rintro ⟨h1, h2⟩
    exact subsL_allV n 0 k s h1 (by rwa [Int.zero_add])
theorem asc_rng (p : Nat → Bool) (hi : Int) : ∀ (m a : Nat) (lo : Int), lo ≤ a → (a : Int) + m ≤ hi + 1 → asc lo hi (((List.range' a m).filter p).map fun (i : Nat) => (i : Int)) = true
  | 0, _, _, _, _ => rfl
  | m + 1, a, lo, h1, h2 => by
    rw [List.range'_succ, List.filter_cons]
    split
    · rw [List.map_cons]
      simp only [asc, Bool.and_eq_true, decide_eq_true_eq]
      exact ⟨⟨h1, by omega⟩, asc_rng p hi m (a + 1) _ (by omega) (by omega)⟩
    · exact asc_rng p hi m (a + 1) lo (by omega) (by omega)
theorem in_len {v : Nat} {l : List Int} (ha : asc 0 ((v : Int) - 1) l = true) : ((List.range v).filter fun (x : Nat) => l.contains (x : Int)).length = l.length := by
  have h1 : (((List.range v).filter fun (x : Nat) => l.contains (x : Int)).map fun (i : Nat) => (i : Int)).Nodup := by
    unfold List.Nodup
    rw [List.pairwise_map]
    exact List.Pairwise.imp (fun h e => h (by omega)) (List.nodup_range.filter _)
  have h2 := asc_nodupA ha
  have h3 := (List.perm_ext_iff_of_nodup h1 h2).2 (fun a => by
    rw [List.mem_map]
    constructor
    · rintro ⟨i, hi, rfl⟩
      simpa using (List.mem_filter.1 hi).2
    · intro h
      have hr := asc_mem ha a h
      obtain ⟨i, rfl⟩ := Int.eq_ofNat_of_zero_le hr.1
      exact ⟨i, List.mem_filter.2 ⟨List.mem_range.2 (by omega), by simpa using h⟩, rfl⟩)
  have := h3.length_eq
  rwa [List.length_map] at this
theorem countP_split {A : Type} (p q : A → Bool) : ∀ l : List A, l.countP p = (l.filter q).countP p + (l.filter fun x => !q x).countP p
  | [] => rfl
  | x :: l => by
    have := countP_split p q l
    simp only [List.countP_cons, List.filter_cons]
    cases hq : q x <;> simp [hq, List.countP_cons] <;> omega
theorem sum_addV {A : Type} (f g : A → Nat) : ∀ l : List A, (l.map fun x => f x + g x).sum = (l.map f).sum + (l.map g).sum
  | [] => rfl
  | x :: l => by
    have := sum_addV f g l
    simp only [List.map_cons, List.sum_cons]; omega
theorem sum_indV {A : Type} (p : A → Bool) : ∀ l : List A, (l.map fun x => if p x = true then 1 else 0).sum = l.countP p
  | [] => rfl
  | x :: l => by
    have := sum_indV p l
    simp only [List.map_cons, List.sum_cons, List.countP_cons]; omega
theorem sum_constV {A : Type} (f : A → Nat) (c : Nat) : ∀ l : List A, (∀ x ∈ l, f x = c) → (l.map f).sum = l.length * c
  | [], _ => by simp
  | x :: l, h => by
    have := sum_constV f c l (fun y hy => h y (by simp [hy]))
    simp only [List.map_cons, List.sum_cons, List.length_cons, this, h x (by simp), Nat.add_mul]; omega
def outV (v : Nat) (S : List Int) : List Nat := (List.range v).filter fun (x : Nat) => !S.contains (x : Int)
theorem outV_len {v : Nat} {S : List Int} (h : asc 0 ((v : Int) - 1) S = true) : (outV v S).length + S.length = v := by
  have h1 := countP_split (fun _ => true) (fun (x : Nat) => S.contains (x : Int)) (List.range v)
  simp only [List.countP_true, List.length_range] at h1
  rw [in_len h] at h1
  unfold outV; omega
def cntV9 (xss : List (List Int)) (set : List Int) : Nat := xss.countP fun b => set.all b.contains
theorem out_block {v k : Nat} {S b : List Int} (hS : asc 0 ((v : Int) - 1) S = true) (hb : asc 0 ((v : Int) - 1) b = true) (hk : b.length = k) :
    (outV v S).countP (fun (x : Nat) => ((x : Int) :: S).all b.contains) = if S.all b.contains = true then k - S.length else 0 := by
  simp only [List.all_cons]
  split
  · rename_i h
    simp only [h, Bool.and_true]
    have h1 := countP_split (fun (x : Nat) => b.contains (x : Int)) (fun (x : Nat) => S.contains (x : Int)) (List.range v)
    rw [List.countP_eq_length_filter, in_len hb] at h1
    have h2 : ((List.range v).filter fun (x : Nat) => S.contains (x : Int)).countP (fun (x : Nat) => b.contains (x : Int)) = S.length := by
      rw [← in_len hS, List.countP_eq_length]
      intro x hx
      have := (List.mem_filter.1 hx).2
      rw [List.all_eq_true] at h
      exact h _ (List.contains_iff_mem.1 this)
    unfold outV; omega
  · rename_i h
    rw [List.countP_eq_zero]
    intro x _
    rw [Bool.and_eq_true]
    exact fun e => h e.2
theorem out_sum {v k : Nat} {S : List Int} (hS : asc 0 ((v : Int) - 1) S = true) : ∀ xss : List (List Int), (∀ b ∈ xss, asc 0 ((v : Int) - 1) b = true ∧ b.length = k) → ((outV v S).map fun (x : Nat) => cntV9 xss ((x : Int) :: S)).sum = cntV9 xss S * (k - S.length)
  | [], _ => by
    rw [sum_constV (fun (x : Nat) => cntV9 [] ((x : Int) :: S)) 0 (outV v S) (fun x _ => rfl)]; simp [cntV9]
  | b :: xss, h => by
    have h1 := out_sum hS xss (fun c hc => h c (by simp [hc]))
    have hb := h b (by simp)
    have h2 : ∀ set, cntV9 (b :: xss) set = cntV9 xss set + if set.all b.contains = true then 1 else 0 := fun set => by unfold cntV9; rw [List.countP_cons]
    simp only [h2]
    rw [sum_addV, h1, sum_indV, out_block hS hb.1 hb.2, Nat.add_mul]
    split <;> simp
theorem cntV9_congr {xss : List (List Int)} {a b : List Int} (h : ∀ x, x ∈ a ↔ x ∈ b) : cntV9 xss a = cntV9 xss b := by
  unfold cntV9
  refine List.countP_congr fun c _ => ?_
  rw [List.all_eq_true, List.all_eq_true]
  exact ⟨fun g x hx => g x ((h x).2 hx), fun g x hx => g x ((h x).1 hx)⟩
theorem more_set {v s x : Nat} {S : List Int} (hS : S ∈ subsN v s) (hx : x ∈ outV v S) : ∃ U ∈ subsN v (s + 1), ∀ y, y ∈ ((x : Int) :: S) ↔ y ∈ U := by
  obtain ⟨h1, h2⟩ := subsN_memV.1 hS
  obtain ⟨hx1, hx2⟩ := List.mem_filter.1 hx
  rw [List.mem_range] at hx1
  have hx3 : (x : Int) ∉ S := by simpa using hx2
  have hm : ∀ y, y ∈ ((x : Int) :: S) ↔ y ∈ ((List.range v).filter fun (i : Nat) => ((x : Int) :: S).contains (i : Int)).map fun (i : Nat) => (i : Int) := by
    intro y
    rw [List.mem_map]
    constructor
    · intro hy
      have hr : 0 ≤ y ∧ y < v := by
        rcases List.mem_cons.1 hy with rfl | hy
        · omega
        · have := asc_mem h2 y hy; omega
      obtain ⟨i, rfl⟩ := Int.eq_ofNat_of_zero_le hr.1
      exact ⟨i, List.mem_filter.2 ⟨List.mem_range.2 (by omega), List.contains_iff_mem.2 hy⟩, rfl⟩
    · rintro ⟨i, hi, rfl⟩
      exact List.contains_iff_mem.1 (List.mem_filter.1 hi).2
  have ha : asc 0 ((v : Int) - 1) (((List.range v).filter fun (i : Nat) => ((x : Int) :: S).contains (i : Int)).map fun (i : Nat) => (i : Int)) = true := by
    rw [List.range_eq_range']
    exact asc_rng _ _ v 0 0 (by omega) (by omega)
  refine ⟨_, subsN_memV.2 ⟨?_, ha⟩, hm⟩
  have hn : ((x : Int) :: S).Nodup := List.nodup_cons.2 ⟨hx3, asc_nodupA h2⟩
  have := ((List.perm_ext_iff_of_nodup hn (asc_nodupA ha)).2 hm).length_eq
  rw [← this, List.length_cons, h1]
theorem lam_step {v s k L : Nat} {xss : List (List Int)} (hb : ∀ b ∈ xss, asc 0 ((v : Int) - 1) b = true ∧ b.length = k) (hL : ∀ U ∈ subsN v (s + 1), cntV9 xss U = L) {S : List Int} (hS : S ∈ subsN v s) : cntV9 xss S * (k - s) = L * (v - s) := by
  obtain ⟨h1, h2⟩ := subsN_memV.1 hS
  have h3 := out_sum h2 xss hb
  have h4 := outV_len h2
  rw [h1] at h3 h4
  rw [← h3, sum_constV _ L _ (fun x hx => by
    obtain ⟨U, hU, hm⟩ := more_set hS hx
    rw [cntV9_congr hm, hL U hU]), Nat.mul_comm, show (outV v S).length = v - s by omega]
theorem sameV_ne {l : List Int} (h : sameV l ≠ 0) : l ≠ [] ∧ ∀ c ∈ l, c = sameV l := by
  cases l with
  | nil => exact absurd rfl h
  | cons c r =>
    refine ⟨by simp, ?_⟩
    have e : sameV (c :: r) = if r.all (fun d => decide (d = c)) = true then c else 0 := rfl
    rw [e] at h ⊢
    split at h
    · rename_i h1
      rw [if_pos h1]
      rw [List.all_eq_true] at h1
      intro d hd
      rcases List.mem_cons.1 hd with rfl | hd
      · rfl
      · simpa using h1 d hd
    · exact absurd rfl h
theorem sameV_all {l : List Int} {c : Int} (h : l ≠ []) (ha : ∀ d ∈ l, d = c) : sameV l = c := by
  cases l with
  | nil => exact absurd rfl h
  | cons d r =>
    have hd := ha d (by simp)
    have e : sameV (d :: r) = if r.all (fun e => decide (e = d)) = true then d else 0 := rfl
    rw [e, if_pos]
    · exact hd
    · rw [List.all_eq_true]
      intro e he
      rw [decide_eq_true_eq, hd]
      exact ha e (by simp [he])
theorem subsN_ne {v s : Nat} : subsN v s ≠ [] ↔ s ≤ v := by
  rw [← List.length_pos_iff, show (subsN v s).length = ch v s from subsL_len v 0 s]
  constructor
  · intro h
    by_cases hh : s ≤ v
    · exact hh
    · rw [ch_lt v s (by omega)] at h; omega
  · exact fun h => ch_pos v s h
theorem cntB_V9 (xss : List (List Int)) (set : List Int) : cntB xss set = (cntV9 xss set : Nat) := rfl
theorem nodup_sub_lenV {A : Type} : ∀ {l m : List A}, l.Nodup → (∀ x ∈ l, x ∈ m) → l.length ≤ m.length
  | [], _, _, _ => Nat.zero_le _
  | a :: l, m, hn, hs => by
    rw [List.nodup_cons] at hn
    obtain ⟨s, t, rfl⟩ := List.append_of_mem (hs a (by simp))
    have := nodup_sub_lenV (l := l) (m := s ++ t) hn.2 (fun x hx => by
      have h1 := hs x (by simp [hx])
      rcases List.mem_append.1 h1 with h1 | h1
      · exact List.mem_append_left _ h1
      · rcases List.mem_cons.1 h1 with rfl | h1
        · exact absurd hx hn.1
        · exact List.mem_append_right _ h1)
    simp at this ⊢; omega
def evenV (v : Nat) (xss : List (List Int)) (s L : Nat) : Prop := 0 < L ∧ s ≤ v ∧ ∀ U ∈ subsN v s, cntV9 xss U = L
theorem evenV_idx {v s L : Nat} {xss : List (List Int)} (h : evenV v xss s L) : tIdx v xss s = (L : Int) := by
  refine sameV_all (by simpa using subsN_ne.2 h.2.1) fun d hd => ?_
  obtain ⟨U, hU, rfl⟩ := List.mem_map.1 hd
  rw [cntB_V9, h.2.2 U hU]
theorem evenV_of {v s : Nat} {xss : List (List Int)} (h : tIdx v xss s ≠ 0) : ∃ L, evenV v xss s L := by
  obtain ⟨h1, h2⟩ := sameV_ne h
  have hs : s ≤ v := subsN_ne.1 (by simpa using h1)
  obtain ⟨U, hU⟩ := List.exists_mem_of_ne_nil _ (subsN_ne.2 hs)
  have h3 := h2 _ (List.mem_map_of_mem (f := cntB xss) hU)
  refine ⟨cntV9 xss U, ?_, hs, fun T hT => ?_⟩
  · rw [cntB_V9] at h3
    unfold tIdx at h
    rw [← h3] at h
    omega
  · have h4 := h2 _ (List.mem_map_of_mem (f := cntB xss) hT)
    rw [← h3, cntB_V9, cntB_V9] at h4
    omega
theorem evenV_down {v s k L : Nat} {xss : List (List Int)} (hb : ∀ b ∈ xss, asc 0 ((v : Int) - 1) b = true ∧ b.length = k) (h : evenV v xss (s + 1) L) : ∃ M, evenV v xss s M ∧ M * (k - s) = L * (v - s) := by
  obtain ⟨h0, h1, h2⟩ := h
  obtain ⟨U, hU⟩ := List.exists_mem_of_ne_nil _ (subsN_ne.2 h1)
  have hk : s + 1 ≤ k := by
    have h3 := h2 U hU
    have h4 : 0 < cntV9 xss U := by omega
    obtain ⟨b, hbm, hbc⟩ := List.countP_pos_iff.1 h4
    obtain ⟨g1, g2⟩ := subsN_memV.1 hU
    rw [List.all_eq_true] at hbc
    rw [← g1, ← (hb b hbm).2]
    exact nodup_sub_lenV (asc_nodupA g2) fun x hx => List.contains_iff_mem.1 (hbc x hx)
  obtain ⟨S, hS⟩ := List.exists_mem_of_ne_nil _ (subsN_ne.2 (show s ≤ v by omega))
  have h5 := lam_step hb h2 hS
  refine ⟨cntV9 xss S, ⟨?_, by omega, fun T hT => ?_⟩, h5⟩
  · rcases Nat.eq_zero_or_pos (cntV9 xss S) with h6 | h6
    · rw [h6, Nat.zero_mul] at h5
      have := Nat.mul_pos h0 (show 0 < v - s by omega)
      omega
    · exact h6
  · have h6 := lam_step hb h2 hT
    rw [← h5] at h6
    exact Nat.eq_of_mul_eq_mul_right (by omega) h6
theorem lam_theory {v t k : Nat} {xss : List (List Int)} (hb : ∀ b ∈ xss, asc 0 ((v : Int) - 1) b = true ∧ b.length = k) (h : tIdx v xss t ≠ 0) : ∀ i, i < t → tIdx v xss i * ((k : Int) - i) = tIdx v xss (i + 1) * ((v : Int) - i) := by
  have key : ∀ d, d ≤ t → ∃ L, evenV v xss (t - d) L := by
    intro d
    induction d with
    | zero => exact fun _ => evenV_of h
    | succ d ih =>
      intro hd
      obtain ⟨L, hL⟩ := ih (by omega)
      rw [show t - d = (t - (d + 1)) + 1 by omega] at hL
      obtain ⟨M, hM, -⟩ := evenV_down hb hL
      exact ⟨M, hM⟩
  intro i hi
  obtain ⟨L, hL⟩ := key (t - (i + 1)) (by omega)
  rw [show t - (t - (i + 1)) = i + 1 by omega] at hL
  obtain ⟨M, hM, he⟩ := evenV_down hb hL
  rw [evenV_idx hM, evenV_idx hL]
  have hv := hL.2.1
  have hk : i ≤ k := by
    by_cases hh : i ≤ k
    · exact hh
    · rw [show k - i = 0 by omega, Nat.mul_zero] at he
      have := Nat.mul_pos hL.1 (show 0 < v - i by omega)
      omega
  have := congrArg (fun n : Nat => (n : Int)) he
  simp only [Int.natCast_mul] at this
  rw [show ((k - i : Nat) : Int) = (k : Int) - i by omega, show ((v - i : Nat) : Int) = (v : Int) - i by omega] at this
  exact this
theorem tIdx_zero (v : Nat) (xss : List (List Int)) : tIdx v xss 0 = (xss.length : Int) := by
  unfold tIdx subsN
  rw [subsL_zero]
  show sameV [cntB xss []] = _
  rw [cntB_V9]
  unfold cntV9 sameV
  simp
theorem lam_some {v t : Nat} {xss : List (List Int)} (h : tIdx v xss t ≠ 0) : xss ≠ [] := by
  rintro rfl
  obtain ⟨L, h0, h1, h2⟩ := evenV_of h
  obtain ⟨U, hU⟩ := List.exists_mem_of_ne_nil _ (subsN_ne.2 h1)
  have := h2 U hU
  simp [cntV9] at this
  omega
end Go.Proofs.Ytnlfokkljgbaaaa
