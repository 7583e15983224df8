/- Exact covers: the model of their search. -/
import Derived.Test.YtnlfokkljgbaaaazK18
import Derived.Test.YtnlfokkljgbaaaazK20
import Derived.Test.YtnlfokkljgbaaaazS1
set_option linter.unusedSimpArgs false
set_option linter.unusedVariables false
set_option maxHeartbeats 4000000
set_option maxRecDepth 100000
namespace Go.Proofs.Ytnlfokkljgbaaaa
open Go.Av
structure VS where
  left : Nat
  spent : Bool
  found : List (List Int)
def opI (O : List (List Int)) (D : List Int) (k : Int) : Bool := !(O.getD k.toNat []).any fun x => D.contains x
def chL (O : List (List Int)) (D : List Int) (x : Int) : List Int := (optW x O).filter (opI O D)
def bstS (O : List (List Int)) (D : List Int) (acc : Option Nat) (x : Nat) : Option Nat :=
  if D.contains (x : Int) = true then acc else match acc with
    | none => some x
    | some y => if (chL O D (x : Int)).length < (chL O D (y : Int)).length then some x else some y
def bstI (O : List (List Int)) (D : List Int) (n : Nat) : Option Nat := (List.range n).foldl (bstS O D) none
def chs (O : List (List Int)) (D : List Int) (n : Nat) : List Int := match bstI O D n with
  | none => []
  | some x => chL O D (x : Int)
def vst (O : List (List Int)) (n : Nat) (one : Bool) : Nat → List Int → VS → VS
  | 0, _, st => st
  | d + 1, ch, st =>
    if st.spent = true ∨ (one = true ∧ st.found ≠ []) then st else if st.left = 0 then { st with spent := true } else
      if (marks n (itemsOf O ch)).contains false = false then ⟨st.left - 1, st.spent, st.found ++ [isort ch]⟩ else
        (chs O (itemsOf O ch) n).foldl (fun st k => vst O n one d (ch ++ [k]) st) { st with left := st.left - 1 }
theorem optW_mem {x : Int} {O : List (List Int)} {k : Int} : k ∈ optW x O ↔ 0 ≤ k ∧ k < O.length ∧ (O.getD k.toNat []).contains x = true := by
  unfold optW
  simp only [List.mem_map, List.mem_filter, Prod.exists]
  constructor
  · rintro ⟨o, i, ⟨h1, h2⟩, rfl⟩
    have h3 := List.mem_zipIdx' h1
    refine ⟨by omega, by omega, ?_⟩
    rw [Int.toNat_natCast, List.getD_eq_getElem?_getD, List.getElem?_eq_getElem h3.1, ← h3.2]
    exact h2
  · rintro ⟨h0, h1, h2⟩
    obtain ⟨i, rfl⟩ := Int.eq_ofNat_of_zero_le h0
    rw [Int.toNat_natCast] at h2
    have hi : i < O.length := by omega
    rw [List.getD_eq_getElem?_getD, List.getElem?_eq_getElem hi] at h2
    exact ⟨O[i], i, ⟨List.mem_zipIdx_iff_getElem?.2 (List.getElem?_eq_getElem hi), h2⟩, rfl⟩
theorem optW_nodup (x : Int) (O : List (List Int)) : (optW x O).Nodup := by
  unfold optW
  have h : (O.zipIdx.map fun p => (p.2 : Int)).Nodup := by
    have e : (O.zipIdx.map fun p => (p.2 : Int)) = (O.zipIdx.map Prod.snd).map fun (i : Nat) => (i : Int) := by rw [List.map_map]; rfl
    rw [e, List.zipIdx_map_snd]
    unfold List.Nodup
    rw [List.pairwise_map]
    exact List.Pairwise.imp (fun h e => h (by omega)) (List.nodup_range' (step := 1))
  exact h.sublist (List.Sublist.map _ List.filter_sublist)
theorem chL_mem {O : List (List Int)} {D : List Int} {x k : Int} : k ∈ chL O D x ↔ (0 ≤ k ∧ k < O.length ∧ (O.getD k.toNat []).contains x = true) ∧ opI O D k = true := by
  unfold chL
  rw [List.mem_filter, optW_mem]
theorem bst_some {O : List (List Int)} {D : List Int} : ∀ (l : List Nat) (acc : Option Nat), (∀ y, acc = some y → D.contains (y : Int) = false) → ∀ y, l.foldl (bstS O D) acc = some y → D.contains (y : Int) = false ∧ (acc = some y ∨ y ∈ l)
  | [], acc, h, y, hy => ⟨h y hy, .inl hy⟩
  | x :: l, acc, h, y, hy => by
    rw [List.foldl_cons] at hy
    have hs : ∀ z, bstS O D acc x = some z → D.contains (z : Int) = false ∧ (acc = some z ∨ z = x) := by
      intro z hz
      unfold bstS at hz
      split at hz
      · exact ⟨h z hz, .inl hz⟩
      · rename_i hx
        rw [Bool.not_eq_true] at hx
        split at hz
        · cases hz; exact ⟨hx, .inr rfl⟩
        · rename_i w
          split at hz
          · cases hz; exact ⟨hx, .inr rfl⟩
          · cases hz; exact ⟨h z rfl, .inl rfl⟩
    obtain ⟨g1, g2⟩ := bst_some l _ (fun z hz => (hs z hz).1) y hy
    refine ⟨g1, ?_⟩
    rcases g2 with g2 | g2
    · rcases (hs y g2).2 with g3 | rfl
      · exact .inl g3
      · exact .inr (by simp)
    · exact .inr (by simp [g2])
theorem bst_isSome {O : List (List Int)} {D : List Int} : ∀ (l : List Nat) (acc : Option Nat), (acc.isSome = true ∨ ∃ x ∈ l, D.contains (x : Int) = false) → (l.foldl (bstS O D) acc).isSome = true
  | [], acc, h => by
    rcases h with h | ⟨x, h, _⟩
    · exact h
    · cases h
  | x :: l, acc, h => by
    rw [List.foldl_cons]
    refine bst_isSome l _ ?_
    have hk : acc.isSome = true → (bstS O D acc x).isSome = true := by
      intro hh
      unfold bstS
      split
      · exact hh
      · split
        · rfl
        · split <;> rfl
    rcases h with h | ⟨z, hz, hz2⟩
    · exact .inl (hk h)
    · rcases List.mem_cons.1 hz with rfl | hz
      · left
        unfold bstS
        rw [if_neg (by rw [hz2]; simp)]
        split
        · rfl
        · split <;> rfl
      · exact .inr ⟨z, hz, hz2⟩
theorem chs_item {O : List (List Int)} {D : List Int} {n : Nat} (h : (marks n D).contains false = true) : ∃ x : Nat, x < n ∧ D.contains (x : Int) = false ∧ bstI O D n = some x ∧ chs O D n = chL O D (x : Int) := by
  have h1 : ∃ x : Nat, x < n ∧ D.contains (x : Int) = false := by
    rw [List.contains_iff_mem] at h
    unfold marks at h
    obtain ⟨i, hi, he⟩ := List.mem_map.1 h
    exact ⟨i, List.mem_range.1 hi, he⟩
  obtain ⟨x, hx, hd⟩ := h1
  have h2 := bst_isSome (O := O) (D := D) (List.range n) none (.inr ⟨x, List.mem_range.2 hx, hd⟩)
  obtain ⟨y, hy⟩ := Option.isSome_iff_exists.1 h2
  have h3 := bst_some (O := O) (D := D) (List.range n) none (fun _ h => by cases h) y hy
  have h4 : y ∈ List.range n := by
    rcases h3.2 with h | h
    · cases h
    · exact h
  refine ⟨y, List.mem_range.1 h4, h3.1, hy, ?_⟩
  unfold chs bstI
  rw [hy]
theorem vst_stop {O : List (List Int)} {n : Nat} {one : Bool} {st : VS} (h : st.spent = true ∨ (one = true ∧ st.found ≠ [])) : ∀ (d : Nat) (ch : List Int), vst O n one d ch st = st
  | 0, _ => rfl
  | d + 1, ch => by unfold vst; rw [if_pos h]
theorem vst_inv {O : List (List Int)} {n : Nat} {one : Bool} {P : VS → Prop} (h0 : ∀ st, P st → P { st with spent := true }) (h1 : ∀ st ch, P st → st.left ≠ 0 → P ⟨st.left - 1, st.spent, st.found ++ [isort ch]⟩) (h2 : ∀ st, P st → st.left ≠ 0 → P { st with left := st.left - 1 }) :
    ∀ (d : Nat) (ch : List Int) (st : VS), P st → P (vst O n one d ch st)
  | 0, _, _, h => h
  | d + 1, ch, st, h => by
    unfold vst
    split
    · exact h
    · split
      · exact h0 _ h
      · rename_i hl
        split
        · exact h1 _ _ h hl
        · have : ∀ (l : List Int) (s : VS), P s → P (l.foldl (fun st k => vst O n one d (ch ++ [k]) st) s) := by
            intro l
            induction l with
            | nil => intro s hs; exact hs
            | cons k l ih => intro s hs; rw [List.foldl_cons]; exact ih _ (vst_inv h0 h1 h2 d _ _ hs)
          exact this _ _ (h2 _ h hl)
theorem vst_left {O : List (List Int)} {n : Nat} {one : Bool} (d : Nat) (ch : List Int) (st : VS) : (vst O n one d ch st).left ≤ st.left :=
  vst_inv (P := fun s => s.left ≤ st.left) (fun _ h => h) (fun s _ h _ => by show s.left - 1 ≤ _; omega) (fun s h _ => by show s.left - 1 ≤ _; omega) d ch st (Nat.le_refl _)
theorem vst_found {O : List (List Int)} {n : Nat} {one : Bool} (d : Nat) (ch : List Int) (st : VS) : (vst O n one d ch st).found.length + (vst O n one d ch st).left ≤ st.found.length + st.left :=
  vst_inv (P := fun s => s.found.length + s.left ≤ st.found.length + st.left) (fun _ h => h) (fun s _ h hl => by show (s.found ++ [_]).length + (s.left - 1) ≤ _; rw [List.length_append, List.length_singleton]; omega) (fun s h _ => by show s.found.length + (s.left - 1) ≤ _; omega) d ch st (Nat.le_refl _)
structure ChOk (O : List (List Int)) (n : Nat) (ch : List Int) : Prop where
  idx : ∀ k ∈ ch, 0 ≤ k ∧ k < O.length
  nd : (itemsOf O ch).Nodup
  rng : ∀ x ∈ itemsOf O ch, 0 ≤ x ∧ x < n
  len : ch.length ≤ (itemsOf O ch).length
theorem ChOk.nil (O : List (List Int)) (n : Nat) : ChOk O n [] := ⟨by simp, by simp [itemsOf], by simp [itemsOf], by simp⟩
theorem nodup_bound : ∀ (n : Nat) (l : List Int), l.Nodup → (∀ x ∈ l, 0 ≤ x ∧ x < (n : Int)) → l.length ≤ n
  | 0, l, _, h => by
    cases l with
    | nil => simp
    | cons x l => have := h x (by simp); omega
  | n + 1, l, hd, h => by
    have h1 := nodup_bound n (l.erase (n : Int)) (hd.erase _) (fun x hx => by
      rw [hd.mem_erase_iff] at hx
      have := h x hx.2
      have := hx.1
      omega)
    rw [List.length_erase] at h1
    split at h1 <;> omega
theorem ChOk.short {O : List (List Int)} {n : Nat} {ch : List Int} (h : ChOk O n ch) : ch.length ≤ n := Nat.le_trans h.len (nodup_bound n _ h.nd h.rng)
theorem ChOk.snoc {O : List (List Int)} {n : Nat} {ch : List Int} (hO : coverOk n O = true) (h : ChOk O n ch) {x k : Int} (hk : k ∈ chL O (itemsOf O ch) x) : ChOk O n (ch ++ [k]) := by
  obtain ⟨⟨h0, h1, h2⟩, h3⟩ := chL_mem.1 hk
  simp only [coverOk, Bool.and_eq_true, decide_eq_true_eq, List.all_eq_true] at hO
  have hm : O.getD k.toNat [] ∈ O := by
    rw [List.getD_eq_getElem?_getD, List.getElem?_eq_getElem (show k.toNat < O.length by omega)]
    exact List.getElem_mem _
  have ho := hO.2 _ hm
  refine ⟨fun j hj => ?_, ?_, fun y hy => ?_, ?_⟩
  · rcases List.mem_append.1 hj with hj | hj
    · exact h.idx j hj
    · rw [List.mem_singleton.1 hj]; exact ⟨h0, h1⟩
  · rw [itemsOf_snoc, List.nodup_append]
    refine ⟨h.nd, asc_nodupA ho.2, fun a ha b hb => ?_⟩
    rintro rfl
    unfold opI at h3
    rw [Bool.not_eq_true', ← Bool.not_eq_true, List.any_eq_true] at h3
    exact h3 ⟨a, hb, List.contains_iff_mem.2 ha⟩
  · rw [itemsOf_snoc] at hy
    rcases List.mem_append.1 hy with hy | hy
    · exact h.rng y hy
    · have := asc_mem ho.2 y hy
      omega
  · rw [itemsOf_snoc, List.length_append, List.length_append, List.length_singleton]
    have : 1 ≤ (O.getD k.toNat []).length := by
      have := ho.1
      cases hh : O.getD k.toNat [] with
      | nil => rw [hh] at this; simp at this
      | cons a b => simp
    have := h.len
    omega
end Go.Proofs.Ytnlfokkljgbaaaa
