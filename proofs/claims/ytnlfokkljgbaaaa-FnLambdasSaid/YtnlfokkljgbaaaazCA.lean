/- Exact covers: the model of their search. -/
import Derived.Test.YtnlfokkljgbaaaazK18
import Derived.Test.YtnlfokkljgbaaaazK20
import Derived.Test.YtnlfokkljgbaaaazAvA
set_option linter.unusedSimpArgs false
set_option linter.unusedVariables false
set_option maxHeartbeats 4000000
set_option maxRecDepth 100000
namespace Go.Proofs.Ytnlfokkljgbaaaa
open Go.Av
structure VS where
  left : Nat
  spent : Bool
  found : List (List Int)
def opI (O : List (List Int)) (D : List Int) (k : Int) : Bool := !(O.getD k.toNat []).any fun x => D.contains x
def chL (O : List (List Int)) (D : List Int) (x : Int) : List Int := (optW x O).filter (opI O D)
theorem optW_mem {x : Int} {O : List (List Int)} {k : Int} : k ∈ optW x O ↔ 0 ≤ k ∧ k < O.length ∧ (O.getD k.toNat []).contains x = true := by
  unfold optW
  simp only [List.mem_map, List.mem_filter, Prod.exists]
  constructor
  · rintro ⟨o, i, ⟨h1, h2⟩, rfl⟩
    have h3 := List.mem_zipIdx' h1
    refine ⟨by omega, by omega, ?_⟩
    rw [Int.toNat_natCast, List.getD_eq_getElem?_getD, List.getElem?_eq_getElem h3.1, ← h3.2]
    exact h2
  · rintro ⟨h0, h1, h2⟩
    obtain ⟨i, rfl⟩ := Int.eq_ofNat_of_zero_le h0
    rw [Int.toNat_natCast] at h2
    have hi : i < O.length := by omega
    rw [List.getD_eq_getElem?_getD, List.getElem?_eq_getElem hi] at h2
    exact ⟨O[i], i, ⟨List.mem_zipIdx_iff_getElem?.2 (List.getElem?_eq_getElem hi), h2⟩, rfl⟩
theorem chL_mem {O : List (List Int)} {D : List Int} {x k : Int} : k ∈ chL O D x ↔ (0 ≤ k ∧ k < O.length ∧ (O.getD k.toNat []).contains x = true) ∧ opI O D k = true := by
  unfold chL
  rw [List.mem_filter, optW_mem]
structure ChOk (O : List (List Int)) (n : Nat) (ch : List Int) : Prop where
  idx : ∀ k ∈ ch, 0 ≤ k ∧ k < O.length
  nd : (itemsOf O ch).Nodup
  rng : ∀ x ∈ itemsOf O ch, 0 ≤ x ∧ x < n
  len : ch.length ≤ (itemsOf O ch).length
theorem ChOk.nil (O : List (List Int)) (n : Nat) : ChOk O n [] := ⟨by simp, by simp [itemsOf], by simp [itemsOf], by simp⟩
theorem nodup_bound : ∀ (n : Nat) (l : List Int), l.Nodup → (∀ x ∈ l, 0 ≤ x ∧ x < (n : Int)) → l.length ≤ n
  | 0, l, _, h => by
    cases l with
    | nil => simp
    | cons x l => have := h x (by simp); omega
  | n + 1, l, hd, h => by
    have h1 := nodup_bound n (l.erase (n : Int)) (hd.erase _) (fun x hx => by
      rw [hd.mem_erase_iff] at hx
      have := h x hx.2
      have := hx.1
      omega)
    rw [List.length_erase] at h1
    split at h1 <;> omega
theorem ChOk.short {O : List (List Int)} {n : Nat} {ch : List Int} (h : ChOk O n ch) : ch.length ≤ n := Nat.le_trans h.len (nodup_bound n _ h.nd h.rng)
theorem ChOk.snoc {O : List (List Int)} {n : Nat} {ch : List Int} (hO : coverOk n O = true) (h : ChOk O n ch) {x k : Int} (hk : k ∈ chL O (itemsOf O ch) x) : ChOk O n (ch ++ [k]) := by
  obtain ⟨⟨h0, h1, h2⟩, h3⟩ := chL_mem.1 hk
  simp only [coverOk, Bool.and_eq_true, decide_eq_true_eq, List.all_eq_true] at hO
  have hm : O.getD k.toNat [] ∈ O := by
    rw [List.getD_eq_getElem?_getD, List.getElem?_eq_getElem (show k.toNat < O.length by omega)]
    exact List.getElem_mem _
  have ho := hO.2 _ hm
  refine ⟨fun j hj => ?_, ?_, fun y hy => ?_, ?_⟩
  · rcases List.mem_append.1 hj with hj | hj
    · exact h.idx j hj
    · rw [List.mem_singleton.1 hj]; exact ⟨h0, h1⟩
  · rw [itemsOf_snoc, List.nodup_append]
    refine ⟨h.nd, asc_nodupA ho.2, fun a ha b hb => ?_⟩
    rintro rfl
    unfold opI at h3
    rw [Bool.not_eq_true', ← Bool.not_eq_true, List.any_eq_true] at h3
    exact h3 ⟨a, hb, List.contains_iff_mem.2 ha⟩
  · rw [itemsOf_snoc] at hy
    rcases List.mem_append.1 hy with hy | hy
    · exact h.rng y hy
    · have := asc_mem ho.2 y hy
      omega
  · rw [itemsOf_snoc, List.length_append, List.length_append, List.length_singleton]
    have : 1 ≤ (O.getD k.toNat []).length := by
      have := ho.1
      cases hh : O.getD k.toNat [] with
      | nil => rw [hh] at this; simp at this
      | cons a b => simp
    have := h.len
    omega
end Go.Proofs.Ytnlfokkljgbaaaa
