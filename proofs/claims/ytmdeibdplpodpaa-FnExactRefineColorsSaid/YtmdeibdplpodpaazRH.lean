/- Neighbors of a vertex: both lists of them. -/
import Derived.Test.YtmdeibdplpodpaazRD
set_option linter.unusedSimpArgs false
set_option linter.unusedVariables false
set_option maxHeartbeats 4000000
set_option maxRecDepth 100000
namespace Go.Proofs.Ytmdeibdplpodpaa
open Go.Av
def nearL (n : Nat) (es : List (Int × Int)) (v : Nat) : List Int := ((List.range n).filter (adjF es v)).map fun (b : Nat) => (b : Int)
theorem nearL_inc (n : Nat) (es : List (Int × Int)) (v : Nat) : (nearL n es v).Pairwise (· < ·) := by
  unfold nearL
  rw [List.pairwise_map]
  exact (List.Pairwise.filter _ (List.pairwise_lt_range (n := n))).imp fun h => by omega
theorem nbr_mem {es : List (Int × Int)} {v : Nat} {x : Int} : x ∈ nbr es v ↔ ∃ e ∈ es, (e.1 = (v : Int) ∧ e.2 = x) ∨ (e.2 = (v : Int) ∧ e.1 = x) := by
  unfold nbr
  rw [List.mem_flatMap]
  refine exists_congr fun e => and_congr_right fun _ => ?_
  rw [List.mem_append]
  by_cases h1 : e.1 = (v : Int) <;> by_cases h2 : e.2 = (v : Int) <;> simp [h1, h2] <;> omega
theorem nearL_mem {n : Nat} {es : List (Int × Int)} (hv : ∀ e ∈ es, 0 ≤ e.1 ∧ e.1 < e.2 ∧ e.2 < (n : Int)) {v : Nat} {x : Int} : x ∈ nearL n es v ↔ x ∈ nbr es v := by
  rw [nbr_mem]
  unfold nearL adjF
  rw [List.mem_map]
  constructor
  · rintro ⟨b, hb, rfl⟩
    obtain ⟨_, h⟩ := List.mem_filter.1 hb
    obtain ⟨e, he, h⟩ := List.any_eq_true.1 h
    simp only [Bool.or_eq_true, Bool.and_eq_true, decide_eq_true_eq] at h
    exact ⟨e, he, h.elim .inl fun ⟨a, b⟩ => .inr ⟨b, a⟩⟩
  · rintro ⟨e, he, h⟩
    obtain ⟨q1, q2, q3⟩ := hv e he
    have hx : 0 ≤ x ∧ x < (n : Int) := by omega
    refine ⟨x.toNat, List.mem_filter.2 ⟨List.mem_range.2 (by omega), List.any_eq_true.2 ⟨e, he, ?_⟩⟩, by omega⟩
    simp only [Bool.or_eq_true, Bool.and_eq_true, decide_eq_true_eq]
    omega
theorem nbr_nodup {n : Nat} {es : List (Int × Int)} (hv : ∀ e ∈ es, 0 ≤ e.1 ∧ e.1 < e.2 ∧ e.2 < (n : Int)) (hs : es.Pairwise fun a b => cmpE a b < 0) (v : Nat) : (nbr es v).Nodup := by
  unfold nbr List.Nodup
  rw [List.pairwise_flatMap]
  constructor
  · intro e he
    obtain ⟨q1, q2, q3⟩ := hv e he
    by_cases h1 : e.1 = (v : Int)
    · rw [if_pos h1, if_neg (by omega)]; simp
    · rw [if_neg h1]; split <;> simp
  · refine (List.Pairwise.and_mem.1 hs).imp ?_
    rintro e f ⟨he, hf, hef⟩ x hx y hy rfl
    obtain ⟨q1, q2, q3⟩ := hv e he
    obtain ⟨r1, r2, r3⟩ := hv f hf
    have k1 : (e.1 = (v : Int) ∧ e.2 = x) ∨ (e.2 = (v : Int) ∧ e.1 = x) := by
      rcases List.mem_append.1 hx with h | h <;> split at h <;> simp at h <;> omega
    have k2 : (f.1 = (v : Int) ∧ f.2 = x) ∨ (f.2 = (v : Int) ∧ f.1 = x) := by
      rcases List.mem_append.1 hy with h | h <;> split at h <;> simp at h <;> omega
    have e1 : e.1 = f.1 := by omega
    have e2 : e.2 = f.2 := by omega
    unfold cmpE cmpI at hef
    rw [e1, e2] at hef
    simp at hef
theorem nearL_is {n : Nat} {es : List (Int × Int)} (hv : ∀ e ∈ es, 0 ≤ e.1 ∧ e.1 < e.2 ∧ e.2 < (n : Int)) (hs : es.Pairwise fun a b => cmpE a b < 0) (v : Nat) : isort (nbr es v) = nearL n es v := by
  have hp : (nbr es v).Perm (nearL n es v) := (List.perm_ext_iff_of_nodup (nbr_nodup hv hs v) ((nearL_inc n es v).imp fun h => by omega)).2 fun x => (nearL_mem hv).symm
  have hq : (isort (nbr es v)).Perm (nearL n es v) := (List.mergeSort_perm _ _).trans hp
  have ho : (isort (nbr es v)).Pairwise (· ≤ ·) := by
    have := List.pairwise_mergeSort (le := fun x y : Int => decide (x ≤ y)) (fun a b c h1 h2 => by simp at *; omega) (fun a b => by simp; omega) (nbr es v)
    exact this.imp fun h => by simpa using h
  have hn : (nearL n es v).Pairwise (· ≤ ·) := (nearL_inc n es v).imp fun h => by omega
  exact List.Perm.eq_of_pairwise (fun a b _ _ h1 h2 => by omega) ho hn hq
end Go.Proofs.Ytmdeibdplpodpaa
