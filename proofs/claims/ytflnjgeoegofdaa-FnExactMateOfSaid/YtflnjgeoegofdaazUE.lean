/- Transversals: the model of their search. -/
import Derived.Test.YtflnjgeoegofdaazQ1
import Derived.Test.YtflnjgeoegofdaazK29
set_option linter.unusedSimpArgs false
set_option linter.unusedVariables false
set_option maxHeartbeats 4000000
set_option maxRecDepth 100000
namespace Go.Proofs.Ytflnjgeoegofdaa
open Go.Av
theorem fold_to {α : Type} (f : α → Nat → α) (st : α) (y : Nat) : ∀ d, (∀ z, f ((List.range y).foldl f st) z = (List.range y).foldl f st) → (List.range (y + d)).foldl f st = (List.range y).foldl f st
  | 0, _ => rfl
  | d + 1, h => by
    rw [← Nat.add_assoc, List.range_succ, List.foldl_append, fold_to f st y d h]
    exact h _
theorem fold_succ {α : Type} (f : α → Nat → α) (st : α) (y : Nat) : (List.range (y + 1)).foldl f st = f ((List.range y).foldl f st) y := by
  rw [List.range_succ, List.foldl_append]; rfl
theorem latB_facts {a : List (List Int)} (h : latB a = true) : (1 ≤ a.length ∧ a.length ≤ 10) ∧ (∀ r ∈ a, r.length = a.length) ∧ ∀ x y, x < a.length → y < a.length → ∃ s : Nat, cellAt a x y = s ∧ s < a.length := by
  unfold latB at h
  simp only [Bool.and_eq_true, decide_eq_true_eq, List.all_eq_true] at h
  obtain ⟨⟨h1, h2⟩, -⟩ := h
  refine ⟨h1, fun r hr => (h2 r hr).1, fun x y hx hy => ?_⟩
  have hm : a.getD x [] ∈ a := by rw [getD_get hx]; exact List.getElem_mem _
  obtain ⟨h3, h4⟩ := h2 _ hm
  unfold permB at h4
  simp only [Bool.and_eq_true, decide_eq_true_eq] at h4
  have hz : cellAt a x y ∈ a.getD x [] := by
    unfold cellAt
    rw [getD_get (show y < (a.getD x []).length by omega)]
    exact List.getElem_mem _
  have := h4.2.1 _ hz
  rw [h3] at this
  obtain ⟨s, hs⟩ := Int.eq_ofNat_of_zero_le this.1
  exact ⟨s, hs, by omega⟩
end Go.Proofs.Ytflnjgeoegofdaa
