/- SquareCover: what both sides return. -/
import Derived.Test.YtdgcgckehihboaaDoorL3
set_option linter.unusedSimpArgs false
set_option linter.unusedVariables false
set_option maxHeartbeats 4000000
set_option maxRecDepth 100000
namespace Go.Proofs.YtdgcgckehihboaaDoor
open Go.Av

abbrev tySS : Nat := 22
/-- A row of impl. -/
def sqI1 (n c s : Int) : List Int := [c, w64 (w64 (w64 (n * n) + w64 (w64 (c.tdiv n) * n)) + s), w64 (w64 (w64 (w64 (2 * n) * n) + w64 (c.tmod n * n)) + s)]
def sqIc (n : Nat) (c : Nat) : List (List Int) := (List.range n).map fun (s : Nat) => sqI1 n c s
def sqI (n c : Nat) : List (List Int) := (List.range c).flatMap (sqIc n)
theorem sqI_len (n c : Nat) : (sqI n c).length = c * n := by
  unfold sqI
  induction c with
  | zero => simp
  | succ c ih => rw [List.range_succ, List.flatMap_append, List.length_append, ih]; simp [sqIc, Nat.succ_mul]
theorem sqI_succ (n c : Nat) : sqI n (c + 1) = sqI n c ++ sqIc n c := by
  unfold sqI; rw [List.range_succ, List.flatMap_append]; simp
theorem row_succ (f : Nat → List Int) (s : Nat) : (List.range (s + 1)).map f = (List.range s).map f ++ [f s] := by
  rw [List.range_succ, List.map_append]; rfl

theorem sq64 {n : Nat} (h : 1 ≤ n ∧ n ≤ 4) : w64 ((n : Int) * n) = ((n * n : Nat) : Int) := by
  rw [← Int.natCast_mul]
  apply w64_id (by omega)
  have : n * n ≤ 4 * 4 := Nat.mul_le_mul h.2 h.2
  omega

theorem prefix_of {H H' : List Blk} (hl : H.length ≤ H'.length) (h : ∀ j, j < H.length → H'[j]? = H[j]?) : ∃ ext, H' = H ++ ext := by
  refine ⟨H'.drop H.length, ?_⟩
  have : H'.take H.length = H := by
    apply List.ext_getElem?
    intro j
    by_cases hj : j < H.length
    · rw [List.getElem?_take_of_lt hj, h j hj]
    · rw [List.getElem?_eq_none (by simp; omega), List.getElem?_eq_none (by omega)]
  rw [← this, List.length_take, Nat.min_eq_left (by omega), List.take_append_drop]

end Go.Proofs.YtdgcgckehihboaaDoor
