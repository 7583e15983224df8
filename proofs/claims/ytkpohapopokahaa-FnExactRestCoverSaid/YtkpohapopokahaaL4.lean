/- SquareCover: what both sides return. -/
import Derived.Test.YtkpohapopokahaaL3
set_option linter.unusedSimpArgs false
set_option linter.unusedVariables false
set_option maxHeartbeats 4000000
set_option maxRecDepth 100000
namespace Go.Proofs.Ytkpohapopokahaa
open Go.Av

abbrev tyCover : Nat := 29
abbrev tySS : Nat := 26
/-- A row of impl. -/
def sqI1 (n c s : Int) : List Int := [c, w64 (w64 (w64 (n * n) + w64 (w64 (c.tdiv n) * n)) + s), w64 (w64 (w64 (w64 (2 * n) * n) + w64 (c.tmod n * n)) + s)]
def sqIc (n : Nat) (c : Nat) : List (List Int) := (List.range n).map fun (s : Nat) => sqI1 n c s
def sqI (n c : Nat) : List (List Int) := (List.range c).flatMap (sqIc n)
/-- The box holds a list that grows; the rest of the memory. -/
def Bx (Hb : List Blk) (p : Nat) (hd : AV) (xss : List (List Int)) (H' : List Blk) : Prop :=
  ∃ v, H'[p]? = some ⟨0, tyCover, 1, [hd, v]⟩ ∧ GrowSS H' (p + 1) tySS v xss ∧ p + 1 ≤ H'.length ∧ ∀ j, j < p → H'[j]? = Hb[j]?

theorem sqI_len (n c : Nat) : (sqI n c).length = c * n := by
  unfold sqI
  induction c with
  | zero => simp
  | succ c ih => rw [List.range_succ, List.flatMap_append, List.length_append, ih]; simp [sqIc, Nat.succ_mul]
theorem sqI_succ (n c : Nat) : sqI n (c + 1) = sqI n c ++ sqIc n c := by
  unfold sqI; rw [List.range_succ, List.flatMap_append]; simp
theorem row_succ (f : Nat → List Int) (s : Nat) : (List.range (s + 1)).map f = (List.range s).map f ++ [f s] := by
  rw [List.range_succ, List.map_append]; rfl

theorem sq64 {n : Nat} (h : 1 ≤ n ∧ n ≤ 4) : w64 ((n : Int) * n) = ((n * n : Nat) : Int) := by
  rw [← Int.natCast_mul]
  apply w64_id (by omega)
  have : n * n ≤ 4 * 4 := Nat.mul_le_mul h.2 h.2
  omega

theorem prefix_of {H H' : List Blk} (hl : H.length ≤ H'.length) (h : ∀ j, j < H.length → H'[j]? = H[j]?) : ∃ ext, H' = H ++ ext := by
  refine ⟨H'.drop H.length, ?_⟩
  have : H'.take H.length = H := by
    apply List.ext_getElem?
    intro j
    by_cases hj : j < H.length
    · rw [List.getElem?_take_of_lt hj, h j hj]
    · rw [List.getElem?_eq_none (by simp; omega), List.getElem?_eq_none (by omega)]
  rw [← this, List.length_take, Nat.min_eq_left (by omega), List.take_append_drop]

theorem Bx.put {Hb H3 : List Blk} {p : Nat} {hd v2 v3 : AV} {xss : List (List Int)} (d1 : GrowSS H3 (p + 1) tySS v3 xss) (d2 : p + 1 ≤ H3.length) (d3 : ∀ j, j < p → H3[j]? = Hb[j]?) : Bx Hb p hd xss (H3.set p ⟨0, tyCover, 1, setMany [hd, v2] 1 [v3]⟩) := by
  refine ⟨v3, List.getElem?_set_self (by omega), d1.same (fun j b h1 h2 => ?_), by simpa using d2, fun j hj => ?_⟩
  · rw [List.getElem?_set_ne (by omega)]; exact h2
  · rw [List.getElem?_set_ne (by omega)]; exact d3 j hj

end Go.Proofs.Ytkpohapopokahaa
