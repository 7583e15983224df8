/- Options with an item. -/
import Derived.Test.YtdgcgckehihboaaDoorM1
import Derived.Test.YtdgcgckehihboaaDoorK7
set_option linter.unusedSimpArgs false
set_option linter.unusedVariables false
set_option maxHeartbeats 4000000
set_option maxRecDepth 100000
namespace Go.Proofs.YtdgcgckehihboaaDoor
open Go.Av

/-- The numbers of the options that hold an item. -/
def optW (item : Int) (xss : List (List Int)) : List Int := (xss.zipIdx.filter fun p => p.1.contains item).map fun p => (p.2 : Int)
theorem optW_snoc (item : Int) (pre : List (List Int)) (x : List Int) : optW item (pre ++ [x]) = optW item pre ++ (if x.contains item then [(pre.length : Int)] else []) := by
  unfold optW
  rw [List.zipIdx_append, List.filter_append, List.map_append]
  have e : List.zipIdx [x] (0 + pre.length) = [(x, pre.length)] := by simp
  rw [e]
  cases h : x.contains item
  · rw [List.filter_cons_of_neg (by rw [h]; simp)]; simp
  · rw [List.filter_cons_of_pos (by simpa using h)]; simp
theorem optW_len (item : Int) (xss : List (List Int)) : (optW item xss).length ≤ xss.length := by
  unfold optW
  rw [List.length_map]
  refine Nat.le_trans (List.length_filter_le _ _) ?_
  simp
def optV (n : Int) (xss : List (List Int)) (item : Int) : List Int × Int := if !coverOk n xss then ([], 1) else if !(decide (0 ≤ item) && decide (item ≤ n - 1)) then ([], 2) else (optW item xss, 0)

theorem get_appB2 {H : List Blk} {p : Nat} {b : Blk} (h : H[p]? = some b) (ext : List Blk) : (H ++ ext)[p]? = some b := by
  rw [List.getElem?_append_left (List.getElem?_eq_some_iff.1 h).1]; exact h
theorem OwnSS.one {H : List Blk} {N : Nat → Prop} {v : AV} {xss : List (List Int)} (h : OwnSS H N v xss) : v.cell1 = true ∧ partsOf v = [v] := by
  rcases h with ⟨t, ver, ty, cells, rfl, h⟩ | ⟨rfl, rfl | rfl⟩ <;> exact ⟨rfl, rfl⟩
theorem optV_len (n : Int) (xss : List (List Int)) (item : Int) (h : xss.length ≤ 1073741824) : (optV n xss item).1.length ≤ 1073741824 := by
  unfold optV
  split
  · simp
  · split
    · simp
    · exact Nat.le_trans (optW_len item xss) h

end Go.Proofs.YtdgcgckehihboaaDoor
