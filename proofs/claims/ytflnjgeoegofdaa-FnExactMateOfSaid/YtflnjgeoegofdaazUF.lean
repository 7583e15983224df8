/- Transversals: the memory of a search. -/
import Derived.Test.YtflnjgeoegofdaazUE
import Derived.Test.YtflnjgeoegofdaazG1
import Derived.Test.YtflnjgeoegofdaazU1
import Derived.Test.YtflnjgeoegofdaazOW
set_option linter.unusedSimpArgs false
set_option linter.unusedVariables false
set_option maxHeartbeats 4000000
set_option maxRecDepth 100000
namespace Go.Proofs.Ytflnjgeoegofdaa
open Go.Av
def ColG (H : List Blk) (base : Nat) (v : AV) (cols : List Int) (fv : AV) (found : List (List Int)) : Prop :=
  (v = nilS ∧ cols = [] ∧ fv = nilS ∧ found = []) ∨ ∃ t ver cells, v = .nm t ver 0 cols.length ∧ base ≤ t ∧ H[t]? = some ⟨ver, 2, 1, cells⟩ ∧ cols.length ≤ cells.length ∧ cells.take cols.length = cols.map I ∧ GrowSS H (t + 1) tyLL fv found
section
variable {H H' X : List Blk} {base b : Nat} {v fv : AV} {cols : List Int} {found : List (List Int)}
theorem ColG.same (h : ColG H base v cols fv found) (hs : ∀ j b, base ≤ j → H[j]? = some b → H'[j]? = some b) : ColG H' base v cols fv found := by
  rcases h with h | ⟨t, ver, cells, h1, h2, h3, h4, h5, h6⟩
  · exact .inl h
  · exact .inr ⟨t, ver, cells, h1, h2, hs t _ h2 h3, h4, h5, h6.same (fun j b hj => hs j b (by omega))⟩
theorem ColG.one (h : ColG H base v cols fv found) : (v.cell1 = true ∧ partsOf v = [v]) ∧ fv.cell1 = true ∧ partsOf fv = [fv] := by
  rcases h with ⟨rfl, -, rfl, -⟩ | ⟨t, ver, cells, rfl, h2, h3, h4, h5, h6⟩
  · exact ⟨⟨rfl, rfl⟩, rfl, rfl⟩
  · exact ⟨⟨rfl, rfl⟩, h6.cell1, h6.parts⟩
theorem ColG.view (h : ColG H base v cols fv found) : aview H v = some (cols.length, cols.map I) := by
  rcases h with ⟨rfl, rfl, -, -⟩ | ⟨t, ver, cells, rfl, h2, h3, h4, h5, h6⟩
  · rfl
  · simp only [aview, h3, if_true, List.drop_zero, Nat.mul_one]
    rw [h5]
theorem ColG.froz (h : ColG H base v cols fv found) (hb : b ≤ base) : Froz H b v (ilS cols) := by
  rcases h with ⟨rfl, rfl, -, -⟩ | ⟨t, ver, cells, rfl, h2, h3, h4, h5, h6⟩
  · exact .nil
  · have e : ilS cols = .il cols.length (cols.map I) := rfl
    rw [e]
    refine .nm t ver 0 cols.length _ (cols.map I) (by omega) h3 rfl (by simp [h5]) ?_
    simp only [List.drop_zero, Nat.mul_one, h5]
    intro j c c' g1 g2
    rw [g1] at g2; cases g2
    obtain ⟨x, _, rfl⟩ := List.mem_map.1 (List.mem_of_getElem? g1)
    exact .old _ (.lit _)
theorem ColG.push (h : ColG X base v cols fv found) (hb : base ≤ X.length) (hl : cols.length ≤ 1000) {y : Int} {K : AV → List Blk → Prop}
    (hk : ∀ v' H', ColG H' base v' (cols ++ [y]) fv found → X.length ≤ H'.length → (∀ j, j < base → H'[j]? = X[j]?) → K v' H') : AppX 2 1 8 X v K (some (1, [I y])) := by
  rcases h with ⟨rfl, rfl, rfl, rfl⟩ | ⟨t, ver, cells, rfl, h2, h3, h4, h5, h6⟩
  · simp only [AppX, nilS]
    refine ⟨rfl, by simp; rfl, by omega, by omega, hk _ _ (.inr ⟨X.length, 1, [I y], rfl, hb, by simp, by simp, by simp, .inl ⟨rfl, rfl⟩⟩) (by simp) (fun j hj => by rw [List.getElem?_append_left (by omega)])⟩
  · have ht := (List.getElem?_eq_some_iff.1 h3).1
    simp only [AppX, h3]
    refine ⟨rfl, by simp; rfl, trivial, trivial, trivial, by omega, by omega, by omega, hk _ _ (.inr ⟨t, ver + 1, cells.take cols.length ++ [I y], by simp, h2, by rw [Nat.mul_one]; exact List.getElem?_set_self ht, by simp; omega, ?_, ?_⟩) (by simp) (fun j hj => by rw [List.getElem?_set_ne (by omega)])⟩
    · rw [h5, List.take_of_length_le (by simp)]; simp
    · exact h6.same (fun j b hj hb => by rw [List.getElem?_set_ne (by omega)]; exact hb)
theorem ColG.add {r rv rty : Nat} (h : ColG H base v cols fv found) (hne : cols ≠ []) (hbH : base ≤ H.length) (hr : H.length ≤ r) (hl : (found.length + 1) * 24 ≤ 140737488355328) (hs : ∀ j b, base ≤ j → H[j]? = some b → X[j]? = some b)
    (hrow : X[r]? = some ⟨rv, rty, 1, cols.map I⟩) {K : AV → List Blk → Prop} (hk : ∀ fv' H', ColG H' base v cols fv' (found ++ [cols]) → X.length ≤ H'.length → (∀ j, j < base → H'[j]? = X[j]?) → K fv' H') : AppX tyLL 1 24 X fv K (some (1, [.nm r rv 0 cols.length])) := by
  rcases h with ⟨-, h, -⟩ | ⟨t, ver, cells, rfl, h2, h3, h4, h5, h6⟩
  · exact absurd h hne
  · have ht := (List.getElem?_eq_some_iff.1 h3).1
    refine h6.appG rfl (by omega) hr hl (fun j b hj => hs j b (by omega)) hrow ?_
    intro fv' H' g1 g2 g3
    exact hk fv' H' (.inr ⟨t, ver, cells, rfl, h2, by rw [g3 t (by omega)]; exact hs t _ h2 h3, h4, h5, g1⟩) g2 (fun j hj => g3 j (by omega))
end
end Go.Proofs.Ytflnjgeoegofdaa
