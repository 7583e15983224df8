/- Frozen rows gathered in memory of the call's own. -/
import Derived.Test.YtnlfokkljgbaaaazOW
set_option linter.unusedSimpArgs false
set_option linter.unusedVariables false
set_option maxHeartbeats 4000000
set_option maxRecDepth 100000
namespace Go.Proofs.Ytnlfokkljgbaaaa
open Go.Av
def GrowF (H : List Blk) (base : Nat) (v : AV) (xss : List (List Int)) : Prop :=
  (v = nilS ∧ xss = []) ∨ ∃ t ver, v = .nm t ver 0 xss.length ∧ base ≤ t ∧ H[t]? = some ⟨ver, tyLL, 1, xss.map ilS⟩
theorem GrowF.one {H : List Blk} {base : Nat} {v : AV} {xss : List (List Int)} (h : GrowF H base v xss) : v.cell1 = true ∧ partsOf v = [v] := by
  rcases h with ⟨rfl, rfl⟩ | ⟨t, ver, rfl, h⟩ <;> exact ⟨rfl, rfl⟩
theorem GrowF.same {H H' : List Blk} {base : Nat} {v : AV} {xss : List (List Int)} (h : GrowF H base v xss) (hs : ∀ j b, base ≤ j → H[j]? = some b → H'[j]? = some b) : GrowF H' base v xss := by
  rcases h with h | ⟨t, ver, rfl, h1, h2⟩
  · exact .inl h
  · exact .inr ⟨t, ver, rfl, h1, hs t _ h1 h2⟩
theorem GrowF.froz {H : List Blk} {base : Nat} {v : AV} {xss : List (List Int)} (h : GrowF H base v xss) {b : Nat} (hb : b ≤ base) : Froz H b v (ilSS xss) := by
  rcases h with ⟨rfl, rfl⟩ | ⟨t, ver, rfl, h1, h2⟩
  · exact .nil
  · exact froz_rowS (by omega) h2
theorem GrowF.app {H : List Blk} {base : Nat} {v : AV} {xss : List (List Int)} {y : List Int} (h : GrowF H base v xss) (hb : base ≤ H.length) (hl : (xss.length + 1) * 24 ≤ 140737488355328)
    {K : AV → List Blk → Prop} (hk : ∀ v' H', GrowF H' base v' (xss ++ [y]) → H.length ≤ H'.length → (∀ j, j < base → H'[j]? = H[j]?) → K v' H') :
    AppX tyLL 1 24 H v K (some (1, [ilS y])) := by
  rcases h with ⟨rfl, rfl⟩ | ⟨t, ver, rfl, h1, h2⟩
  · simp only [AppX, nilS]
    refine ⟨rfl, by simp; rfl, by omega, by omega, hk _ _ (.inr ⟨H.length, 1, by simp, hb, by simp⟩) (by simp) (fun j hj => by rw [List.getElem?_append_left (by omega)])⟩
  · simp only [AppX, h2]
    have htl : (xss.map ilS).take (xss.length * 1) = xss.map ilS := List.take_of_length_le (by simp)
    have hlt := (List.getElem?_eq_some_iff.1 h2).1
    refine ⟨rfl, by simp; rfl, trivial, trivial, trivial, by simp, by omega, by omega, ?_⟩
    rw [htl]
    refine hk _ _ (.inr ⟨t, ver + 1, by simp, h1, ?_⟩) (by simp) (fun j hj => by rw [List.getElem?_set_ne (by omega)])
    rw [List.getElem?_set_self hlt]; simp
end Go.Proofs.Ytnlfokkljgbaaaa
