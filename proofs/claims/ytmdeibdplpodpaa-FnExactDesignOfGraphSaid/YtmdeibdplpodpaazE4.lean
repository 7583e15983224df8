/- Graphs of designs: the reference. -/
import Derived.Test.YtmdeibdplpodpaazE3
import Derived.Test.YtmdeibdplpodpaazK18
set_option linter.unusedSimpArgs false
set_option linter.unusedVariables false
set_option maxHeartbeats 4000000
set_option maxRecDepth 100000
namespace Go.Proofs.Ytmdeibdplpodpaa
open Go.Av
def GrowF (H : List Blk) (base ty sz : Nat) (v : AV) (n : Nat) (cells : List AV) : Prop :=
  (v = nilS ∧ n = 0 ∧ cells = []) ∨ ∃ t ver, v = .nm t ver 0 n ∧ base ≤ t ∧ H[t]? = some ⟨ver, ty, sz, cells⟩ ∧ cells.length = n * sz
theorem GrowF.one {H : List Blk} {base ty sz n : Nat} {v : AV} {cells : List AV} (h : GrowF H base ty sz v n cells) : v.cell1 = true ∧ partsOf v = [v] := by
  rcases h with ⟨rfl, _⟩ | ⟨t, ver, rfl, _⟩ <;> exact ⟨rfl, rfl⟩
theorem GrowF.same {H H' : List Blk} {base ty sz n : Nat} {v : AV} {cells : List AV} (h : GrowF H base ty sz v n cells) (hs : ∀ j b, base ≤ j → H[j]? = some b → H'[j]? = some b) : GrowF H' base ty sz v n cells := by
  rcases h with h | ⟨t, ver, rfl, h1, h2, h3⟩
  · exact .inl h
  · exact .inr ⟨t, ver, rfl, h1, hs t _ h1 h2, h3⟩
theorem froz_edges {H : List Blk} {base r ver ty : Nat} {es : List (Int × Int)} (hb : base ≤ r) (hr : H[r]? = some ⟨ver, ty, 2, flatE es⟩) : Froz H base (.nm r ver 0 es.length) (ilE es) := by
  have hc : ((flatE es).drop 0).take (es.length * 2) = flatE es := by rw [List.drop_zero]; exact List.take_of_length_le (by rw [flatE_length]; omega)
  refine .nm r ver 0 es.length _ _ hb hr rfl (by simp only [hc]) ?_
  intro j c c' h1 h2
  simp only [hc] at h1
  rw [h1] at h2; cases h2
  have hm := List.mem_of_getElem? h1
  rw [flatE_lit] at hm
  obtain ⟨v, _, rfl⟩ := List.mem_map.1 hm
  exact .old _ (.lit v)
def GBx (H : List Blk) (c0 c1 : List AV) (H' : List Blk) : Prop := H'[H.length]? = some ⟨0, tyGr, 1, c0⟩ ∧ H'[H.length + 1]? = some ⟨0, tyGr, 1, c1⟩ ∧ H.length + 2 ≤ H'.length ∧ ∀ j, j < H.length → H'[j]? = H[j]?
theorem GBx.put {H H1 H3 : List Blk} {c0 c1 c2 : List AV} {base : Nat} (h : GBx H c0 c1 H1) (hb : H.length + 2 ≤ base) (hl : H1.length ≤ H3.length) (h3 : ∀ j, j < base → H3[j]? = H1[j]?) : GBx H c0 c2 (H3.set (H.length + 1) ⟨0, tyGr, 1, c2⟩) := by
  obtain ⟨a, b, c, d⟩ := h
  refine ⟨?_, List.getElem?_set_self (by omega), by simp; omega, fun j hj => ?_⟩
  · rw [List.getElem?_set_ne (by omega), h3 _ (by omega)]; exact a
  · rw [List.getElem?_set_ne (by omega), h3 _ (by omega)]; exact d j hj
end Go.Proofs.Ytmdeibdplpodpaa
