/- Squares in memory, their rows in any blocks. -/
import Derived.Test.YtmdeibdplpodpaazQZ
import Derived.Test.YtmdeibdplpodpaazL1
set_option linter.unusedSimpArgs false
set_option linter.unusedVariables false
set_option maxHeartbeats 4000000
set_option maxRecDepth 100000
namespace Go.Proofs.Ytmdeibdplpodpaa
open Go.Av
structure GrV {α : Type} (f : α → AV) (tyO tyR : Nat) (H : List Blk) (t ver rv n : Nat) (rs : List Nat) (xss : List (List α)) : Prop where
  top : H[t]? = some ⟨ver, tyO, 1, rs.map fun r => AV.nm r rv 0 n⟩
  len : rs.length = n ∧ xss.length = n ∧ ∀ r ∈ xss, r.length = n
  rows : ∀ (i r : Nat), rs[i]? = some r → H[r]? = some ⟨rv, tyR, 1, (xss.getD i []).map f⟩
section
variable {α : Type} {f : α → AV} {tyO tyR : Nat} {H H' : List Blk} {t ver rv n : Nat} {rs : List Nat} {xss : List (List α)}
theorem GrV.same (h : GrV f tyO tyR H t ver rv n rs xss) (hs : ∀ j b, (j = t ∨ j ∈ rs) → H[j]? = some b → H'[j]? = some b) : GrV f tyO tyR H' t ver rv n rs xss :=
  ⟨hs t _ (.inl rfl) h.top, h.len, fun i r hr => hs r _ (.inr (List.mem_of_getElem? hr)) (h.rows i r hr)⟩
theorem GrV.other (h : GrV f tyO tyR H t ver rv n rs xss) {j : Nat} {b : Blk} (hj : j ≠ t ∧ j ∉ rs) : GrV f tyO tyR (H.set j b) t ver rv n rs xss :=
  h.same fun i c hi hc => by
    rw [List.getElem?_set_ne]
    · exact hc
    · rintro rfl
      rcases hi with h | h
      · exact hj.1 h
      · exact hj.2 h
theorem GrV.rowlen (h : GrV f tyO tyR H t ver rv n rs xss) {k : Nat} (hk : k < n) : (xss.getD k []).length = n := h.len.2.2 _ (by rw [getD_get (by rw [h.len.2.1]; exact hk)]; exact List.getElem_mem _)
theorem GrV.get (h : GrV f tyO tyR H t ver rv n rs xss) {k : Nat} (hk : k < n) : ∃ r, rs[k]? = some r := ⟨_, List.getElem?_eq_getElem (by rw [h.len.1]; exact hk)⟩
theorem GrV.cell {k r : Nat} (hr : rs[k]? = some r) : (rs.map fun r => AV.nm r rv 0 n)[k]? = some (.nm r rv 0 n) := by rw [List.getElem?_map, hr]; rfl
theorem GrV.row (h : GrV f tyO tyR H t ver rv n rs xss) {k r : Nat} (hk : k < n) (hr : rs[k]? = some r) : aview H (.nm r rv 0 n) = some (n, (xss.getD k []).map f) := view_nm (h.rows k r hr) (by rw [List.length_map, h.rowlen hk])
theorem GrV.store (h : GrV f tyO tyR H t ver rv n rs xss) {k r y : Nat} (hk : k < n) (hy : y < n) (hr : rs[k]? = some r) (c : α) : astore H [f c] (.el (.nm r rv 0 n) y) = some (H.set r ⟨rv, tyR, 1, ((xss.getD k []).set y c).map f⟩) := by
  rw [store_nm (h.rows k r hr) (by rw [List.length_map, h.rowlen hk]; exact hy), List.map_set]
theorem GrV.set (h : GrV f tyO tyR H t ver rv n rs xss) (hnd : rs.Nodup) (ht : t ∉ rs) {k r y : Nat} (hk : k < n) (hr : rs[k]? = some r) (c : α) :
    GrV f tyO tyR (H.set r ⟨rv, tyR, 1, ((xss.getD k []).set y c).map f⟩) t ver rv n rs (xss.set k ((xss.getD k []).set y c)) := by
  have hrm := List.mem_of_getElem? hr
  have hrl := (List.getElem?_eq_some_iff.1 (h.rows k r hr)).1
  refine ⟨?_, ⟨h.len.1, by rw [List.length_set, h.len.2.1], fun q hq => ?_⟩, fun i q hq => ?_⟩
  · rw [List.getElem?_set_ne (by rintro rfl; exact ht hrm)]; exact h.top
  · rcases List.mem_or_eq_of_mem_set hq with hq | rfl
    · exact h.len.2.2 q hq
    · rw [List.length_set, h.rowlen hk]
  · by_cases hi : i = k
    · subst hi
      rw [hr] at hq; cases hq
      rw [List.getElem?_set_self hrl]
      have : (xss.set i ((xss.getD i []).set y c)).getD i [] = (xss.getD i []).set y c := by simp [List.getD_eq_getElem?_getD, h.len.2.1, hk]
      rw [this]
    · have hne : r ≠ q := by
        rintro rfl
        have h1 := (List.getElem?_eq_some_iff.1 hr)
        have h2 := (List.getElem?_eq_some_iff.1 hq)
        obtain ⟨l1, e1⟩ := h1
        obtain ⟨l2, e2⟩ := h2
        exact hi ((List.getElem_inj hnd).1 (e2.trans e1.symm))
      rw [List.getElem?_set_ne hne, h.rows i q hq]
      have : (xss.set k ((xss.getD k []).set y c)).getD i [] = xss.getD i [] := by
        simp only [List.getD_eq_getElem?_getD]
        rw [List.getElem?_set_ne (Ne.symm hi)]
      rw [this]
end
def setB (g : List (List Bool)) (k y : Nat) (v : Bool) : List (List Bool) := g.set k ((g.getD k []).set y v)
end Go.Proofs.Ytmdeibdplpodpaa
