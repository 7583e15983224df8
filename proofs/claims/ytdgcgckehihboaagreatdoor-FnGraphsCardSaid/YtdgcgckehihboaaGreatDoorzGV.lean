/- Squares in memory, their rows in any blocks. -/
import Derived.Test.YtdgcgckehihboaaGreatDoorzQZ
import Derived.Test.YtdgcgckehihboaaGreatDoorzL1
set_option linter.unusedSimpArgs false
set_option linter.unusedVariables false
set_option linter.unusedSectionVars false
set_option maxHeartbeats 4000000
set_option maxRecDepth 100000
namespace Go.Proofs.YtdgcgckehihboaaGreatDoor
variable [Go.Av.DoorC]
open Go.Av
structure GrV {α : Type} (f : α → AV) (tyO tyR : Nat) (H : List Blk) (t ver rv n : Nat) (rs : List Nat) (xss : List (List α)) : Prop where
  top : H[t]? = some ⟨ver, tyO, 1, rs.map fun r => AV.nm r rv 0 n⟩
  len : rs.length = n ∧ xss.length = n ∧ ∀ r ∈ xss, r.length = n
  rows : ∀ (i r : Nat), rs[i]? = some r → H[r]? = some ⟨rv, tyR, 1, (xss.getD i []).map f⟩
section
variable {α : Type} {f : α → AV} {tyO tyR : Nat} {H H' : List Blk} {t ver rv n : Nat} {rs : List Nat} {xss : List (List α)}
theorem GrV.same (h : GrV f tyO tyR H t ver rv n rs xss) (hs : ∀ j b, (j = t ∨ j ∈ rs) → H[j]? = some b → H'[j]? = some b) : GrV f tyO tyR H' t ver rv n rs xss :=
  ⟨hs t _ (.inl rfl) h.top, h.len, fun i r hr => hs r _ (.inr (List.mem_of_getElem? hr)) (h.rows i r hr)⟩
theorem GrV.other (h : GrV f tyO tyR H t ver rv n rs xss) {j : Nat} {b : Blk} (hj : j ≠ t ∧ j ∉ rs) : GrV f tyO tyR (H.set j b) t ver rv n rs xss :=
  h.same fun i c hi hc => by
    rw [List.getElem?_set_ne]
    · exact hc
    · rintro rfl
      rcases hi with h | h
      · exact hj.1 h
      · exact hj.2 h
theorem GrV.rowlen (h : GrV f tyO tyR H t ver rv n rs xss) {k : Nat} (hk : k < n) : (xss.getD k []).length = n := h.len.2.2 _ (by rw [getD_get (by rw [h.len.2.1]; exact hk)]; exact List.getElem_mem _)
theorem GrV.get (h : GrV f tyO tyR H t ver rv n rs xss) {k : Nat} (hk : k < n) : ∃ r, rs[k]? = some r := ⟨_, List.getElem?_eq_getElem (by rw [h.len.1]; exact hk)⟩
theorem GrV.view (h : GrV f tyO tyR H t ver rv n rs xss) : aview H (.nm t ver 0 n) = some (n, rs.map fun r => AV.nm r rv 0 n) := view_nm h.top (by rw [List.length_map, h.len.1])
theorem GrV.cell {k r : Nat} (hr : rs[k]? = some r) : (rs.map fun r => AV.nm r rv 0 n)[k]? = some (.nm r rv 0 n) := by rw [List.getElem?_map, hr]; rfl
theorem GrV.row (h : GrV f tyO tyR H t ver rv n rs xss) {k r : Nat} (hk : k < n) (hr : rs[k]? = some r) : aview H (.nm r rv 0 n) = some (n, (xss.getD k []).map f) := view_nm (h.rows k r hr) (by rw [List.length_map, h.rowlen hk])
theorem GrV.store (h : GrV f tyO tyR H t ver rv n rs xss) {k r y : Nat} (hk : k < n) (hy : y < n) (hr : rs[k]? = some r) (c : α) : astore H [f c] (.el (.nm r rv 0 n) y) = some (H.set r ⟨rv, tyR, 1, ((xss.getD k []).set y c).map f⟩) := by
  rw [store_nm (h.rows k r hr) (by rw [List.length_map, h.rowlen hk]; exact hy), List.map_set]
theorem GrV.set (h : GrV f tyO tyR H t ver rv n rs xss) (hnd : rs.Nodup) (ht : t ∉ rs) {k r y : Nat} (hk : k < n) (hr : rs[k]? = some r) (c : α) :
    GrV f tyO tyR (H.set r ⟨rv, tyR, 1, ((xss.getD k []).set y c).map f⟩) t ver rv n rs (xss.set k ((xss.getD k []).set y c)) := by
  have hrm := List.mem_of_getElem? hr
  have hrl := (List.getElem?_eq_some_iff.1 (h.rows k r hr)).1
  refine ⟨?_, ⟨h.len.1, by rw [List.length_set, h.len.2.1], fun q hq => ?_⟩, fun i q hq => ?_⟩
  · rw [List.getElem?_set_ne (by rintro rfl; exact ht hrm)]; exact h.top
  · rcases List.mem_or_eq_of_mem_set hq with hq | rfl
    · exact h.len.2.2 q hq
    · rw [List.length_set, h.rowlen hk]
  · by_cases hi : i = k
    · subst hi
      rw [hr] at hq; cases hq
      rw [List.getElem?_set_self hrl]
      have : (xss.set i ((xss.getD i []).set y c)).getD i [] = (xss.getD i []).set y c := by simp [List.getD_eq_getElem?_getD, h.len.2.1, hk]
      rw [this]
    · have hne : r ≠ q := by
        rintro rfl
        have h1 := (List.getElem?_eq_some_iff.1 hr)
        have h2 := (List.getElem?_eq_some_iff.1 hq)
        obtain ⟨l1, e1⟩ := h1
        obtain ⟨l2, e2⟩ := h2
        exact hi ((List.getElem_inj hnd).1 (e2.trans e1.symm))
      rw [List.getElem?_set_ne hne, h.rows i q hq]
      have : (xss.set k ((xss.getD k []).set y c)).getD i [] = xss.getD i [] := by
        simp only [List.getD_eq_getElem?_getD]
        rw [List.getElem?_set_ne (Ne.symm hi)]
      rw [this]
end
def setB (g : List (List Bool)) (k y : Nat) (v : Bool) : List (List Bool) := g.set k ((g.getD k []).set y v)
def tabB (n : Nat) (f : Nat → Nat → Bool) : List (List Bool) := (List.range n).map fun k => (List.range n).map fun y => f k y
theorem tabB_len (n : Nat) (f : Nat → Nat → Bool) : (tabB n f).length = n ∧ ∀ r ∈ tabB n f, r.length = n := by
  refine ⟨by simp [tabB], fun r hr => ?_⟩
  obtain ⟨k, _, rfl⟩ := List.mem_map.1 hr
  simp
theorem tabB_row {n : Nat} (f : Nat → Nat → Bool) {k : Nat} (hk : k < n) : (tabB n f).getD k [] = (List.range n).map fun y => f k y := by
  rw [getD_get (by rw [(tabB_len n f).1]; exact hk)]
  simp [tabB]
theorem tabB_get {n : Nat} (f : Nat → Nat → Bool) {k y : Nat} (hk : k < n) (hy : y < n) : ((tabB n f).getD k [])[y]? = some (f k y) := by
  rw [tabB_row f hk, List.getElem?_map, List.getElem?_range hy]; rfl
theorem tabB_ext {n : Nat} {f g : Nat → Nat → Bool} (h : ∀ k y, k < n → y < n → f k y = g k y) : tabB n f = tabB n g := by
  unfold tabB
  refine List.map_congr_left fun k hk => List.map_congr_left fun y hy => h k y (List.mem_range.1 hk) (List.mem_range.1 hy)
theorem tabB_set {n : Nat} (f : Nat → Nat → Bool) {k y : Nat} (hk : k < n) (hy : y < n) (v : Bool) : setB (tabB n f) k y v = tabB n fun k' y' => if k' = k ∧ y' = y then v else f k' y' := by
  unfold setB
  rw [tabB_row f hk]
  refine List.ext_getElem? fun i => ?_
  rw [List.getElem?_set]
  by_cases hi : k = i
  · subst hi
    rw [if_pos rfl, if_pos (by rw [(tabB_len n f).1]; exact hk)]
    unfold tabB
    rw [List.getElem?_map, List.getElem?_range hk]
    simp only [Option.map_some, Option.some.injEq]
    refine List.ext_getElem? fun j => ?_
    rw [List.getElem?_set]
    by_cases hj : j < n
    · rw [List.getElem?_map, List.getElem?_map, List.getElem?_range hj]
      by_cases hyj : y = j
      · subst hyj; simp [hy]
      · rw [if_neg hyj]
        simp [Ne.symm hyj]
    · rw [List.getElem?_map, List.getElem?_map, List.getElem?_eq_none (by simp; omega)]
      by_cases hyj : y = j
      · omega
      · rw [if_neg hyj]; rfl
  · rw [if_neg hi]
    unfold tabB
    rw [List.getElem?_map, List.getElem?_map]
    by_cases hin : i < n
    · rw [List.getElem?_range hin]
      simp only [Option.map_some, Option.some.injEq]
      refine List.map_congr_left fun j _ => ?_
      rw [if_neg (by omega)]
    · rw [List.getElem?_eq_none (by simp; omega)]; rfl
end Go.Proofs.YtdgcgckehihboaaGreatDoor
