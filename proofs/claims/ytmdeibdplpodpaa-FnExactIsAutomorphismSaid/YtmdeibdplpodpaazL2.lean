/- Slices of slices of the call's own: marked, held. -/
import Derived.Test.YtmdeibdplpodpaaProg
import Derived.KernelRfl
import Derived.Test.YtmdeibdplpodpaazL1
import Derived.Test.YtmdeibdplpodpaazAvC
set_option linter.unusedSimpArgs false
set_option linter.unusedVariables false
set_option maxHeartbeats 4000000
set_option maxRecDepth 100000
namespace Go.Proofs.Ytmdeibdplpodpaa
open Go.Av
def OwnS (H : List Blk) (N : Nat → Prop) (t : Nat) (c : AV) (xs : List Int) : Prop :=
  (∃ r ver ty, c = .nm r ver 0 xs.length ∧ N r ∧ r ≠ t ∧ H[r]? = some ⟨ver, ty, 1, xs.map I⟩) ∨ (xs = [] ∧ (c = nilS ∨ c = .il 0 []))
def Fr (b : Nat) : Nat → Prop := fun r => b ≤ r
def Btw (b t : Nat) : Nat → Prop := fun r => b ≤ r ∧ r < t
def OwnC (H : List Blk) (N : Nat → Prop) (t ver ty : Nat) (cells : List AV) (xss : List (List Int)) : Prop :=
  N t ∧ H[t]? = some ⟨ver, ty, 1, cells⟩ ∧ cells.length = xss.length ∧ (∀ (j : Nat) (c : AV) (xs : List Int), cells[j]? = some c → xss[j]? = some xs → OwnS H N t c xs) ∧
  (∀ (i j r v o l v' o' l' : Nat), i ≠ j → cells[i]? = some (.nm r v o l) → cells[j]? ≠ some (.nm r v' o' l'))
def OwnSS (H : List Blk) (N : Nat → Prop) (a : AV) (xss : List (List Int)) : Prop := (∃ t ver ty cells, a = .nm t ver 0 xss.length ∧ OwnC H N t ver ty cells xss) ∨ (xss = [] ∧ (a = nilS ∨ a = .il 0 []))
theorem OwnC.append {H : List Blk} {N : Nat → Prop} {t ver ty : Nat} {cells : List AV} {xss : List (List Int)} (h : OwnC H N t ver ty cells xss) (ext : List Blk) : OwnC (H ++ ext) N t ver ty cells xss := by
  obtain ⟨h1, h2, h3, h4, h5⟩ := h
  have ap : ∀ {r : Nat} {b : Blk}, H[r]? = some b → (H ++ ext)[r]? = some b := by
    intro r b hr
    rw [List.getElem?_append_left (List.getElem?_eq_some_iff.1 hr).1]; exact hr
  refine ⟨h1, ap h2, h3, fun j c xs g1 g2 => ?_, h5⟩
  rcases h4 j c xs g1 g2 with ⟨r, v, ty', hc, o1, o2, o3⟩ | h
  · exact .inl ⟨r, v, ty', hc, o1, o2, ap o3⟩
  · exact .inr h
theorem OwnSS.append {H : List Blk} {N : Nat → Prop} {a : AV} {xss : List (List Int)} (h : OwnSS H N a xss) (ext : List Blk) : OwnSS (H ++ ext) N a xss := by
  rcases h with ⟨t, ver, ty, cells, ha, h⟩ | h
  · exact .inl ⟨t, ver, ty, cells, ha, h.append ext⟩
  · exact .inr h
theorem OwnC.set {H : List Blk} {N : Nat → Prop} {t ver ty : Nat} {cells : List AV} {xss yss : List (List Int)} (h : OwnC H N t ver ty cells xss) {i r v ty' : Nat} {xs ys : List Int} (hi : cells[i]? = some (.nm r v 0 xs.length)) (hx : xss[i]? = some xs) (hr : H[r]? = some ⟨v, ty', 1, xs.map I⟩)
    (hl : ys.length = xs.length) (hy : yss[i]? = some ys) (hyl : yss.length = xss.length) (hyo : ∀ j, j ≠ i → yss[j]? = xss[j]?) (hrt : r ≠ t) : OwnC (H.set r ⟨v, ty', 1, ys.map I⟩) N t ver ty cells yss := by
  obtain ⟨h1, h2, h3, h4, h5⟩ := h
  have hlt := (List.getElem?_eq_some_iff.1 hr).1
  refine ⟨h1, by rw [List.getElem?_set_ne hrt]; exact h2, by rw [h3, hyl], fun j c zs g1 g2 => ?_, h5⟩
  by_cases hji : j = i
  · subst hji
    rw [hi] at g1; cases g1
    rw [hy] at g2; cases g2
    rcases h4 j _ _ hi hx with ⟨r', v', ty2, hc, o1, o2, o3⟩ | ⟨_, hc | hc⟩
    · simp only [AV.nm.injEq] at hc
      obtain ⟨rfl, rfl, _⟩ := hc
      exact .inl ⟨r, v, ty', by rw [hl], o1, o2, List.getElem?_set_self hlt⟩
    · simp [nilS] at hc
    · simp at hc
  · rw [hyo j hji] at g2
    rcases h4 j c zs g1 g2 with ⟨r', v', ty2, hc, o1, o2, o3⟩ | h
    · refine .inl ⟨r', v', ty2, hc, o1, o2, ?_⟩
      have : r ≠ r' := by
        rintro rfl
        rw [hc] at g1
        exact h5 i j r v 0 xs.length v' 0 zs.length (Ne.symm hji) hi g1
      rw [List.getElem?_set_ne this]; exact o3
    · exact .inr h
def ilS (xs : List Int) : AV := .il xs.length (xs.map I)
def ilSS (xss : List (List Int)) : AV := .il xss.length (xss.map ilS)
theorem froz_I (H : List Blk) (base : Nat) (n : Int) : Froz H base (I n) (I n) := .old _ (.lit _)
theorem froz_row {H : List Blk} {base r ver ty : Nat} {xs : List Int} (hb : base ≤ r) (hr : H[r]? = some ⟨ver, ty, 1, xs.map I⟩) : Froz H base (.nm r ver 0 xs.length) (ilS xs) := by
  have hc : ((xs.map I).drop 0).take (xs.length * 1) = xs.map I := by rw [List.drop_zero, Nat.mul_one]; apply List.take_of_length_le; simp
  refine .nm r ver 0 xs.length _ _ hb hr rfl (by simp only [hc]) ?_
  intro j c c' h1 h2
  simp only [hc] at h1
  rw [h1] at h2; cases h2
  rw [List.getElem?_map] at h1
  cases hx : xs[j]? with
  | none => rw [hx] at h1; simp at h1
  | some x => rw [hx] at h1; simp at h1; rw [← h1]; exact froz_I _ _ _
theorem OwnS.froz {H : List Blk} {N : Nat → Prop} {base t : Nat} {c : AV} {xs : List Int} (h : OwnS H N t c xs) (hN : ∀ r, N r → base ≤ r) : Froz H base c (ilS xs) := by
  rcases h with ⟨r, ver, ty, rfl, h1, _, h3⟩ | ⟨rfl, rfl | rfl⟩
  · exact froz_row (hN _ h1) h3
  · exact .nil
  · exact .old _ (.il _ _ (fun c h => by simp at h))
theorem OwnSS.froz {H : List Blk} {N : Nat → Prop} {base : Nat} {a : AV} {xss : List (List Int)} (h : OwnSS H N a xss) (hN : ∀ r, N r → base ≤ r) : Froz H base a (ilSS xss) := by
  rcases h with ⟨t, ver, ty, cells, rfl, h1, h2, h3, h4, _⟩ | ⟨rfl, rfl | rfl⟩
  · have hc : (cells.drop 0).take (xss.length * 1) = cells := by rw [List.drop_zero, Nat.mul_one]; apply List.take_of_length_le; omega
    refine .nm t ver 0 xss.length _ _ (hN _ h1) h2 rfl (by simp only [hc, List.length_map]; exact h3.symm) ?_
    intro j c c' g1 g2
    simp only [hc] at g1
    rw [List.getElem?_map] at g2
    cases hx : xss[j]? with
    | none => rw [hx] at g2; simp at g2
    | some xs => rw [hx] at g2; simp at g2; rw [← g2]; exact (h4 j c xs g1 hx).froz hN
  · exact .nil
  · exact .old _ (.il _ _ (fun c h => by simp at h))
theorem rd_ilS (H : List Blk) (xs : List Int) : RdS H (ilS xs) xs := rfl
end Go.Proofs.Ytmdeibdplpodpaa
