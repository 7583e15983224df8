/- Rows that are sorted, each kept once by the library. -/
import Derived.Test.YtmdeibdplpodpaaGreatzK20
import Derived.Test.YtmdeibdplpodpaaGreatzK50
import Derived.Test.YtmdeibdplpodpaaGreatzL8
set_option linter.unusedSimpArgs false
set_option linter.unusedVariables false
set_option maxHeartbeats 4000000
set_option maxRecDepth 100000
namespace Go.Proofs.YtmdeibdplpodpaaGreat
open Go.Av
def ddT (xs : List (List Int)) (m : Nat) : List (List Int) := ((List.range m).filter fun j => decide (j = 0) || !decide (xs.getD j [] = xs.getD (j - 1) [])).map fun j => xs.getD j []
theorem setMany_rep (c : AV) : ∀ (n : Nat) (cells : List AV) (off : Nat), off + n ≤ cells.length → (setMany cells off (List.replicate n c)).take off = cells.take off
  | 0, cells, off, _ => rfl
  | n + 1, cells, off, h => by
    rw [List.replicate_succ, setMany_cons]
    have h1 := setMany_rep c n (cells.set off c) (off + 1) (by simp; omega)
    have h2 := congrArg (fun l : List AV => l.take off) h1
    simp only [List.take_take, Nat.min_eq_left (Nat.le_succ off)] at h2
    rw [h2]
    rw [List.take_set_of_le (by omega)]
def keepI (xs : List (List Int)) (m : Nat) : List Nat := (List.range m).filter fun j => decide (j = 0) || !decide (xs.getD j [] = xs.getD (j - 1) [])
theorem keepI_map (xs : List (List Int)) (m : Nat) : (keepI xs m).map (fun j => xs.getD j []) = ddT xs m := rfl
theorem range_getD (cs : List AV) (d : AV) : ∀ k, k ≤ cs.length → (List.range k).map (fun j => cs.getD j d) = cs.take k
  | 0, _ => by simp
  | k + 1, h => by
    rw [List.range_succ, List.map_append, range_getD cs d k (by omega), List.take_add_one, List.getElem?_eq_getElem (by omega), List.map_cons, List.map_nil, List.getD_eq_getElem?_getD, List.getElem?_eq_getElem (by omega)]; rfl
theorem slcNm {H : List Blk} {K : AV → Prop} {i ver n : Nat} {cells : List AV} {z y : Int} (hz : 0 < z) (hzy : z < y) (hy : y ≤ n) (hs : (H[i]?).map Blk.sz = some 1) : SlcG 1 (.nm i ver 0 n) z y H K (some (n, cells)) = K (.nm i ver z.toNat (y.toNat - z.toNat)) := by
  simp only [SlcG]
  rw [if_neg (by omega), if_neg (by omega)]
  refine propext ⟨fun h => by simpa using h.2.2.2.2, fun h => ⟨by omega, by omega, hy, ?_, by simpa using h⟩⟩
  intro i' ver' off' len' he
  cases he; exact hs
theorem slcNm0 {H : List Blk} {K : AV → Prop} {i ver n : Nat} {cells : List AV} {y : Int} (h0 : 0 ≤ y) (hy : y ≤ n) (hs : (H[i]?).map Blk.sz = some 1) : SlcG 1 (.nm i ver 0 n) 0 y H K (some (n, cells)) = K (.nm i ver 0 y.toNat) := by
  simp only [SlcG, if_true]
  refine propext ⟨fun h => h.2.2.2.2, fun h => ⟨by omega, by omega, hy, ?_, h⟩⟩
  intro i' ver' off' len' he
  cases he; exact hs
end Go.Proofs.YtmdeibdplpodpaaGreat
namespace Go.Av
theorem Sim.trunc {B : Nat} {W0 : World} {F : Fz} {m : List Ent} {H : List Blk} {w : World} (h : Sim B W0 F m H w) {i ver ty : Nat} {cells : List AV} (hk : H[i]? = some ⟨ver, ty, 1, cells⟩) (n : Nat) : Sim B W0 F m (H.set i ⟨ver, ty, 1, cells.take n⟩) w := by
  refine ⟨by simp [h.len], h.below, h.base, h.fz, h.apart, h.dist, fun j e k he hkk => ?_⟩
  have hlt := (List.getElem?_eq_some_iff.1 hk).1
  by_cases hij : i = j
  · subst hij
    rw [List.getElem?_set_self hlt] at hkk
    cases hkk
    obtain ⟨g1, g2, g3, g4, g5⟩ := h.blk i e _ he hk
    refine ⟨g1, g2, g3, fun hn => ⟨?_, (g4 hn).2⟩, fun b hb => ?_⟩
    · have := (g4 hn).1
      simp only at this
      simp [this]
    · obtain ⟨o1, ⟨o0, arr, o2, o3, o4, o5, o6⟩ | ⟨o0, _⟩⟩ := g5 b hb
      · refine ⟨o1, .inl ⟨o0, arr, o2, o3, ?_, fun q c v hc hv => ?_, o6⟩⟩
        · simp only [List.length_take] at o4 ⊢; omega
        · simp only [List.getElem?_take] at hc
          split at hc
          · exact o5 q c v hc hv
          · simp at hc
      · rw [g3] at o0; simp at o0
  · rw [List.getElem?_set_ne hij] at hkk
    exact h.blk j e k he hkk
theorem GR.trunc {H0 : List Blk} {R : AV → List Blk → Prop} {r : AV} {H : List Blk} {i ver ty : Nat} {cells : List AV} (n : Nat) (hk : H[i]? = some ⟨ver, ty, 1, cells⟩) (h : GR H0 R r (H.set i ⟨ver, ty, 1, cells.take n⟩)) : GR H0 R r H :=
  fun B W0 F0 m0 w0 F m w v hs0 hF hm hr hs => h B W0 F0 m0 w0 F m w v hs0 hF hm hr (hs.trunc hk n)
end Go.Av
namespace Go.Proofs.YtmdeibdplpodpaaGreat
open Go.Av
theorem OwnC.compact {H : List Blk} {N : Nat → Prop} {t ver ty : Nat} {cells : List AV} {xs : List (List Int)} (h : OwnC H N t ver ty cells xs) (m : Nat) (hm : m ≤ xs.length) :
    OwnC (H.set t ⟨ver, ty, 1, (keepI xs m).map (fun j => cells.getD j nilS)⟩) N t ver ty ((keepI xs m).map (fun j => cells.getD j nilS)) (ddT xs m) := by
  obtain ⟨h1, h2, h3, h4, h5⟩ := h
  have hlt := (List.getElem?_eq_some_iff.1 h2).1
  have hK : ∀ j ∈ keepI xs m, j < xs.length := fun j hj => by have := List.mem_range.1 (List.mem_filter.1 hj).1; omega
  have hKn : (keepI xs m).Nodup := by
    rw [List.nodup_iff_pairwise_ne]
    exact (List.pairwise_lt_range.filter _).imp (fun h => by omega)
  have hcg : ∀ j, j < xs.length → cells[j]? = some (cells.getD j nilS) := fun j hj => by
    rw [List.getD_eq_getElem?_getD, List.getElem?_eq_getElem (by omega)]; rfl
  refine ⟨h1, List.getElem?_set_self hlt, by rw [← keepI_map]; simp, ?_, ?_⟩
  · intro j c x hc hx
    rw [← keepI_map] at hx
    rw [List.getElem?_map] at hc hx
    cases hj : (keepI xs m)[j]? with
    | none => rw [hj] at hc; simp at hc
    | some q =>
      rw [hj] at hc hx
      simp only [Option.map_some, Option.some.injEq] at hc hx
      subst hc; subst hx
      have hq := hK q (List.mem_of_getElem? hj)
      refine (h4 q _ _ (hcg q hq) (by rw [List.getD_eq_getElem?_getD, List.getElem?_eq_getElem hq]; rfl)).same (fun r b hN hrt hb => ?_)
      rw [List.getElem?_set_ne (Ne.symm hrt)]; exact hb
  · intro i j r v o l v' o' l' hij g1 g2
    rw [List.getElem?_map] at g1 g2
    cases hi : (keepI xs m)[i]? with
    | none => rw [hi] at g1; simp at g1
    | some a =>
      cases hj : (keepI xs m)[j]? with
      | none => rw [hj] at g2; simp at g2
      | some b =>
        rw [hi] at g1; rw [hj] at g2
        simp only [Option.map_some, Option.some.injEq] at g1 g2
        have ha := hK a (List.mem_of_getElem? hi)
        have hb := hK b (List.mem_of_getElem? hj)
        have hab : a ≠ b := by
          rintro rfl
          obtain ⟨p1, p2⟩ := List.getElem?_eq_some_iff.1 hi
          obtain ⟨q1, q2⟩ := List.getElem?_eq_some_iff.1 hj
          exact hij ((List.getElem_inj hKn).1 (p2.trans q2.symm))
        exact h5 a b r v o l v' o' l' hab (by rw [hcg a ha, g1]) (by rw [hcg b hb, g2])
end Go.Proofs.YtmdeibdplpodpaaGreat
