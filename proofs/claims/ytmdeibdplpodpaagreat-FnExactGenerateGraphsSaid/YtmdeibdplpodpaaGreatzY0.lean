/- Lists of lists of lists, told by their content. -/
import Derived.Test.YtmdeibdplpodpaaGreatzU1
import Derived.Test.YtmdeibdplpodpaaGreatzK1
import Derived.Test.YtmdeibdplpodpaaGreatzM2
set_option linter.unusedSimpArgs false
set_option linter.unusedVariables false
set_option maxHeartbeats 4000000
set_option maxRecDepth 100000
namespace Go.Proofs.YtmdeibdplpodpaaGreat
open Go.Av
def il3 (xs : List (List (List Int))) : AV := .il xs.length (xs.map ilSS)
section
variable {H : List Blk} {i : Nat} {b : Nat}
@[go_sem] theorem aview_il3 (xs : List (List (List Int))) : aview H (il3 xs) = some (xs.length, xs.map ilSS) := rfl
@[go_sem] theorem get3 {xs : List (List (List Int))} (h : i < xs.length) : (xs.map ilSS)[i]? = some (ilSS (xs.getD i [])) := by simp [List.getElem?_eq_getElem h]
@[go_sem] theorem app3 (xs : List (List (List Int))) (v : List (List Int)) : xs.map ilSS ++ [ilSS v] = (xs ++ [v]).map ilSS := by simp
@[go_sem] theorem take3 (xs : List (List (List Int))) : (xs.map ilSS).take xs.length = xs.map ilSS := List.take_of_length_le (by simp)
@[go_sem] theorem cell1_il3 (xs : List (List (List Int))) : (il3 xs).cell1 = true := rfl
@[go_sem] theorem partsOf_il3 (xs : List (List (List Int))) : partsOf (il3 xs) = [il3 xs] := rfl
@[go_sem] theorem all31 (xs : List (List (List Int))) : (xs.map ilSS).all AV.cell1 = true := by rw [List.all_eq_true]; intro c hc; obtain ⟨x, _, rfl⟩ := List.mem_map.1 hc; rfl
theorem all_map3 (k : Nat) (xs : List (List (List Int))) : (∀ c ∈ xs.map ilSS, Bel k c) = True := eq_true (by intro c h; obtain ⟨x, _, rfl⟩ := List.mem_map.1 h; rw [Bel_ilSS]; trivial)
theorem Bel_il3 (k : Nat) (xs : List (List (List Int))) : Bel k (il3 xs) = True := eq_true (.il _ _ (by rw [all_map3]; trivial))
theorem froz_row3 {r ver ty : Nat} {xs : List (List (List Int))} (hb : b ≤ r) (hr : H[r]? = some ⟨ver, ty, 1, xs.map ilSS⟩) : Froz H b (.nm r ver 0 xs.length) (il3 xs) := by
  have := froz_own (e := fun _ => nilS) (cs' := xs.map ilSS) hb hr rfl (fun j c c' h1 h2 => by
    rw [h1] at h2; cases h2
    obtain ⟨x, _, rfl⟩ := List.mem_map.1 (List.mem_of_getElem? h1)
    exact froz_ilSS _)
  rw [List.length_map] at this
  exact this
end
theorem ren_of_froz {H : List Blk} {b : Nat} {a a' : AV} (h : Froz H b a a') : Ren H b [] a a' := by
  induction h with
  | old c h => exact .old c h
  | nil => exact .nilF
  | nm i ver off len kb cs hb hk hv hl _ ih => exact .fz i ver off len kb cs hb (by simp) hk hv hl ih
  | agg cs cs' hl _ ih => exact .agg cs cs' hl ih
  | tup cs cs' hl _ ih => exact .tup cs cs' hl ih
end Go.Proofs.YtmdeibdplpodpaaGreat
namespace Go.Proofs.YtmdeibdplpodpaaGreat
open Go.Av
def OwnXC (H : List Blk) (N : Nat → Prop) (M : Nat → Nat → Prop) (t ver ty : Nat) (cells : List AV) (x3 : List (List (List Int))) : Prop :=
  N t ∧ H[t]? = some ⟨ver, ty, 1, cells⟩ ∧ cells.length = x3.length ∧ (∀ (j : Nat) (c : AV) (xss : List (List Int)), cells[j]? = some c → x3[j]? = some xss → OwnSS H (M j) c xss) ∧
  (∀ j r, M j r → N r ∧ r ≠ t) ∧ (∀ i j r, M i r → M j r → i = j)
def OwnX (H : List Blk) (N : Nat → Prop) (a : AV) (x3 : List (List (List Int))) : Prop :=
  (∃ t ver ty cells M, a = .nm t ver 0 x3.length ∧ OwnXC H N M t ver ty cells x3) ∨ (x3 = [] ∧ a = nilS)
def RdX (H : List Blk) (a : AV) (x3 : List (List (List Int))) : Prop :=
  ∃ cells, aview H a = some (x3.length, cells) ∧ cells.length = x3.length ∧ ∀ (j : Nat) (c : AV) (xss : List (List Int)), cells[j]? = some c → x3[j]? = some xss → RdSS H c xss
theorem OwnXC.rd {H : List Blk} {N : Nat → Prop} {M : Nat → Nat → Prop} {t ver ty : Nat} {cells : List AV} {x3 : List (List (List Int))} (h : OwnXC H N M t ver ty cells x3) : RdX H (.nm t ver 0 x3.length) x3 :=
  ⟨cells, view_nm h.2.1 h.2.2.1, h.2.2.1, fun j c xs g1 g2 => (h.2.2.2.1 j c xs g1 g2).rd⟩
theorem OwnX.rd {H : List Blk} {N : Nat → Prop} {a : AV} {x3 : List (List (List Int))} (h : OwnX H N a x3) : RdX H a x3 := by
  rcases h with ⟨t, ver, ty, cells, M, rfl, h⟩ | ⟨rfl, rfl⟩
  · exact h.rd
  · exact ⟨[], rfl, rfl, fun j c xs h => by simp at h⟩
theorem OwnXC.same {H H' : List Blk} {N : Nat → Prop} {M : Nat → Nat → Prop} {t ver ty : Nat} {cells : List AV} {x3 : List (List (List Int))} (h : OwnXC H N M t ver ty cells x3) (hs : ∀ j b, N j → H[j]? = some b → H'[j]? = some b) : OwnXC H' N M t ver ty cells x3 := by
  obtain ⟨h1, h2, h3, h4, h5, h6⟩ := h
  exact ⟨h1, hs t _ h1 h2, h3, fun j c xs g1 g2 => (h4 j c xs g1 g2).same (fun r b q hb => hs r b (h5 j r q).1 hb), h5, h6⟩
theorem OwnXC.mono {H : List Blk} {N N' : Nat → Prop} {M : Nat → Nat → Prop} {t ver ty : Nat} {cells : List AV} {x3 : List (List (List Int))} (h : OwnXC H N M t ver ty cells x3) (hN : ∀ r, N r → N' r) : OwnXC H N' M t ver ty cells x3 := by
  obtain ⟨h1, h2, h3, h4, h5, h6⟩ := h
  exact ⟨hN t h1, h2, h3, h4, fun j r q => ⟨hN r (h5 j r q).1, (h5 j r q).2⟩, h6⟩
theorem OwnX.same {H H' : List Blk} {N : Nat → Prop} {a : AV} {x3 : List (List (List Int))} (h : OwnX H N a x3) (hs : ∀ j b, N j → H[j]? = some b → H'[j]? = some b) : OwnX H' N a x3 := by
  rcases h with ⟨t, ver, ty, cells, M, rfl, h⟩ | h
  · exact .inl ⟨t, ver, ty, cells, M, rfl, h.same hs⟩
  · exact .inr h
theorem OwnX.append {H : List Blk} {N : Nat → Prop} {a : AV} {x3 : List (List (List Int))} (h : OwnX H N a x3) (ext : List Blk) : OwnX (H ++ ext) N a x3 :=
  h.same (fun j b _ hb => by rw [List.getElem?_append_left (List.getElem?_eq_some_iff.1 hb).1]; exact hb)
theorem OwnX.one {H : List Blk} {N : Nat → Prop} {a : AV} {x3 : List (List (List Int))} (h : OwnX H N a x3) : a.cell1 = true ∧ partsOf a = [a] := by
  rcases h with ⟨t, ver, ty, cells, M, rfl, h⟩ | ⟨rfl, rfl⟩ <;> exact ⟨rfl, rfl⟩
theorem OwnX.ov {H : List Blk} {N : Nat → Prop} {a : AV} {x3 : List (List (List Int))} (h : OwnX H N a x3) : OV a := by
  rcases h with ⟨t, ver, ty, cells, M, rfl, h⟩ | ⟨rfl, rfl⟩
  · exact .nm _ _ _ _
  · exact .lit _
theorem OwnX.weak {H : List Blk} {N N' : Nat → Prop} {a : AV} {x3 : List (List (List Int))} (h : OwnX H N a x3) (hN : ∀ r, N r → r < H.length → N' r) : OwnX H N' a x3 := by
  rcases h with ⟨t, ver, ty, cells, M, rfl, h1, h2, h3, h4, h5, h6⟩ | h
  · refine .inl ⟨t, ver, ty, cells, fun j r => M j r ∧ r < H.length, rfl, hN t h1 (List.getElem?_eq_some_iff.1 h2).1, h2, h3, fun j c xs g1 g2 => (h4 j c xs g1 g2).weak (fun r q1 q2 => ⟨q1, q2⟩), fun j r q => ⟨hN r (h5 j r q.1).1 q.2, (h5 j r q.1).2⟩, fun i j r q1 q2 => h6 i j r q1.1 q2.1⟩
  · exact .inr h
theorem OwnX.froz {H : List Blk} {N : Nat → Prop} {base : Nat} {a : AV} {x3 : List (List (List Int))} (h : OwnX H N a x3) (hN : ∀ r, N r → base ≤ r) : Froz H base a (il3 x3) := by
  rcases h with ⟨t, ver, ty, cells, M, rfl, h1, h2, h3, h4, h5, h6⟩ | ⟨rfl, rfl⟩
  · have hc : (cells.drop 0).take (x3.length * 1) = cells := by rw [List.drop_zero, Nat.mul_one]; apply List.take_of_length_le; omega
    refine .nm t ver 0 x3.length _ _ (hN _ h1) h2 rfl (by simp only [hc, List.length_map]; exact h3.symm) ?_
    intro j c c' g1 g2
    simp only [hc] at g1
    rw [List.getElem?_map] at g2
    cases hx : x3[j]? with
    | none => rw [hx] at g2; simp at g2
    | some xs => rw [hx] at g2; simp at g2; rw [← g2]; exact (h4 j c xs g1 hx).froz (fun r q => hN r (h5 j r q).1)
  · exact .nil
theorem OwnX.sh {H H0 : List Blk} {N N' : Nat → Prop} {c : AV} {x3 : List (List (List Int))} (h : OwnX H0 N c x3) (hN : ∀ i, N i → N' (H.length + i)) : OwnX (H ++ H0.map (shB H.length)) N' (Go.Av.sh H.length c) x3 := by
  rcases h with ⟨t, ver, ty, cells, M, rfl, h1, h2, h3, h4, h5, h6⟩ | ⟨rfl, rfl⟩
  · refine .inl ⟨H.length + t, ver, ty, cells.map (Go.Av.sh H.length), fun j r => ∃ i, M j i ∧ r = H.length + i, by rw [sh_nm], hN t h1, ?_, by simp [h3], ?_, ?_, ?_⟩
    · rw [List.getElem?_append_right (by omega), Nat.add_sub_cancel_left, List.getElem?_map, h2]
      simp only [Option.map_some, Option.some.injEq]
      rw [shB_cells (fun c hc => ?_)]
      obtain ⟨j, hj, rfl⟩ := List.getElem_of_mem hc
      exact (h4 j _ _ (List.getElem?_eq_getElem hj) (List.getElem?_eq_getElem (by simp only at hj; omega))).ov
    · intro j c xs g1 g2
      rw [List.getElem?_map] at g1
      cases hc : cells[j]? with
      | none => rw [hc] at g1; simp at g1
      | some c0 =>
        rw [hc] at g1; simp at g1; subst g1
        exact (h4 j c0 xs hc g2).sh (fun i hi => ⟨i, hi, rfl⟩)
    · rintro j r ⟨i, hi, rfl⟩
      exact ⟨hN i (h5 j i hi).1, fun e => (h5 j i hi).2 (by omega)⟩
    · rintro i j r ⟨a, ha, rfl⟩ ⟨b, hb, he⟩
      have : a = b := by omega
      subst this
      exact h6 i j a ha hb
  · exact .inr ⟨rfl, by rw [sh_nil]⟩
theorem OwnXC.appN {H1 H : List Blk} {N : Nat → Prop} {M : Nat → Nat → Prop} {Pn : Nat → Prop} {t ver ty : Nat} {cells : List AV} {x3 : List (List (List Int))} {c : AV} {xss : List (List Int)} (h : OwnXC H1 N M t ver ty cells x3)
    (hc : OwnSS H Pn c xss) (hP : ∀ r, Pn r → N r ∧ r ≠ t ∧ ∀ j, j < x3.length → ¬ M j r) (hl : (x3.length + 1) * 24 ≤ 140737488355328)
    (hs : ∀ j b, N j → H1[j]? = some b → H[j]? = some b)
    {K : AV → List Blk → Prop} (hk : ∀ v' H', v' = .nm t (ver + 1) 0 (x3.length + 1) → (∃ M' cells', OwnXC H' N M' t (ver + 1) ty cells' (x3 ++ [xss])) → H'.length = H.length → (∀ j, j ≠ t → H'[j]? = H[j]?) → K v' H') :
    AppN ty 1 24 t ver x3.length 1 [c] H K H[t]? := by
  have h' := h.same hs
  obtain ⟨h1, h2, h3, h4, h5, h6⟩ := id h'
  have htl := (List.getElem?_eq_some_iff.1 h2).1
  simp only [AppN, h2]
  refine ⟨trivial, trivial, trivial, by omega, by omega, by omega, hk _ _ rfl ⟨fun j r => if j = x3.length then Pn r else M j r ∧ j < x3.length, cells ++ [c], ?_⟩ (by simp) (fun j hj => ?_)⟩
  · refine ⟨h1, ?_, by simp [h3], ?_, ?_, ?_⟩
    · rw [List.getElem?_set_self htl]
      simp [← h3]
    · intro j c0 ys g1 g2
      by_cases hj : j < cells.length
      · rw [List.getElem?_append_left hj] at g1
        rw [List.getElem?_append_left (by omega)] at g2
        refine ((h4 j c0 ys g1 g2).same (fun r b q hb => ?_)).weak (fun r q _ => ?_)
        · rw [List.getElem?_set_ne (Ne.symm (h5 j r q).2)]; exact hb
        · show if j = x3.length then Pn r else M j r ∧ j < x3.length
          rw [if_neg (by omega)]; exact ⟨q, by omega⟩
      · rw [List.getElem?_append_right (by omega)] at g1 g2
        have hj' : j = cells.length := by
          have := (List.getElem?_eq_some_iff.1 g1).1
          simp at this; omega
        subst hj'
        rw [Nat.sub_self] at g1
        rw [h3, Nat.sub_self] at g2
        simp at g1 g2; subst g1; subst g2
        refine (hc.same (fun r b q hb => ?_)).weak (fun r q _ => ?_)
        · rw [List.getElem?_set_ne (Ne.symm (hP r q).2.1)]; exact hb
        · show if cells.length = x3.length then Pn r else M cells.length r ∧ cells.length < x3.length
          rw [if_pos h3]; exact q
    · intro j r q
      replace q : if j = x3.length then Pn r else M j r ∧ j < x3.length := q
      by_cases hj : j = x3.length
      · rw [if_pos hj] at q; exact ⟨(hP r q).1, (hP r q).2.1⟩
      · rw [if_neg hj] at q; exact h5 j r q.1
    · intro i j r q1 q2
      replace q1 : if i = x3.length then Pn r else M i r ∧ i < x3.length := q1
      replace q2 : if j = x3.length then Pn r else M j r ∧ j < x3.length := q2
      by_cases hi : i = x3.length <;> by_cases hj : j = x3.length
      · omega
      · rw [if_pos hi] at q1; rw [if_neg hj] at q2; exact absurd q2.1 ((hP r q1).2.2 j q2.2)
      · rw [if_neg hi] at q1; rw [if_pos hj] at q2; exact absurd q1.1 ((hP r q2).2.2 i q1.2)
      · rw [if_neg hi] at q1; rw [if_neg hj] at q2; exact h6 i j r q1.1 q2.1
  · rw [List.getElem?_set_ne (by omega)]
end Go.Proofs.YtmdeibdplpodpaaGreat
