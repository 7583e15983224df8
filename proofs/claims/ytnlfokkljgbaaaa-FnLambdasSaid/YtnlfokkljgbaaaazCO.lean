/- Covers drawn. -/
import Derived.Test.YtnlfokkljgbaaaaProg
import Derived.KernelRfl
import Derived.Test.YtnlfokkljgbaaaazLD
import Derived.Test.YtnlfokkljgbaaaazK9
import Derived.Test.YtnlfokkljgbaaaazL1
import Derived.Test.YtnlfokkljgbaaaazK2
set_option linter.unusedSimpArgs false
set_option linter.unusedVariables false
set_option maxHeartbeats 4000000
set_option maxRecDepth 100000
namespace Go.Proofs.Ytnlfokkljgbaaaa
open Go.Av
theorem getD_getC {A : Type} {l : List A} {j : Nat} {d : A} (h : j < l.length) : l.getD j d = l[j] := by rw [List.getD_eq_getElem?_getD, List.getElem?_eq_getElem h]; rfl
def RowF (H : List Blk) (N : Nat → Prop) (c : AV) (xs : List Int) : Prop := c = ilS xs ∨ (xs = [] ∧ c = nilS) ∨ ∃ r ver, c = .nm r ver 0 xs.length ∧ N r ∧ H[r]? = some ⟨ver, 2, 1, xs.map I⟩
def TabF (H : List Blk) (N : Nat → Prop) (v : AV) (xss : List (List Int)) : Prop :=
  (v = nilS ∧ xss = []) ∨ ∃ t ver cells, v = .nm t ver 0 xss.length ∧ N t ∧ H[t]? = some ⟨ver, tyLL, 1, cells⟩ ∧ cells.length = xss.length ∧ ∀ (j : Nat) (c : AV) (xs : List Int), cells[j]? = some c → xss[j]? = some xs → RowF H N c xs
theorem RowF.one {H : List Blk} {N : Nat → Prop} {c : AV} {xs : List Int} (h : RowF H N c xs) : c.cell1 = true ∧ partsOf c = [c] := by
  rcases h with rfl | ⟨_, rfl⟩ | ⟨r, ver, rfl, _⟩ <;> exact ⟨rfl, rfl⟩
theorem RowF.same {H H' : List Blk} {N N' : Nat → Prop} {c : AV} {xs : List Int} (h : RowF H N c xs) (hN : ∀ r, N r → r < H.length → N' r) (hs : ∀ (j : Nat) (b : Blk), N j → H[j]? = some b → b.ty = 2 → H'[j]? = some b) : RowF H' N' c xs := by
  rcases h with h | h | ⟨r, ver, h1, h2, h3⟩
  · exact .inl h
  · exact .inr (.inl h)
  · exact .inr (.inr ⟨r, ver, h1, hN r h2 (List.getElem?_eq_some_iff.1 h3).1, hs r _ h2 h3 rfl⟩)
theorem TabF.one {H : List Blk} {N : Nat → Prop} {v : AV} {xss : List (List Int)} (h : TabF H N v xss) : v.cell1 = true ∧ partsOf v = [v] := by
  rcases h with ⟨rfl, _⟩ | ⟨t, ver, cells, rfl, _⟩ <;> exact ⟨rfl, rfl⟩
theorem TabF.same {H H' : List Blk} {N N' : Nat → Prop} {v : AV} {xss : List (List Int)} (h : TabF H N v xss) (hN : ∀ r, N r → r < H.length → N' r) (hs : ∀ (j : Nat) (b : Blk), N j → H[j]? = some b → H'[j]? = some b) : TabF H' N' v xss := by
  rcases h with h | ⟨t, ver, cells, h1, h2, h3, h4, h5⟩
  · exact .inl h
  · exact .inr ⟨t, ver, cells, h1, hN t h2 (List.getElem?_eq_some_iff.1 h3).1, hs t _ h2 h3, h4, fun j c xs g1 g2 => (h5 j c xs g1 g2).same hN (fun j b q hb _ => hs j b q hb)⟩
theorem RowF.froz {H : List Blk} {N : Nat → Prop} {b : Nat} {c : AV} {xs : List Int} (h : RowF H N c xs) (hN : ∀ r, N r → b ≤ r) : Froz H b c (ilS xs) := by
  rcases h with rfl | ⟨rfl, rfl⟩ | ⟨r, ver, rfl, h1, h2⟩
  · exact .old _ (by rw [Bel_ilS]; trivial)
  · exact .nil
  · exact froz_rowI (hN r h1) h2
theorem TabF.froz {H : List Blk} {N : Nat → Prop} {b : Nat} {v : AV} {xss : List (List Int)} (h : TabF H N v xss) (hN : ∀ r, N r → b ≤ r) : Froz H b v (ilSS xss) := by
  rcases h with ⟨rfl, rfl⟩ | ⟨t, ver, cells, rfl, h2, h3, h4, h5⟩
  · exact .nil
  · have hc : (cells.drop 0).take (xss.length * 1) = cells := by rw [List.drop_zero, Nat.mul_one]; exact List.take_of_length_le (by omega)
    refine .nm t ver 0 xss.length _ _ (hN t h2) h3 rfl (by simp only [hc, List.length_map]; exact h4.symm) ?_
    intro j c c' g1 g2
    simp only [hc] at g1
    rw [List.getElem?_map] at g2
    cases hx : xss[j]? with
    | none => rw [hx] at g2; simp at g2
    | some x => rw [hx] at g2; simp at g2; rw [← g2]; exact (h5 j c x g1 hx).froz hN
theorem TabF.app {Y : List Blk} {N : Nat → Prop} {v : AV} {xss yss : List (List Int)} {cs : List AV} (h : TabF Y N v xss) (hl : cs.length = yss.length) (hrow : ∀ (j : Nat) (c : AV) (ys : List Int), cs[j]? = some c → yss[j]? = some ys → RowF Y N c ys) (hN : N Y.length) (hlen : xss.length + yss.length ≤ 100000)
    {K : AV → List Blk → Prop} (hk : ∀ v' Z, v'.cell1 = true ∧ partsOf v' = [v'] → Y.length ≤ Z.length → TabF Z N v' (xss ++ yss) → (∀ (j : Nat) (bl : Blk), Y[j]? = some bl → bl.ty ≠ tyLL → Z[j]? = some bl) → (∀ j, ¬ N j → j < Y.length → Z[j]? = Y[j]?) → K v' Z) : AppX tyLL 1 24 Y v K (some (cs.length, cs)) := by
  have hci : cs.all AV.cell1 = true := List.all_eq_true.2 fun c hc => by
    obtain ⟨j, hj, rfl⟩ := List.getElem_of_mem hc
    exact (hrow j _ _ (List.getElem?_eq_getElem hj) (List.getElem?_eq_getElem (by omega))).one.1
  rcases h with ⟨rfl, rfl⟩ | ⟨t, ver, cells, rfl, h2, h3, h4, h5⟩
  · rw [AppX_nil (h1 := by omega) (h2 := hci) (h3 := by simp at hlen; omega) (h4 := by simp at hlen; omega)]
    refine hk _ _ ⟨rfl, rfl⟩ (by simp) (.inr ⟨Y.length, 1, cs, by rw [List.nil_append, hl], hN, by simp, by rw [List.nil_append, hl], fun j c xs g1 g2 => ?_⟩) (fun j bl hj _ => get_appB2 hj _) fun j _ hj => List.getElem?_append_left hj
    exact (hrow j c xs g1 (by rwa [List.nil_append] at g2)).same (fun r hr _ => hr) fun j b _ hb _ => get_appB2 hb _
  · have hlt := (List.getElem?_eq_some_iff.1 h3).1
    have hfr : ∀ (j : Nat) (bl : Blk), Y[j]? = some bl → bl.ty ≠ tyLL → (Y.set t ⟨ver + 1, tyLL, 1, cells ++ cs⟩)[j]? = some bl := fun j bl hj hty => by
      rw [List.getElem?_set_ne (fun e => by subst e; rw [h3] at hj; cases hj; exact hty rfl)]; exact hj
    have hrf : ∀ {c : AV} {xs : List Int}, RowF Y N c xs → RowF (Y.set t ⟨ver + 1, tyLL, 1, cells ++ cs⟩) N c xs := fun h => h.same (fun r hr _ => hr) fun j b _ hb hty => hfr j b hb (by rw [hty]; decide)
    rw [AppX_nm (h1 := by omega) (h2 := hci), h3, AppN_in (h1 := by omega) (h2 := by omega) (h3 := by omega), List.take_of_length_le (by omega)]
    refine hk _ _ ⟨rfl, rfl⟩ (by rw [List.length_set]; exact Nat.le_refl _) (.inr ⟨t, ver + 1, cells ++ cs, by rw [List.length_append, hl], h2, List.getElem?_set_self hlt, by rw [List.length_append, List.length_append]; omega, fun j c xs g1 g2 => ?_⟩) hfr (fun j hj _ => List.getElem?_set_ne (fun e => by subst e; exact hj h2))
    by_cases hj : j < cells.length
    · rw [List.getElem?_append_left hj] at g1
      rw [List.getElem?_append_left (by omega)] at g2
      exact hrf (h5 j c xs g1 g2)
    · rw [List.getElem?_append_right (by omega)] at g1
      rw [List.getElem?_append_right (by omega), ← h4] at g2
      exact hrf (hrow _ c xs g1 g2)
theorem wfOfD {x : Int} (h : -9223372036854775808 ≤ x ∧ x ≤ 9223372036854775807) : (Lit.int .i64 x).wf = true := by
  simp [Lit.wf, IntKind.min, IntKind.max, IntKind.signed, IntKind.bits]
  omega
theorem st_at {A bs : List Blk} {q j ver ty sz off : Nat} {cells cs : List AV} (hq : q = A.length + j) (hb : bs[j]? = some ⟨ver, ty, sz, cells⟩) (hl : off + cs.length ≤ cells.length) : astore (A ++ bs) cs (.pc q ver off) = some (A ++ bs.set j ⟨ver, ty, sz, setMany cells off cs⟩) := by
  subst hq
  rw [astore_own, hb, PcS_some, if_pos hl]
theorem ld_at {A bs : List Blk} {q j ver ty sz off n : Nat} {cells : List AV} (hq : q = A.length + j) (hb : bs[j]? = some ⟨ver, ty, sz, cells⟩) (hl : off + n ≤ cells.length) : acells (A ++ bs) n (.pc q ver off) = some ((cells.drop off).take n) :=
  pc_lds (by rw [hq, List.getElem?_append_right (by omega), Nat.add_sub_cancel_left]; exact hb) hl
structure DrS (H Y : List Blk) (p : Nat) (code : AV) (t : Nat) (u : Int) (i ver : Nat) (s : List Int) (n v : AV) (O : List (List Int)) : Prop where
  src : Y[p]? = some (srcB code t u)
  res : Y[H.length]? = some ⟨0, tyCover, 1, [I 0, nilS]⟩
  box : Y[H.length + 1]? = some ⟨0, tyCover, 1, [n, v]⟩
  set : Y[i]? = some ⟨ver, 2, 1, s.map I⟩
  ib : H.length + 2 ≤ i
  tab : TabF Y (fun r => H.length + 2 ≤ r ∧ r ≠ i) v O
  fr : ∀ j, j < H.length → j ≠ p → Y[j]? = H[j]?
section
variable {H Y : List Blk} {p t t' i ver : Nat} {code n v : AV} {u u' : Int} {s : List Int} {O : List (List Int)}
theorem DrS.src' (h : DrS H Y p code t u i ver s n v O) (hp : p < H.length) : DrS H (Y.set p (srcB code t' u')) p code t' u' i ver s n v O := by
  have hpl := (List.getElem?_eq_some_iff.1 h.src).1
  have g : ∀ j, j ≠ p → (Y.set p (srcB code t' u'))[j]? = Y[j]? := fun j hj => List.getElem?_set_ne (Ne.symm hj)
  have := h.ib
  exact ⟨List.getElem?_set_self hpl, (g _ (by omega)).trans h.res, (g _ (by omega)).trans h.box, (g _ (by omega)).trans h.set, h.ib, h.tab.same (fun r hr _ => hr) (fun j b hj hb => by rw [g j (by omega)]; exact hb), fun j hj hjp => (g j hjp).trans (h.fr j hj hjp)⟩
theorem DrS.grow (h : DrS H Y p code t u i ver s n v O) (ext : List Blk) : DrS H (Y ++ ext) p code t u i ver s n v O :=
  ⟨get_appU h.src ext, get_appU h.res ext, get_appU h.box ext, get_appU h.set ext, h.ib, h.tab.same (fun r hr _ => hr) (fun j b _ hb => get_appU hb ext), fun j hj hjp => by
    have := (List.getElem?_eq_some_iff.1 h.res).1
    rw [List.getElem?_append_left (by omega)]; exact h.fr j hj hjp⟩
theorem DrS.push (h : DrS H Y p code t u i ver s n v O) (hp : p < H.length) (x : Int) : DrS H (Y.set i ⟨ver + 1, 2, 1, s.map I ++ [I x]⟩) p code t u i (ver + 1) (s ++ [x]) n v O := by
  have hil := (List.getElem?_eq_some_iff.1 h.set).1
  have hib := h.ib
  have g : ∀ j, j ≠ i → (Y.set i ⟨ver + 1, 2, 1, s.map I ++ [I x]⟩)[j]? = Y[j]? := fun j hj => List.getElem?_set_ne (Ne.symm hj)
  exact ⟨(g _ (by omega)).trans h.src, (g _ (by omega)).trans h.res, (g _ (by omega)).trans h.box, by rw [List.getElem?_set_self hil]; simp, hib, h.tab.same (fun r hr _ => hr) (fun j b hj hb => by rw [g j hj.2]; exact hb), fun j hj hjp => (g j (by omega)).trans (h.fr j hj hjp)⟩
theorem DrS.pre (h : DrS H Y p code t u i ver s n v O) (hp : p < H.length) : ∃ ext, Y = H.set p (srcB code t u) ++ ext := by
  have hl := (List.getElem?_eq_some_iff.1 h.res).1
  refine ext_ofD (by rw [List.length_set]; omega) fun j hj => ?_
  rw [List.length_set] at hj
  by_cases hjp : j = p
  · subst hjp; rw [List.getElem?_set_self hp]; exact h.src
  · rw [List.getElem?_set_ne (Ne.symm hjp)]; exact h.fr j hj hjp
theorem DrS.put {Z : List Blk} {v' : AV} {O' : List (List Int)} (h : DrS H Y p code t u i ver s n v O) (hp : p < H.length) (hl : Y.length ≤ Z.length) (ht : TabF Z (fun r => H.length + 2 ≤ r) v' O') (hf : ∀ (j : Nat) (bl : Blk), Y[j]? = some bl → bl.ty ≠ tyLL → Z[j]? = some bl) (hf2 : ∀ j, j < H.length → Z[j]? = Y[j]?) :
    DrS H (Z.set (H.length + 1) ⟨0, tyCover, 1, [n, v']⟩ ++ [⟨0, 2, 1, []⟩]) p code t u Z.length 0 [] n v' O' := by
  have hZs := hf _ _ h.src (show tySrc ≠ tyLL by decide)
  have hZr := hf _ _ h.res (show tyCover ≠ tyLL by decide)
  have hZb := hf _ _ h.box (show tyCover ≠ tyLL by decide)
  have hbl := (List.getElem?_eq_some_iff.1 hZb).1
  have g : ∀ j bl, j ≠ H.length + 1 → Z[j]? = some bl → (Z.set (H.length + 1) ⟨0, tyCover, 1, [n, v']⟩ ++ [(⟨0, 2, 1, []⟩ : Blk)])[j]? = some bl := fun j bl hj hb => by
    refine get_appU ?_ _
    rw [List.getElem?_set_ne (Ne.symm hj)]; exact hb
  have hZl : Z.length = (Z.set (H.length + 1) ⟨0, tyCover, 1, [n, v']⟩).length := by simp
  refine ⟨g _ _ (by omega) hZs, g _ _ (by omega) hZr, get_appU (List.getElem?_set_self hbl) _, ?_, by omega, ?_, fun j hj hjp => ?_⟩
  · rw [hZl, List.getElem?_append_right (Nat.le_refl _), Nat.sub_self]; rfl
  · exact ht.same (fun r h1 h2 => ⟨h1, by omega⟩) fun j b hj hb => g j b (by omega) hb
  · rw [List.getElem?_append_left (by rw [List.length_set]; omega), List.getElem?_set_ne (by omega), hf2 j hj]
    exact h.fr j hj hjp
end
theorem appNC {X : List Blk} {t ver : Nat} {s : List Int} {x : Int} {K : AV → List Blk → Prop} (hX : X[t]? = some ⟨ver, 2, 1, s.map I⟩) (hn : s.length ≤ 100000) (hk : K (.nm t (ver + 1) 0 (s.length + 1)) (X.set t ⟨ver + 1, 2, 1, s.map I ++ [I x]⟩)) :
    AppN 2 1 8 t ver s.length 1 [I x] X K X[t]? := by
  have htl : (s.map I).take (s.length * 1) = s.map I := List.take_of_length_le (by simp)
  simp only [AppN, hX]
  refine ⟨trivial, trivial, trivial, by simp, by omega, by omega, ?_⟩
  rw [htl]
  exact hk
theorem TabF.view {H : List Blk} {N : Nat → Prop} {v : AV} {xss : List (List Int)} (h : TabF H N v xss) : ∃ cells, aview H v = some (xss.length, cells) := by
  rcases h with ⟨rfl, rfl⟩ | ⟨t, ver, cells, rfl, _, h3, h4, _⟩
  · exact ⟨[], rfl⟩
  · exact ⟨cells, view_nm h3 h4⟩
structure DrT (H Y : List Blk) (p : Nat) (code : AV) (t : Nat) (u : Int) (n v : AV) (O : List (List Int)) : Prop where
  src : Y[p]? = some (srcB code t u)
  res : Y[H.length]? = some ⟨0, tyCover, 1, [I 0, nilS]⟩
  box : Y[H.length + 1]? = some ⟨0, tyCover, 1, [n, v]⟩
  tab : TabF Y (fun r => H.length + 2 ≤ r) v O
  fr : ∀ j, j < H.length → j ≠ p → Y[j]? = H[j]?
section
variable {H Y : List Blk} {p t t' i ver : Nat} {code n v : AV} {u u' : Int} {s : List Int} {O : List (List Int)}
theorem DrT.src' (h : DrT H Y p code t u n v O) (hp : p < H.length) : DrT H (Y.set p (srcB code t' u')) p code t' u' n v O := by
  have hpl := (List.getElem?_eq_some_iff.1 h.src).1
  have g : ∀ j, j ≠ p → (Y.set p (srcB code t' u'))[j]? = Y[j]? := fun j hj => List.getElem?_set_ne (Ne.symm hj)
  exact ⟨List.getElem?_set_self hpl, (g _ (by omega)).trans h.res, (g _ (by omega)).trans h.box, h.tab.same (fun r hr _ => hr) (fun j b hj hb => by rw [g j (by omega)]; exact hb), fun j hj hjp => (g j hjp).trans (h.fr j hj hjp)⟩
theorem DrT.grow (h : DrT H Y p code t u n v O) (ext : List Blk) : DrT H (Y ++ ext) p code t u n v O :=
  ⟨get_appU h.src ext, get_appU h.res ext, get_appU h.box ext, h.tab.same (fun r hr _ => hr) (fun j b _ hb => get_appU hb ext), fun j hj hjp => by
    have := (List.getElem?_eq_some_iff.1 h.res).1
    rw [List.getElem?_append_left (by omega)]; exact h.fr j hj hjp⟩
theorem DrT.pre (h : DrT H Y p code t u n v O) (hp : p < H.length) : ∃ ext, Y = H.set p (srcB code t u) ++ ext := by
  have hl := (List.getElem?_eq_some_iff.1 h.res).1
  refine ext_ofD (by rw [List.length_set]; omega) fun j hj => ?_
  rw [List.length_set] at hj
  by_cases hjp : j = p
  · subst hjp; rw [List.getElem?_set_self hp]; exact h.src
  · rw [List.getElem?_set_ne (Ne.symm hjp)]; exact h.fr j hj hjp
theorem DrT.put {Z : List Blk} {v' : AV} {O' : List (List Int)} (h : DrT H Y p code t u n v O) (hp : p < H.length) (ht : TabF Z (fun r => H.length + 2 ≤ r) v' O') (hf : ∀ (j : Nat) (bl : Blk), Y[j]? = some bl → bl.ty ≠ tyLL → Z[j]? = some bl) (hf2 : ∀ j, j < H.length → Z[j]? = Y[j]?) :
    DrT H (Z.set (H.length + 1) ⟨0, tyCover, 1, [n, v']⟩) p code t u n v' O' := by
  have hZs := hf _ _ h.src (show tySrc ≠ tyLL by decide)
  have hZr := hf _ _ h.res (show tyCover ≠ tyLL by decide)
  have hZb := hf _ _ h.box (show tyCover ≠ tyLL by decide)
  have hbl := (List.getElem?_eq_some_iff.1 hZb).1
  have g : ∀ j, j ≠ H.length + 1 → (Z.set (H.length + 1) ⟨0, tyCover, 1, [n, v']⟩)[j]? = Z[j]? := fun j hj => List.getElem?_set_ne (Ne.symm hj)
  exact ⟨(g _ (by omega)).trans hZs, (g _ (by omega)).trans hZr, List.getElem?_set_self hbl, ht.same (fun r hr _ => hr) fun j b hj hb => by rw [g j (by omega)]; exact hb, fun j hj hjp => by rw [g j (by omega), hf2 j hj]; exact h.fr j hj hjp⟩
end
end Go.Proofs.Ytnlfokkljgbaaaa
