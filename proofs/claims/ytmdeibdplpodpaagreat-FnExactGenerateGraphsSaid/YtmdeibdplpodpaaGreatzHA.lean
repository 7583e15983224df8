/- Lists of graphs: compared, marked, held. -/
import Derived.Test.YtmdeibdplpodpaaGreatzE4
import Derived.Test.YtmdeibdplpodpaaGreatzAv17
import Derived.Test.YtmdeibdplpodpaaGreatzL8
import Derived.Test.YtmdeibdplpodpaaGreatzK8
import Derived.Test.YtmdeibdplpodpaaGreatzK18
import Derived.Test.YtmdeibdplpodpaaGreatzK19
import Derived.Test.YtmdeibdplpodpaaGreatzU1
import Derived.Test.YtmdeibdplpodpaaGreatzSZ
import Derived.Test.YtmdeibdplpodpaaGreatzQZ
import Derived.Test.YtmdeibdplpodpaaGreatzE3
import Derived.Test.YtmdeibdplpodpaaGreatProg
import Derived.KernelRfl
set_option linter.unusedSimpArgs false
set_option linter.unusedVariables false
set_option maxHeartbeats 4000000
set_option maxRecDepth 100000
namespace Go.Proofs.YtmdeibdplpodpaaGreat
open Go.Av
abbrev Gr : Type := List Int × List (Int × Int)
def flatG (gs : List Gr) : List AV := gs.flatMap fun g => [ilS g.1, ilE g.2]
def ilG (gs : List Gr) : AV := .il gs.length (flatG gs)
theorem flatG_len : ∀ gs : List Gr, (flatG gs).length = 2 * gs.length
  | [] => rfl
  | g :: gs => by
    have := flatG_len gs
    simp only [flatG, List.flatMap_cons, List.length_append, List.length_cons, List.length_nil] at this ⊢
    omega
theorem flatG_get : ∀ (gs : List Gr) (j : Nat), j < gs.length → (flatG gs)[j * 2]? = some (ilS (gs.getD j ([], [])).1) ∧ (flatG gs)[j * 2 + 1]? = some (ilE (gs.getD j ([], [])).2)
  | [], _, h => by simp at h
  | g :: gs, 0, _ => ⟨rfl, rfl⟩
  | g :: gs, j + 1, h => by
    have := flatG_get gs j (by simpa using h)
    rw [show (j + 1) * 2 = j * 2 + 2 by omega]
    simpa [flatG] using this
structure RdG (H : List Blk) (a : AV) (cells : List AV) (gs : List Gr) : Prop where
  vw : aview H a = some (gs.length, cells)
  len : cells.length = 2 * gs.length
  cel : ∀ j, j < gs.length → ∃ u v, cells[j * 2]? = some u ∧ cells[j * 2 + 1]? = some v ∧ (u.cell1 = true ∧ partsOf u = [u]) ∧ (v.cell1 = true ∧ partsOf v = [v]) ∧ RdS H u (gs.getD j ([], [])).1 ∧ RdE H v (gs.getD j ([], [])).2
theorem rd_ilG (H : List Blk) (gs : List Gr) : RdG H (ilG gs) (flatG gs) gs := by
  refine ⟨rfl, flatG_len gs, fun j hj => ?_⟩
  obtain ⟨h1, h2⟩ := flatG_get gs j hj
  exact ⟨_, _, h1, h2, ⟨rfl, rfl⟩, ⟨rfl, rfl⟩, rd_ilS _ _, rd_ilE _ _⟩
theorem ldG {H : List Blk} {a : AV} {n j : Nat} {cells : List AV} {u v : AV} (hv : aview H a = some (n, cells)) (hu : cells[j * 2]? = some u) (hw : cells[j * 2 + 1]? = some v) : acells H 2 (.el a (j * 2)) = some [u, v] := by
  have h2 := (List.getElem?_eq_some_iff.1 hw).1
  simp only [acells, hv]
  rw [if_pos (by omega)]
  have e1 : cells.drop (j * 2) = u :: v :: cells.drop (j * 2 + 2) := by
    rw [List.drop_eq_getElem_cons (by omega), List.drop_eq_getElem_cons (by omega)]
    rw [(List.getElem?_eq_some_iff.1 hu).2, (List.getElem?_eq_some_iff.1 hw).2]
  rw [e1]; rfl
structure OwnGC (H : List Blk) (N : Nat → Prop) (M : Nat → Nat → Prop) (t ver ty : Nat) (cells : List AV) (gs : List Gr) : Prop where
  nt : N t
  tb : H[t]? = some ⟨ver, ty, 2, cells⟩
  len : cells.length = 2 * gs.length
  row : ∀ j, j < gs.length → ∃ u v, cells[j * 2]? = some u ∧ cells[j * 2 + 1]? = some v ∧ OwnS H (M (2 * j)) t u (gs.getD j ([], [])).1 ∧ OwnE H (M (2 * j + 1)) v (gs.getD j ([], [])).2
  own : ∀ j r, M j r → N r ∧ r ≠ t
  inj : ∀ i j r, M i r → M j r → i = j
theorem get_appB2' {l : List AV} {i : Nat} {a : AV} {m : List AV} (h : l[i]? = some a) : (l ++ m)[i]? = some a := by rw [List.getElem?_append_left (List.getElem?_eq_some_iff.1 h).1]; exact h
theorem OwnS.wkG {H : List Blk} {N N' : Nat → Prop} {t : Nat} {c : AV} {xs : List Int} (h : OwnS H N t c xs) (hN : ∀ r, N r → N' r) : OwnS H N' t c xs := by
  rcases h with ⟨r, ver, ty, hc, h1, h2, h3⟩ | h
  · exact .inl ⟨r, ver, ty, hc, hN r h1, h2, h3⟩
  · exact .inr h
theorem OwnS.oneG {H : List Blk} {N : Nat → Prop} {t : Nat} {c : AV} {xs : List Int} (h : OwnS H N t c xs) : c.cell1 = true ∧ partsOf c = [c] := by
  rcases h with ⟨r, ver, ty, rfl, _⟩ | ⟨_, rfl | rfl⟩ <;> exact ⟨rfl, rfl⟩
theorem view_nmG {H : List Blk} {r ver ty n : Nat} {cells : List AV} (h : H[r]? = some ⟨ver, ty, 2, cells⟩) (hn : cells.length = 2 * n) : aview H (.nm r ver 0 n) = some (n, cells) := by
  simp only [aview, h, if_true, List.drop_zero]
  rw [List.take_of_length_le (by omega)]
theorem OwnGC.rd {H : List Blk} {N : Nat → Prop} {M : Nat → Nat → Prop} {t ver ty : Nat} {cells : List AV} {gs : List Gr} (h : OwnGC H N M t ver ty cells gs) : RdG H (.nm t ver 0 gs.length) cells gs :=
  ⟨view_nmG h.tb h.len, h.len, fun j hj => by
    obtain ⟨u, v, h1, h2, h3, h4⟩ := h.row j hj
    exact ⟨u, v, h1, h2, h3.oneG, h4.one, h3.rd, h4.rd⟩⟩
theorem OwnGC.same {H H' : List Blk} {N : Nat → Prop} {M : Nat → Nat → Prop} {t ver ty : Nat} {cells : List AV} {gs : List Gr} (h : OwnGC H N M t ver ty cells gs) (hs : ∀ j b, N j → H[j]? = some b → H'[j]? = some b) : OwnGC H' N M t ver ty cells gs :=
  ⟨h.nt, hs _ _ h.nt h.tb, h.len, fun j hj => by
    obtain ⟨u, v, h1, h2, h3, h4⟩ := h.row j hj
    exact ⟨u, v, h1, h2, h3.same (fun r b q _ hb => hs r b (h.own _ r q).1 hb), h4.same (fun r b q hb => hs r b (h.own _ r q).1 hb)⟩, h.own, h.inj⟩
theorem OwnGC.mono {H : List Blk} {N N' : Nat → Prop} {M : Nat → Nat → Prop} {t ver ty : Nat} {cells : List AV} {gs : List Gr} (h : OwnGC H N M t ver ty cells gs) (hN : ∀ r, N r → N' r) : OwnGC H N' M t ver ty cells gs :=
  ⟨hN _ h.nt, h.tb, h.len, h.row, fun j r q => ⟨hN r (h.own j r q).1, (h.own j r q).2⟩, h.inj⟩
theorem OwnGC.upd {X Y : List Blk} {N : Nat → Prop} {M : Nat → Nat → Prop} {t ver ty : Nat} {cells : List AV} {gs : List Gr} (h : OwnGC X N M t ver ty cells gs) {i : Nat} {u v : AV} {xs : List Int} {es : List (Int × Int)}
    (hu : cells[i * 2]? = some u) (hv : cells[i * 2 + 1]? = some v) (hY : ∀ j, ¬ M (2 * i) j → ¬ M (2 * i + 1) j → Y[j]? = X[j]?) (ou : OwnS Y (M (2 * i)) t u xs) (ov : OwnE Y (M (2 * i + 1)) v es) : OwnGC Y N M t ver ty cells (gs.set i (xs, es)) := by
  refine ⟨h.nt, ?_, by rw [List.length_set]; exact h.len, fun j hj => ?_, h.own, h.inj⟩
  · rw [hY t (fun q => (h.own _ t q).2 rfl) (fun q => (h.own _ t q).2 rfl)]; exact h.tb
  · rw [List.length_set] at hj
    by_cases hij : i = j
    · subst hij
      rw [List.getD_eq_getElem?_getD, List.getElem?_set_self hj]
      exact ⟨u, v, hu, hv, ou, ov⟩
    · obtain ⟨u', v', h1, h2, h3, h4⟩ := h.row j hj
      rw [List.getD_eq_getElem?_getD, List.getElem?_set_ne hij, ← List.getD_eq_getElem?_getD]
      refine ⟨u', v', h1, h2, h3.same (fun r b q _ hb => ?_), h4.same (fun r b q hb => ?_)⟩
      · rw [hY r (fun q2 => by have := h.inj _ _ _ q q2; omega) (fun q2 => by have := h.inj _ _ _ q q2; omega)]; exact hb
      · rw [hY r (fun q2 => by have := h.inj _ _ _ q q2; omega) (fun q2 => by have := h.inj _ _ _ q q2; omega)]; exact hb
theorem OwnGC.put {X Z : List Blk} {N N' : Nat → Prop} {M : Nat → Nat → Prop} {Pu Pv : Nat → Prop} {t ver ty : Nat} {cells : List AV} {gs : List Gr} {u v : AV} {g : Gr} (h : OwnGC X N M t ver ty cells gs)
    (hN : ∀ r, N r → N' r) (hZ : ∀ j b, N j → X[j]? = some b → Z[j]? = some b) (ou : OwnS Z Pu t u g.1) (ov : OwnE Z Pv v g.2) (hPu : ∀ r, Pu r → N' r ∧ r ≠ t ∧ ∀ j, ¬ M j r) (hPv : ∀ r, Pv r → N' r ∧ r ≠ t ∧ ∀ j, ¬ M j r) (hd : ∀ r, Pu r → ¬ Pv r) :
    ∃ M', OwnGC (Z.set t ⟨ver + 1, ty, 2, cells ++ [u, v]⟩) N' M' t (ver + 1) ty (cells ++ [u, v]) (gs ++ [g]) := by
  have hZt := hZ t _ h.nt h.tb
  have hfr : ∀ (P : Nat → Prop), (∀ r, P r → r ≠ t) → ∀ r b, P r → Z[r]? = some b → (Z.set t ⟨ver + 1, ty, 2, cells ++ [u, v]⟩)[r]? = some b := fun P hP r b hr hb => by rw [List.getElem?_set_ne (Ne.symm (hP r hr))]; exact hb
  refine ⟨fun j r => (j < 2 * gs.length ∧ M j r) ∨ (j = 2 * gs.length ∧ Pu r) ∨ (j = 2 * gs.length + 1 ∧ Pv r), hN _ h.nt, List.getElem?_set_self (List.getElem?_eq_some_iff.1 hZt).1, by simp [h.len]; omega, fun j hj => ?_, ?_, ?_⟩
  · rw [List.length_append, List.length_cons, List.length_nil] at hj
    have hl := h.len
    by_cases hjl : j < gs.length
    · obtain ⟨u', v', h1, h2, h3, h4⟩ := h.row j hjl
      rw [List.getD_eq_getElem?_getD, List.getElem?_append_left hjl, ← List.getD_eq_getElem?_getD]
      refine ⟨u', v', get_appB2' h1, get_appB2' h2, ?_, ?_⟩
      · refine OwnS.wkG (h3.same (H' := Z.set t ⟨ver + 1, ty, 2, cells ++ [u, v]⟩) (fun r b q hrt hb => ?_)) (fun r q => .inl ⟨by omega, q⟩)
        rw [List.getElem?_set_ne (Ne.symm hrt)]; exact hZ r b (h.own _ r q).1 hb
      · refine OwnE.weak (h4.same (H' := Z.set t ⟨ver + 1, ty, 2, cells ++ [u, v]⟩) (fun r b q hb => ?_)) (fun r q _ => .inl ⟨by omega, q⟩)
        rw [List.getElem?_set_ne (Ne.symm (h.own _ r q).2)]; exact hZ r b (h.own _ r q).1 hb
    · have hje : j = gs.length := by omega
      subst hje
      rw [List.getD_eq_getElem?_getD, List.getElem?_append_right (Nat.le_refl _), Nat.sub_self]
      refine ⟨u, v, ?_, ?_, ?_, ?_⟩
      · rw [List.getElem?_append_right (by omega), show gs.length * 2 - cells.length = 0 by omega]; rfl
      · rw [List.getElem?_append_right (by omega), show gs.length * 2 + 1 - cells.length = 1 by omega]; rfl
      · exact OwnS.wkG (ou.same (H' := Z.set t ⟨ver + 1, ty, 2, cells ++ [u, v]⟩) (fun r b q hrt hb => hfr Pu (fun r q => (hPu r q).2.1) r b q hb)) (fun r q => .inr (.inl ⟨rfl, q⟩))
      · exact OwnE.weak (ov.same (H' := Z.set t ⟨ver + 1, ty, 2, cells ++ [u, v]⟩) (fun r b q hb => hfr Pv (fun r q => (hPv r q).2.1) r b q hb)) (fun r q _ => .inr (.inr ⟨rfl, q⟩))
  · rintro j r (⟨_, q⟩ | ⟨_, q⟩ | ⟨_, q⟩)
    · exact ⟨hN r (h.own j r q).1, (h.own j r q).2⟩
    · exact ⟨(hPu r q).1, (hPu r q).2.1⟩
    · exact ⟨(hPv r q).1, (hPv r q).2.1⟩
  · rintro i j r (⟨a1, q⟩ | ⟨a1, q⟩ | ⟨a1, q⟩) (⟨b1, p⟩ | ⟨b1, p⟩ | ⟨b1, p⟩)
    · exact h.inj i j r q p
    · exact absurd q ((hPu r p).2.2 i)
    · exact absurd q ((hPv r p).2.2 i)
    · exact absurd p ((hPu r q).2.2 j)
    · omega
    · exact absurd p (hd r q)
    · exact absurd p ((hPv r q).2.2 j)
    · exact absurd q (hd r p)
    · omega
end Go.Proofs.YtmdeibdplpodpaaGreat
namespace Go.Proofs.YtmdeibdplpodpaaGreat
open Go.Av
abbrev f_laws_eqGraphS : Nat := 16
def c_laws_eqGraphS : SC :=
 .seq (.reg [
     ⟨(some 4), .mv (.const (.bool false)), none⟩] [0, 1])
 (.seq (.seq (.reg [
     ⟨(some 6), .mv (.tmp 0), none⟩,
     ⟨(some 7), .len (.tmp 6), none⟩,
     ⟨(some 8), .mv (.tmp 1), none⟩,
     ⟨(some 9), .len (.tmp 8), none⟩,
     ⟨(some 10), .bin .neq (.tmp 7) (.tmp 9), none⟩] [0, 1, 10])
 (.cond (.tmp 10)
  (.seq (.reg [
      ⟨(some 4), .mv (.const (.bool false)), none⟩] [4])
  (.ret))
  (.skip)))
 (.seq (.seq (.reg [
     ⟨(some 5), .mv (.const (.int .i64 0)), none⟩] [0, 1, 5])
 (.block 0 (.loop [0, 1, 5]
   (.seq (.seq (.reg [
       ⟨(some 11), .mv (.tmp 5), none⟩,
       ⟨(some 12), .mv (.tmp 0), none⟩,
       ⟨(some 13), .len (.tmp 12), none⟩,
       ⟨(some 14), .bin .lss (.tmp 11) (.tmp 13), none⟩] [0, 1, 5, 14])
   (.cond (.tmp 14)
    (.skip)
    (.exit 0)))
   (.seq (.block 1 (.seq (.reg [
        ⟨(some 17), .mv (.tmp 0), none⟩,
        ⟨(some 18), .mv (.tmp 5), none⟩,
        ⟨(some 19), .iaddr 2 (.tmp 17) (.tmp 18), none⟩,
        ⟨(some 20), .load 2 true (.tmp 19), none⟩,
        ⟨(some 21), .mv (.tmp 1), none⟩,
        ⟨(some 22), .mv (.tmp 5), none⟩,
        ⟨(some 23), .iaddr 2 (.tmp 21) (.tmp 22), none⟩,
        ⟨(some 24), .load 2 true (.tmp 23), none⟩,
        ⟨(some 25), .qcall 9 [(.tmp 20), (.tmp 24)], none⟩,
        ⟨(some 26), .un .not (.tmp 25), none⟩] [0, 1, 5, 26])
    (.cond (.tmp 26)
     (.seq (.reg [
         ⟨(some 4), .mv (.const (.bool false)), none⟩] [4])
     (.ret))
     (.skip))))
   (.reg [
       ⟨(some 15), .mv (.tmp 5), none⟩,
       ⟨(some 16), .bin .add (.tmp 15) (.const (.int .i64 1)), none⟩,
       ⟨(some 5), .mv (.tmp 16), none⟩] [0, 1, 5]))))))
 (.seq (.reg [
     ⟨(some 4), .mv (.const (.bool true)), none⟩] [4])
 (.ret))))
theorem s_laws_eqGraphS : stripF Tryz.prog 16 [[0, 1], [0, 1, 10], [4], [0, 1, 5], [0, 1, 5], [0, 1, 5, 14], [0, 1, 5, 26], [4], [0, 1, 5], [4]] = some (c_laws_eqGraphS, [.tmp 4], 27) := by kernel_rfl
abbrev f_laws_markGraphS : Nat := 17
def c_laws_markGraphS : SC :=
 .seq (.reg [
     ⟨(some 4), .mv (.const (.int .i64 0)), none⟩] [0, 1])
 (.seq (.seq (.reg [
     ⟨(some 5), .mv (.const (.int .i64 0)), none⟩] [0, 1, 5])
 (.block 0 (.loop [0, 1, 5]
   (.seq (.seq (.reg [
       ⟨(some 6), .mv (.tmp 5), none⟩,
       ⟨(some 7), .mv (.tmp 0), none⟩,
       ⟨(some 8), .len (.tmp 7), none⟩,
       ⟨(some 9), .bin .lss (.tmp 6) (.tmp 8), none⟩] [0, 1, 5, 9])
   (.cond (.tmp 9)
    (.skip)
    (.exit 0)))
   (.seq (.block 1 (.seq (.reg [
        ⟨(some 12), .mv (.tmp 0), none⟩,
        ⟨(some 13), .mv (.tmp 5), none⟩,
        ⟨(some 14), .iaddr 2 (.tmp 12) (.tmp 13), none⟩,
        ⟨(some 15), .faddr 0 (.tmp 14), none⟩,
        ⟨(some 16), .load 1 false (.tmp 15), none⟩,
        ⟨(some 17), .mv (.tmp 1), none⟩,
        ⟨(some 18), .call 37 [(.tmp 16), (.tmp 17)], none⟩,
        ⟨(some 1), .mv (.tmp 18), none⟩] [0, 1, 5])
    (.reg [
        ⟨(some 19), .mv (.tmp 0), none⟩,
        ⟨(some 20), .mv (.tmp 5), none⟩,
        ⟨(some 21), .iaddr 2 (.tmp 19) (.tmp 20), none⟩,
        ⟨(some 22), .faddr 1 (.tmp 21), none⟩,
        ⟨(some 23), .load 1 false (.tmp 22), none⟩,
        ⟨(some 24), .mv (.tmp 1), none⟩,
        ⟨(some 25), .call 38 [(.tmp 23), (.tmp 24)], none⟩,
        ⟨(some 1), .mv (.tmp 25), none⟩] [0, 1, 5])))
   (.reg [
       ⟨(some 10), .mv (.tmp 5), none⟩,
       ⟨(some 11), .bin .add (.tmp 10) (.const (.int .i64 1)), none⟩,
       ⟨(some 5), .mv (.tmp 11), none⟩] [0, 1, 5]))))))
 (.seq (.reg [
     ⟨(some 26), .mv (.tmp 1), none⟩,
     ⟨(some 4), .mv (.tmp 26), none⟩] [4])
 (.ret)))
theorem s_laws_markGraphS : stripF Tryz.prog 17 [[0, 1], [0, 1, 5], [0, 1, 5], [0, 1, 5, 9], [0, 1, 5], [0, 1, 5], [0, 1, 5], [4]] = some (c_laws_markGraphS, [.tmp 4], 27) := by kernel_rfl
abbrev f_laws_heldGraphS : Nat := 18
def c_laws_heldGraphS : SC :=
 .seq (.reg [
     ⟨(some 4), .mv (.const (.int .i64 0)), none⟩] [0, 1])
 (.seq (.seq (.reg [
     ⟨(some 5), .mv (.const (.int .i64 0)), none⟩] [0, 1, 5])
 (.block 0 (.loop [0, 1, 5]
   (.seq (.seq (.reg [
       ⟨(some 6), .mv (.tmp 5), none⟩,
       ⟨(some 7), .mv (.tmp 0), none⟩,
       ⟨(some 8), .len (.tmp 7), none⟩,
       ⟨(some 9), .bin .lss (.tmp 6) (.tmp 8), none⟩] [0, 1, 5, 9])
   (.cond (.tmp 9)
    (.skip)
    (.exit 0)))
   (.seq (.block 1 (.seq (.reg [
        ⟨(some 12), .mv (.tmp 0), none⟩,
        ⟨(some 13), .mv (.tmp 5), none⟩,
        ⟨(some 14), .iaddr 2 (.tmp 12) (.tmp 13), none⟩,
        ⟨(some 15), .faddr 0 (.tmp 14), none⟩,
        ⟨(some 16), .load 1 false (.tmp 15), none⟩,
        ⟨(some 17), .mv (.tmp 1), none⟩,
        ⟨(some 18), .call 39 [(.tmp 16), (.tmp 17)], none⟩,
        ⟨(some 1), .mv (.tmp 18), none⟩] [0, 1, 5])
    (.seq (.seq (.reg [
        ⟨(some 19), .mv (.tmp 1), none⟩,
        ⟨(some 20), .bin .lss (.tmp 19) (.const (.int .i64 0)), none⟩] [0, 1, 5, 20])
    (.cond (.tmp 20)
     (.seq (.reg [
         ⟨(some 4), .mv (.const (.int .i64 (-1))), none⟩] [4])
     (.ret))
     (.skip)))
    (.seq (.reg [
        ⟨(some 21), .mv (.tmp 0), none⟩,
        ⟨(some 22), .mv (.tmp 5), none⟩,
        ⟨(some 23), .iaddr 2 (.tmp 21) (.tmp 22), none⟩,
        ⟨(some 24), .faddr 1 (.tmp 23), none⟩,
        ⟨(some 25), .load 1 false (.tmp 24), none⟩,
        ⟨(some 26), .mv (.tmp 1), none⟩,
        ⟨(some 27), .call 40 [(.tmp 25), (.tmp 26)], none⟩,
        ⟨(some 1), .mv (.tmp 27), none⟩] [0, 1, 5])
    (.seq (.reg [
        ⟨(some 28), .mv (.tmp 1), none⟩,
        ⟨(some 29), .bin .lss (.tmp 28) (.const (.int .i64 0)), none⟩] [0, 1, 5, 29])
    (.cond (.tmp 29)
     (.seq (.reg [
         ⟨(some 4), .mv (.const (.int .i64 (-1))), none⟩] [4])
     (.ret))
     (.skip)))))))
   (.reg [
       ⟨(some 10), .mv (.tmp 5), none⟩,
       ⟨(some 11), .bin .add (.tmp 10) (.const (.int .i64 1)), none⟩,
       ⟨(some 5), .mv (.tmp 11), none⟩] [0, 1, 5]))))))
 (.seq (.reg [
     ⟨(some 30), .mv (.tmp 1), none⟩,
     ⟨(some 4), .mv (.tmp 30), none⟩] [4])
 (.ret)))
theorem s_laws_heldGraphS : stripF Tryz.prog 18 [[0, 1], [0, 1, 5], [0, 1, 5], [0, 1, 5, 9], [0, 1, 5], [0, 1, 5, 20], [4], [0, 1, 5], [0, 1, 5, 29], [4], [0, 1, 5], [4]] = some (c_laws_heldGraphS, [.tmp 4], 31) := by kernel_rfl
def sizeG : List Gr → Nat
  | [] => 0
  | g :: r => g.1.length + 2 * g.2.length + sizeG r
def numG : Int → List Gr → List Gr
  | _, [] => []
  | k, g :: r => (nums k g.1.length, numsE (k + g.1.length) g.2.length) :: numG (k + g.1.length + 2 * g.2.length) r
theorem numG_len : ∀ (k : Int) (gs : List Gr), (numG k gs).length = gs.length
  | _, [] => rfl
  | k, g :: r => by simp [numG, numG_len _ r]
theorem sizeG_app : ∀ a b : List Gr, sizeG (a ++ b) = sizeG a + sizeG b
  | [], b => by simp [sizeG]
  | g :: a, b => by
    have := sizeG_app a b
    simp only [List.cons_append, sizeG]; omega
theorem numG_app : ∀ (k : Int) (a b : List Gr), numG k (a ++ b) = numG k a ++ numG (k + sizeG a) b
  | k, [], b => by simp [numG, sizeG]
  | k, g :: a, b => by
    have := numG_app (k + g.1.length + 2 * g.2.length) a b
    simp only [List.cons_append, numG, sizeG, this]
    rw [show k + (g.1.length : Int) + 2 * (g.2.length : Int) + (sizeG a : Int) = k + ((g.1.length + 2 * g.2.length + sizeG a : Nat) : Int) by omega]
theorem numG_snoc (k : Int) (a : List Gr) (g : Gr) : numG k (a ++ [g]) = numG k a ++ [(nums (k + sizeG a) g.1.length, numsE (k + sizeG a + g.1.length) g.2.length)] := by rw [numG_app]; rfl
theorem sizeG_snoc (a : List Gr) (g : Gr) : sizeG (a ++ [g]) = sizeG a + (g.1.length + 2 * g.2.length) := by rw [sizeG_app]; simp [sizeG]
theorem numG_get (k : Int) (pre : List Gr) (g : Gr) (post : List Gr) : (numG k (pre ++ g :: post)).getD pre.length ([], []) = (nums (k + sizeG pre) g.1.length, numsE (k + sizeG pre + g.1.length) g.2.length) := by
  rw [numG_app, List.getD_eq_getElem?_getD, List.getElem?_append_right (by rw [numG_len]; exact Nat.le_refl _), numG_len, Nat.sub_self]; rfl
theorem midG (a : List Gr) (g : Gr) (b : List Gr) (n : Nat) (hn : n = a.length) : (a ++ g :: b).getD n ([], []) = g := by
  subst hn; rw [List.getD_eq_getElem?_getD, List.getElem?_append_right (Nat.le_refl _), Nat.sub_self]; rfl
def okG (gs : List Gr) : Prop := ∀ g ∈ gs, g.1.length ≤ 1000 ∧ g.2.length ≤ 1000
theorem eqGraphS_ok (H : List Blk) (a b : AV) (c1 c2 : List AV) (gs : List Gr) (ha : RdG H a c1 gs) (hb : RdG H b c2 gs) (ho : okG gs) (hl : gs.length ≤ 1000000000) : ACalls Tryz.prog f_laws_eqGraphS [a, b] H (fun r H' => r = Bv true ∧ H' = H) := by
  have va := ha.vw
  have vb := hb.vw
  refine ACalls.introB s_laws_eqGraphS (by simp) ?_; intro hB hA; unfold c_laws_eqGraphS; simp (config := { maxSteps := 1000000 }) (disch := (first | omega | (simp only [go_sem]; try omega))) only [go_sem, Nat.reduceAdd, Nat.reduceEqDiff, Nat.reduceLeDiff, Nat.reduceMul, Nat.reduceLT, reduceIte, Int.reduceToNat, w64_id, cast_succ]
  repeat (first | (with_reducible first | refine SW.seq ?_ | refine SW.block ?_ | refine SW.rowC ?_ | refine SW.skip ?_ | refine SW.exit ?_ | intro _ | refine And.intro (by omega) ?_) | simp (config := { maxSteps := 1000000 }) (disch := (first | omega | (simp only [go_sem]; try omega))) only [go_sem, Nat.reduceAdd, Nat.reduceEqDiff, Nat.reduceLeDiff, Nat.reduceMul, Nat.reduceLT, reduceIte, Int.reduceToNat, w64_id, cast_succ, va, vb])
  refine SW.condF rfl ?_
  repeat (first | (with_reducible first | refine SW.seq ?_ | refine SW.block ?_ | refine SW.rowC ?_ | refine SW.skip ?_ | refine SW.exit ?_ | intro _ | refine And.intro (by omega) ?_) | simp (config := { maxSteps := 1000000 }) (disch := (first | omega | (simp only [go_sem]; try omega))) only [go_sem, Nat.reduceAdd, Nat.reduceEqDiff, Nat.reduceLeDiff, Nat.reduceMul, Nat.reduceLT, reduceIte, Int.reduceToNat, w64_id, cast_succ])
  refine SW.loopE (fun E0 H0 q E' Y => ∃ pre post, gs = pre ++ post ∧ q = post.length ∧ E' = aput E0 5 (I pre.length) ∧ Y = H) gs.length ⟨[], gs, rfl, rfl, rfl, rfl⟩ ?_
  rintro q E' Y ⟨pre, post, hq, rfl, rfl, rfl⟩
  simp (config := { maxSteps := 1000000 }) (disch := (first | omega | (simp only [go_sem]; try omega))) only [go_sem, Nat.reduceAdd, Nat.reduceEqDiff, Nat.reduceLeDiff, Nat.reduceMul, Nat.reduceLT, reduceIte, Int.reduceToNat, w64_id, cast_succ]
  repeat (first | (with_reducible first | refine SW.seq ?_ | refine SW.block ?_ | refine SW.rowC ?_ | refine SW.skip ?_ | refine SW.exit ?_ | intro _ | refine And.intro (by omega) ?_) | simp (config := { maxSteps := 1000000 }) (disch := (first | omega | (simp only [go_sem]; try omega))) only [go_sem, Nat.reduceAdd, Nat.reduceEqDiff, Nat.reduceLeDiff, Nat.reduceMul, Nat.reduceLT, reduceIte, Int.reduceToNat, w64_id, cast_succ, va, vb])
  (first | refine SW.condD rfl (fun h3 => ?_) (fun h3 => ?_) | refine SW.condN rfl (fun h3 => ?_) (fun h3 => ?_) | refine SW.condNB rfl (fun h3 => ?_) (fun h3 => ?_) | refine SW.condB rfl (fun h3 => ?_) (fun h3 => ?_))
  · obtain ⟨g, post, rfl, hg, -⟩ := consOf (d := ([], [])) hq (by omega)
    obtain ⟨u, v, u1, u2, u3, u4, u5, u6⟩ := ha.cel pre.length (by omega)
    obtain ⟨x, y, x1, x2, x3, x4, x5, x6⟩ := hb.cel pre.length (by omega)
    rw [hg] at u5 u6 x5 x6
    have l1 := ldG va u1 u2
    have l2 := ldG vb x1 x2
    obtain ⟨o1, o2⟩ := ho g (by rw [hq]; simp)
    repeat (first | (with_reducible first | refine SW.seq ?_ | refine SW.block ?_ | refine SW.rowC ?_ | refine SW.skip ?_ | refine SW.exit ?_ | intro _ | refine And.intro (by omega) ?_) | simp (config := { maxSteps := 1000000 }) (disch := (first | omega | (simp only [go_sem]; try omega))) only [go_sem, Nat.reduceAdd, Nat.reduceEqDiff, Nat.reduceLeDiff, Nat.reduceMul, Nat.reduceLT, reduceIte, Int.reduceToNat, w64_id, cast_succ, va, vb, l1, l2, u3.1, u3.2, u4.1, u4.2, x3.1, x3.2, x4.1, x4.2])
    refine QcallW.of (fun ext => eqGraph_ok _ u x v y g.1 g.1 g.2 g.2 u3.1 x3.1 u4.1 x4.1 (aview_append u5 ext) (aview_append x5 ext) (u6.append ext) (x6.append ext) (by omega)) ?_
    rw [show (decide (g.1 = g.1) && decide (g.2 = g.2)) = true by simp]
    repeat (first | (with_reducible first | refine SW.seq ?_ | refine SW.block ?_ | refine SW.rowC ?_ | refine SW.skip ?_ | refine SW.exit ?_ | intro _ | refine And.intro (by omega) ?_) | simp (config := { maxSteps := 1000000 }) (disch := (first | omega | (simp only [go_sem]; try omega))) only [go_sem, Nat.reduceAdd, Nat.reduceEqDiff, Nat.reduceLeDiff, Nat.reduceMul, Nat.reduceLT, reduceIte, Int.reduceToNat, w64_id, cast_succ])
    refine SW.condF rfl ?_
    repeat (first | (with_reducible first | refine SW.seq ?_ | refine SW.block ?_ | refine SW.rowC ?_ | refine SW.skip ?_ | refine SW.exit ?_ | intro _ | refine And.intro (by omega) ?_) | simp (config := { maxSteps := 1000000 }) (disch := (first | omega | (simp only [go_sem]; try omega))) only [go_sem, Nat.reduceAdd, Nat.reduceEqDiff, Nat.reduceLeDiff, Nat.reduceMul, Nat.reduceLT, reduceIte, Int.reduceToNat, w64_id, cast_succ])
    exact SLoop.next post.length (by simp) ⟨pre ++ [g], post, by simp [hq], rfl, by simp [go_sem], rfl⟩
  · obtain ⟨rfl, rfl⟩ := nilOf hq (by omega)
    repeat (first | (with_reducible first | refine SW.seq ?_ | refine SW.block ?_ | refine SW.rowC ?_ | refine SW.skip ?_ | refine SW.exit ?_ | intro _ | refine And.intro (by omega) ?_) | simp (config := { maxSteps := 1000000 }) (disch := (first | omega | (simp only [go_sem]; try omega))) only [go_sem, Nat.reduceAdd, Nat.reduceEqDiff, Nat.reduceLeDiff, Nat.reduceMul, Nat.reduceLT, reduceIte, Int.reduceToNat, w64_id, cast_succ])
    refine SW.ret ?_; (try simp only [go_sem]); (first | refine FunPost.one ?_ | refine FunPost.two ?_ | refine FunPost.three ?_); (try simp (config := { maxSteps := 1000000 }) (disch := (first | omega | (simp only [go_sem]; try omega))) only [go_sem, Nat.reduceAdd, Nat.reduceEqDiff, Nat.reduceLeDiff, Nat.reduceMul, Nat.reduceLT, reduceIte, Int.reduceToNat, w64_id, cast_succ]); (first | (with_reducible refine GR.drop ?_ ?_; (simp only [go_sem, and_self, and_true, true_and, implies_true, List.take_succ_cons, List.take_zero])) | refine GR.of ?_); refine ⟨?_, rfl⟩; (try with_reducible rfl)
theorem markGraphS_ok (H : List Blk) (N : Nat → Prop) (M : Nat → Nat → Prop) (t ver ty : Nat) (cells : List AV) (gs : List Gr) (k : Int) (ho : OwnGC H N M t ver ty cells gs) (hk0 : 0 ≤ k) (hk : k + sizeG gs ≤ 4000000000000) (hg : okG gs) (hl : gs.length ≤ 1000000000) :
    ACalls Tryz.prog f_laws_markGraphS [.nm t ver 0 gs.length, I k] H (fun r H' => r = I (k + sizeG gs) ∧ OwnGC H' N M t ver ty cells (numG k gs) ∧ H'.length = H.length ∧ ∀ j, ¬ N j → H'[j]? = H[j]?) := by
  have va := ho.rd.vw
  refine ACalls.introB s_laws_markGraphS (by simp) ?_; intro hB hA; unfold c_laws_markGraphS; simp (config := { maxSteps := 1000000 }) (disch := (first | omega | (simp only [go_sem]; try omega))) only [go_sem, Nat.reduceAdd, Nat.reduceEqDiff, Nat.reduceLeDiff, Nat.reduceMul, Nat.reduceLT, reduceIte, Int.reduceToNat, w64_id, cast_succ]
  repeat (first | (with_reducible first | refine SW.seq ?_ | refine SW.block ?_ | refine SW.rowC ?_ | refine SW.skip ?_ | refine SW.exit ?_ | intro _ | refine And.intro (by omega) ?_) | simp (config := { maxSteps := 1000000 }) (disch := (first | omega | (simp only [go_sem]; try omega))) only [go_sem, Nat.reduceAdd, Nat.reduceEqDiff, Nat.reduceLeDiff, Nat.reduceMul, Nat.reduceLT, reduceIte, Int.reduceToNat, w64_id, cast_succ, va])
  refine SW.loopE (fun E0 H0 q E' Y => ∃ pre post, gs = pre ++ post ∧ q = post.length ∧ E' = aput (aput E0 5 (I pre.length)) 1 (I (k + sizeG pre)) ∧ OwnGC Y N M t ver ty cells (numG k pre ++ post) ∧ Y.length = H.length ∧ ∀ j, ¬ N j → Y[j]? = H[j]?) gs.length ⟨[], gs, rfl, rfl, by simp [go_sem, sizeG], ho, rfl, fun _ _ => rfl⟩ ?_
  rintro q E' Y ⟨pre, post, hq, rfl, rfl, hO, hYl, hYf⟩
  have hsz := sizeG_app pre post
  rw [← hq] at hsz
  have hnl : (numG k pre ++ post).length = gs.length := by rw [List.length_append, numG_len, hq, List.length_append]
  have vy := hO.rd.vw
  rw [hnl] at vy
  simp (config := { maxSteps := 1000000 }) (disch := (first | omega | (simp only [go_sem]; try omega))) only [go_sem, Nat.reduceAdd, Nat.reduceEqDiff, Nat.reduceLeDiff, Nat.reduceMul, Nat.reduceLT, reduceIte, Int.reduceToNat, w64_id, cast_succ]
  repeat (first | (with_reducible first | refine SW.seq ?_ | refine SW.block ?_ | refine SW.rowC ?_ | refine SW.skip ?_ | refine SW.exit ?_ | intro _ | refine And.intro (by omega) ?_) | simp (config := { maxSteps := 1000000 }) (disch := (first | omega | (simp only [go_sem]; try omega))) only [go_sem, Nat.reduceAdd, Nat.reduceEqDiff, Nat.reduceLeDiff, Nat.reduceMul, Nat.reduceLT, reduceIte, Int.reduceToNat, w64_id, cast_succ, vy])
  (first | refine SW.condD rfl (fun h3 => ?_) (fun h3 => ?_) | refine SW.condN rfl (fun h3 => ?_) (fun h3 => ?_) | refine SW.condNB rfl (fun h3 => ?_) (fun h3 => ?_) | refine SW.condB rfl (fun h3 => ?_) (fun h3 => ?_))
  · obtain ⟨g, post, rfl, hgg, -⟩ := consOf (d := ([], [])) hq (by omega)
    obtain ⟨u, v, u1, u2, ou, ov⟩ := hO.row pre.length (by omega)
    rw [midG _ _ _ _ (numG_len k pre).symm] at ou ov
    obtain ⟨o1, o2⟩ := hg g (by rw [hq]; simp)
    have l1 := ldG vy u1 u2
    simp only [sizeG] at hsz
    repeat (first | (with_reducible first | refine SW.seq ?_ | refine SW.block ?_ | refine SW.rowC ?_ | refine SW.skip ?_ | refine SW.exit ?_ | intro _ | refine And.intro (by omega) ?_) | simp (config := { maxSteps := 1000000 }) (disch := (first | omega | (simp only [go_sem]; try omega))) only [go_sem, Nat.reduceAdd, Nat.reduceEqDiff, Nat.reduceLeDiff, Nat.reduceMul, Nat.reduceLT, reduceIte, Int.reduceToNat, w64_id, cast_succ, vy, l1, u1, u2, ou.oneG.1, ou.oneG.2, ov.one.1, ov.one.2])
    refine (markS_ok _ _ _ u g.1 _ ou (by omega) (by omega)).mono ?_
    rintro r Y2 ⟨rfl, ou2, hl2, hf2⟩
    have vy2 : aview Y2 (.nm t ver 0 gs.length) = some (gs.length, cells) := view_nmG ((hf2 t (fun q => (hO.own _ t q).2 rfl)).trans hO.tb) (by rw [hO.len, hnl])
    have ov2 := ov.same (H' := Y2) (fun j b hj hb => by rw [hf2 j (fun q => by have := hO.inj _ _ _ q hj; omega)]; exact hb)
    repeat (first | (with_reducible first | refine SW.seq ?_ | refine SW.block ?_ | refine SW.rowC ?_ | refine SW.skip ?_ | refine SW.exit ?_ | intro _ | refine And.intro (by omega) ?_) | simp (config := { maxSteps := 1000000 }) (disch := (first | omega | (simp only [go_sem]; try omega))) only [go_sem, Nat.reduceAdd, Nat.reduceEqDiff, Nat.reduceLeDiff, Nat.reduceMul, Nat.reduceLT, reduceIte, Int.reduceToNat, w64_id, cast_succ, vy2, u2, ov.one.1, ov.one.2])
    refine (markEdgeS_ok _ _ v g.2 _ ov2 (by omega) (by omega) (by omega)).mono ?_
    rintro r Y3 ⟨rfl, ov3, hl3, hf3⟩
    repeat (first | (with_reducible first | refine SW.seq ?_ | refine SW.block ?_ | refine SW.rowC ?_ | refine SW.skip ?_ | refine SW.exit ?_ | intro _ | refine And.intro (by omega) ?_) | simp (config := { maxSteps := 1000000 }) (disch := (first | omega | (simp only [go_sem]; try omega))) only [go_sem, Nat.reduceAdd, Nat.reduceEqDiff, Nat.reduceLeDiff, Nat.reduceMul, Nat.reduceLT, reduceIte, Int.reduceToNat, w64_id, cast_succ])
    have hu := hO.upd u1 u2 (Y := Y3) (fun j h1 h2 => (hf3 j h2).trans (hf2 j h1)) (ou2.same (fun r b q _ hb => by rw [hf3 r (fun q2 => by have := hO.inj _ _ _ q q2; omega)]; exact hb)) ov3
    have hst : (numG k pre ++ g :: post).set pre.length (nums (k + sizeG pre) g.1.length, numsE (k + sizeG pre + g.1.length) g.2.length) = numG k (pre ++ [g]) ++ post := by
      rw [numG_snoc, List.set_append_right _ _ (by rw [numG_len]; exact Nat.le_refl _), numG_len, Nat.sub_self, List.set_cons_zero, List.append_assoc]; rfl
    rw [hst] at hu
    have hsn := sizeG_snoc pre g
    refine SLoop.next post.length (by simp) ⟨pre ++ [g], post, by simp [hq], rfl, ?_, hu, by omega, fun j hj => ?_⟩
    · rw [hsn, show k + (sizeG pre : Int) + (g.1.length : Int) + 2 * (g.2.length : Int) = k + ((sizeG pre + (g.1.length + 2 * g.2.length) : Nat) : Int) by omega]
      simp [go_sem]
    · rw [hf3 j (fun q => hj (hO.own _ j q).1), hf2 j (fun q => hj (hO.own _ j q).1)]; exact hYf j hj
  · obtain ⟨rfl, rfl⟩ := nilOf hq (by omega)
    rw [List.append_nil] at hO
    repeat (first | (with_reducible first | refine SW.seq ?_ | refine SW.block ?_ | refine SW.rowC ?_ | refine SW.skip ?_ | refine SW.exit ?_ | intro _ | refine And.intro (by omega) ?_) | simp (config := { maxSteps := 1000000 }) (disch := (first | omega | (simp only [go_sem]; try omega))) only [go_sem, Nat.reduceAdd, Nat.reduceEqDiff, Nat.reduceLeDiff, Nat.reduceMul, Nat.reduceLT, reduceIte, Int.reduceToNat, w64_id, cast_succ])
    refine SW.ret ?_; (try simp only [go_sem]); (first | refine FunPost.one ?_ | refine FunPost.two ?_ | refine FunPost.three ?_); (try simp (config := { maxSteps := 1000000 }) (disch := (first | omega | (simp only [go_sem]; try omega))) only [go_sem, Nat.reduceAdd, Nat.reduceEqDiff, Nat.reduceLeDiff, Nat.reduceMul, Nat.reduceLT, reduceIte, Int.reduceToNat, w64_id, cast_succ])
    exact GR.of ⟨rfl, hO, hYl, hYf⟩
theorem heldGraphS_ok (H : List Blk) (a : AV) (cells : List AV) (gs : List Gr) (k : Int) (ha : RdG H a cells (numG k gs)) (hk0 : 0 ≤ k) (hk : k + sizeG gs ≤ 4000000000000) (hg : okG gs) (hl : gs.length ≤ 1000000000) :
    ACalls Tryz.prog f_laws_heldGraphS [a, I k] H (fun r H' => r = I (k + sizeG gs) ∧ H' = H) := by
  have va := ha.vw
  rw [numG_len] at va
  refine ACalls.introB s_laws_heldGraphS (by simp) ?_; intro hB hA; unfold c_laws_heldGraphS; simp (config := { maxSteps := 1000000 }) (disch := (first | omega | (simp only [go_sem]; try omega))) only [go_sem, Nat.reduceAdd, Nat.reduceEqDiff, Nat.reduceLeDiff, Nat.reduceMul, Nat.reduceLT, reduceIte, Int.reduceToNat, w64_id, cast_succ]
  repeat (first | (with_reducible first | refine SW.seq ?_ | refine SW.block ?_ | refine SW.rowC ?_ | refine SW.skip ?_ | refine SW.exit ?_ | intro _ | refine And.intro (by omega) ?_) | simp (config := { maxSteps := 1000000 }) (disch := (first | omega | (simp only [go_sem]; try omega))) only [go_sem, Nat.reduceAdd, Nat.reduceEqDiff, Nat.reduceLeDiff, Nat.reduceMul, Nat.reduceLT, reduceIte, Int.reduceToNat, w64_id, cast_succ, va])
  refine SW.loopE (fun E0 H0 q E' Y => ∃ pre post, gs = pre ++ post ∧ q = post.length ∧ E' = aput (aput E0 5 (I pre.length)) 1 (I (k + sizeG pre)) ∧ Y = H) gs.length ⟨[], gs, rfl, rfl, by simp [go_sem, sizeG], rfl⟩ ?_
  rintro q E' Y ⟨pre, post, hq, rfl, rfl, rfl⟩
  have hsz := sizeG_app pre post
  rw [← hq] at hsz
  simp (config := { maxSteps := 1000000 }) (disch := (first | omega | (simp only [go_sem]; try omega))) only [go_sem, Nat.reduceAdd, Nat.reduceEqDiff, Nat.reduceLeDiff, Nat.reduceMul, Nat.reduceLT, reduceIte, Int.reduceToNat, w64_id, cast_succ]
  repeat (first | (with_reducible first | refine SW.seq ?_ | refine SW.block ?_ | refine SW.rowC ?_ | refine SW.skip ?_ | refine SW.exit ?_ | intro _ | refine And.intro (by omega) ?_) | simp (config := { maxSteps := 1000000 }) (disch := (first | omega | (simp only [go_sem]; try omega))) only [go_sem, Nat.reduceAdd, Nat.reduceEqDiff, Nat.reduceLeDiff, Nat.reduceMul, Nat.reduceLT, reduceIte, Int.reduceToNat, w64_id, cast_succ, va])
  (first | refine SW.condD rfl (fun h3 => ?_) (fun h3 => ?_) | refine SW.condN rfl (fun h3 => ?_) (fun h3 => ?_) | refine SW.condNB rfl (fun h3 => ?_) (fun h3 => ?_) | refine SW.condB rfl (fun h3 => ?_) (fun h3 => ?_))
  · obtain ⟨g, post, rfl, hgg, -⟩ := consOf (d := ([], [])) hq (by omega)
    obtain ⟨u, v, u1, u2, u3, u4, u5, u6⟩ := ha.cel pre.length (by rw [numG_len]; omega)
    rw [hq, numG_get] at u5 u6
    obtain ⟨o1, o2⟩ := hg g (by rw [hq]; simp)
    have l1 := ldG va u1 u2
    simp only [sizeG] at hsz
    repeat (first | (with_reducible first | refine SW.seq ?_ | refine SW.block ?_ | refine SW.rowC ?_ | refine SW.skip ?_ | refine SW.exit ?_ | intro _ | refine And.intro (by omega) ?_) | simp (config := { maxSteps := 1000000 }) (disch := (first | omega | (simp only [go_sem]; try omega))) only [go_sem, Nat.reduceAdd, Nat.reduceEqDiff, Nat.reduceLeDiff, Nat.reduceMul, Nat.reduceLT, reduceIte, Int.reduceToNat, w64_id, cast_succ, va, l1, u1, u2, u3.1, u3.2, u4.1, u4.2])
    refine ACalls.fn (heldInt64S_ok _ u g.1.length _ u5 (by omega) (by omega)) ?_
    have d1 : decide (k + (sizeG pre : Int) + (g.1.length : Int) < 0) = false := decide_eq_false (by omega)
    have d2 : decide (k + (sizeG pre : Int) + (g.1.length : Int) + 2 * (g.2.length : Int) < 0) = false := decide_eq_false (by omega)
    repeat (first | (with_reducible first | refine SW.seq ?_ | refine SW.block ?_ | refine SW.rowC ?_ | refine SW.skip ?_ | refine SW.exit ?_ | intro _ | refine And.intro (by omega) ?_) | simp (config := { maxSteps := 1000000 }) (disch := (first | omega | (simp only [go_sem]; try omega))) only [go_sem, Nat.reduceAdd, Nat.reduceEqDiff, Nat.reduceLeDiff, Nat.reduceMul, Nat.reduceLT, reduceIte, Int.reduceToNat, w64_id, cast_succ, d1])
    refine SW.condF rfl ?_
    repeat (first | (with_reducible first | refine SW.seq ?_ | refine SW.block ?_ | refine SW.rowC ?_ | refine SW.skip ?_ | refine SW.exit ?_ | intro _ | refine And.intro (by omega) ?_) | simp (config := { maxSteps := 1000000 }) (disch := (first | omega | (simp only [go_sem]; try omega))) only [go_sem, Nat.reduceAdd, Nat.reduceEqDiff, Nat.reduceLeDiff, Nat.reduceMul, Nat.reduceLT, reduceIte, Int.reduceToNat, w64_id, cast_succ, va, l1, u1, u2, u3.1, u3.2, u4.1, u4.2])
    refine ACalls.fn (heldEdgeS_ok _ v g.2.length _ u6 (by omega) (by omega) (by omega)) ?_
    repeat (first | (with_reducible first | refine SW.seq ?_ | refine SW.block ?_ | refine SW.rowC ?_ | refine SW.skip ?_ | refine SW.exit ?_ | intro _ | refine And.intro (by omega) ?_) | simp (config := { maxSteps := 1000000 }) (disch := (first | omega | (simp only [go_sem]; try omega))) only [go_sem, Nat.reduceAdd, Nat.reduceEqDiff, Nat.reduceLeDiff, Nat.reduceMul, Nat.reduceLT, reduceIte, Int.reduceToNat, w64_id, cast_succ, d2])
    refine SW.condF rfl ?_
    repeat (first | (with_reducible first | refine SW.seq ?_ | refine SW.block ?_ | refine SW.rowC ?_ | refine SW.skip ?_ | refine SW.exit ?_ | intro _ | refine And.intro (by omega) ?_) | simp (config := { maxSteps := 1000000 }) (disch := (first | omega | (simp only [go_sem]; try omega))) only [go_sem, Nat.reduceAdd, Nat.reduceEqDiff, Nat.reduceLeDiff, Nat.reduceMul, Nat.reduceLT, reduceIte, Int.reduceToNat, w64_id, cast_succ])
    have hsn := sizeG_snoc pre g
    refine SLoop.next post.length (by simp) ⟨pre ++ [g], post, by simp [hq], rfl, ?_, rfl⟩
    rw [hsn, show k + (sizeG pre : Int) + (g.1.length : Int) + 2 * (g.2.length : Int) = k + ((sizeG pre + (g.1.length + 2 * g.2.length) : Nat) : Int) by omega]
    simp [go_sem]
  · obtain ⟨rfl, rfl⟩ := nilOf hq (by omega)
    repeat (first | (with_reducible first | refine SW.seq ?_ | refine SW.block ?_ | refine SW.rowC ?_ | refine SW.skip ?_ | refine SW.exit ?_ | intro _ | refine And.intro (by omega) ?_) | simp (config := { maxSteps := 1000000 }) (disch := (first | omega | (simp only [go_sem]; try omega))) only [go_sem, Nat.reduceAdd, Nat.reduceEqDiff, Nat.reduceLeDiff, Nat.reduceMul, Nat.reduceLT, reduceIte, Int.reduceToNat, w64_id, cast_succ])
    refine SW.ret ?_; (try simp only [go_sem]); (first | refine FunPost.one ?_ | refine FunPost.two ?_ | refine FunPost.three ?_); (try simp (config := { maxSteps := 1000000 }) (disch := (first | omega | (simp only [go_sem]; try omega))) only [go_sem, Nat.reduceAdd, Nat.reduceEqDiff, Nat.reduceLeDiff, Nat.reduceMul, Nat.reduceLT, reduceIte, Int.reduceToNat, w64_id, cast_succ]); (first | (with_reducible refine GR.drop ?_ ?_; (simp only [go_sem, and_self, and_true, true_and, implies_true, List.take_succ_cons, List.take_zero])) | refine GR.of ?_); refine ⟨?_, rfl⟩; (try with_reducible rfl)
end Go.Proofs.YtmdeibdplpodpaaGreat
