/- Tables of truth values that grow. -/
import Derived.Test.YtflnjgeoegofdaazMB
set_option linter.unusedSimpArgs false
set_option linter.unusedVariables false
set_option maxHeartbeats 4000000
set_option maxRecDepth 100000
namespace Go.Proofs.Ytflnjgeoegofdaa
open Go.Av
abbrev tyBT : Nat := 48
def tI : AV → Option Nat
  | .nm t _ _ _ => some t
  | _ => none
def rowF (n : Nat) : Blk := ⟨0, 4, 1, (List.replicate n false).map Bv⟩
def GrP (H : List Blk) (L : Nat) (v : AV) (n : Nat) (rs : List Nat) : Prop :=
  (rs = [] ∧ v = nilS) ∨ ∃ t ver, v = .nm t ver 0 rs.length ∧ L ≤ t ∧ H[t]? = some ⟨ver, tyBT, 1, rs.map fun r => AV.nm r 0 0 n⟩
theorem GrP.same {X Y : List Blk} {L n : Nat} {v : AV} {rs : List Nat} (h : GrP X L v n rs) (hs : ∀ (t : Nat) (b : Blk), tI v = some t → X[t]? = some b → Y[t]? = some b) : GrP Y L v n rs := by
  rcases h with h | ⟨t, ver, rfl, hL, ht⟩
  · exact .inl h
  · exact .inr ⟨t, ver, rfl, hL, hs t _ rfl ht⟩
theorem GrP.lt {X : List Blk} {L n : Nat} {v : AV} {rs : List Nat} (h : GrP X L v n rs) {t : Nat} (ht : tI v = some t) : L ≤ t ∧ t < X.length ∧ ∃ b, X[t]? = some b ∧ b.ty = tyBT := by
  rcases h with ⟨_, rfl⟩ | ⟨t', ver, rfl, hL, h⟩
  · cases ht
  · cases ht
    exact ⟨hL, (List.getElem?_eq_some_iff.1 h).1, _, h, rfl⟩
theorem GrP.parts {X : List Blk} {L n : Nat} {v : AV} {rs : List Nat} (h : GrP X L v n rs) : v.cell1 = true ∧ partsOf v = [v] := by
  rcases h with ⟨_, rfl⟩ | ⟨t', ver, rfl, hL, h⟩ <;> exact ⟨rfl, rfl⟩
theorem GrP.app {X Y : List Blk} {L n r : Nat} {v : AV} {rs : List Nat} (h : GrP X L v n rs) (hl : L ≤ Y.length) (hs : rs.length ≤ 1000) (hXY : ∀ (t : Nat) (b : Blk), tI v = some t → X[t]? = some b → Y[t]? = some b) {K : AV → List Blk → Prop}
    (hk : ∀ v' Z, v'.cell1 = true ∧ partsOf v' = [v'] → Y.length ≤ Z.length → (∀ (j : Nat) (b : Blk), tI v ≠ some j → Y[j]? = some b → Z[j]? = some b) → GrP Z L v' n (rs ++ [r]) → (∀ t, tI v' = some t → tI v = some t ∨ Y.length ≤ t) → K v' Z) :
    AppX tyBT 1 24 Y v K (some (1, [AV.nm r 0 0 n])) := by
  have hci : ([AV.nm r 0 0 n] : List AV).all AV.cell1 = true := rfl
  rcases h with ⟨rfl, rfl⟩ | ⟨t, ver, rfl, hL, ht⟩
  · rw [AppX_nil _ _ _ _ _ _ _ rfl hci (by omega) (by omega)]
    refine hk _ _ ⟨rfl, rfl⟩ (by simp) (fun j b _ hj => ?_) (.inr ⟨Y.length, 1, rfl, hl, by rw [List.getElem?_append_right (Nat.le_refl _), Nat.sub_self]; rfl⟩) (fun t ht => .inr (by cases ht; exact Nat.le_refl _))
    rw [List.getElem?_append_left (List.getElem?_eq_some_iff.1 hj).1]; exact hj
  · have hY := hXY t _ rfl ht
    have hYl := (List.getElem?_eq_some_iff.1 hY).1
    have htk : (rs.map fun r => AV.nm r 0 0 n).take (rs.length * 1) = rs.map fun r => AV.nm r 0 0 n := List.take_of_length_le (by simp)
    rw [AppX_nm _ _ _ _ _ _ _ _ _ _ rfl hci, hY, AppN_in _ _ _ _ _ _ _ _ _ _ _ (by simp) (by omega) (by omega), htk]
    refine hk _ _ ⟨rfl, rfl⟩ (by rw [List.length_set]; exact Nat.le_refl _) (fun j b hne hj => ?_) (.inr ⟨t, ver + 1, by simp, hL, by rw [List.getElem?_set_self hYl]; simp⟩) (fun t' ht' => by cases ht'; exact .inl rfl)
    rw [List.getElem?_set_ne (fun e => hne (by rw [← e]; rfl))]; exact hj
structure MaP (H0 X : List Blk) (L p n : Nat) (x0 x1 x2 x3 vc vs : AV) (rc rs : List Nat) : Prop where
  box : X[p]? = some ⟨0, tyMa, 1, [x0, x1, x2, x3, vc, vs]⟩
  pL : p < L ∧ L ≤ X.length
  fr : ∀ j, j < L → j ≠ p → X[j]? = H0[j]?
  gc : GrP X L vc n rc
  gs : GrP X L vs n rs
  ne : ∀ t, tI vc = some t → tI vs ≠ some t
  row : ∀ r ∈ rc ++ rs, L ≤ r ∧ X[r]? = some (rowF n)
  nd : (rc ++ rs).Nodup
theorem MaP.next {H0 X Z : List Blk} {L p n : Nat} {x0 x1 x2 x3 vc vs vc' vs' : AV} {rc rs : List Nat} {ra rb : Nat} (h : MaP H0 X L p n x0 x1 x2 x3 vc vs rc rs)
    (hl : X.length ≤ Z.length) (hZ : ∀ (j : Nat) (b : Blk), X[j]? = some b → tI vc ≠ some j → tI vs ≠ some j → Z[j]? = some b) (gc : GrP Z L vc' n (rc ++ [ra])) (gs : GrP Z L vs' n (rs ++ [rb])) (hne : ∀ t, tI vc' = some t → tI vs' ≠ some t)
    (hab : ra ≠ rb) (la : X.length ≤ ra) (lb : X.length ≤ rb) (ha : Z[ra]? = some (rowF n)) (hb : Z[rb]? = some (rowF n)) :
    MaP H0 (Z.set p ⟨0, tyMa, 1, [x0, x1, x2, x3, vc', vs']⟩) L p n x0 x1 x2 x3 vc' vs' (rc ++ [ra]) (rs ++ [rb]) := by
  have hpL := h.pL
  have hpx := (List.getElem?_eq_some_iff.1 h.box).1
  have old : ∀ (j : Nat) (b : Blk), X[j]? = some b → b.ty ≠ tyBT → Z[j]? = some b := fun j b hj hb => hZ j b hj
    (fun e => by obtain ⟨_, _, c, hc, ht⟩ := h.gc.lt e; rw [hj] at hc; cases hc; exact hb ht)
    (fun e => by obtain ⟨_, _, c, hc, ht⟩ := h.gs.lt e; rw [hj] at hc; cases hc; exact hb ht)
  have low : ∀ j, j < L → Z[j]? = X[j]? := fun j hj => by
    have hjx : j < X.length := by omega
    rw [List.getElem?_eq_getElem hjx]
    exact hZ j _ (List.getElem?_eq_getElem hjx) (fun e => by have := (h.gc.lt e).1; omega) (fun e => by have := (h.gs.lt e).1; omega)
  refine ⟨List.getElem?_set_self (by omega), ⟨hpL.1, by rw [List.length_set]; omega⟩, fun j hj hjp => ?_, ?_, ?_, hne, fun r hr => ?_, ?_⟩
  · rw [List.getElem?_set_ne (Ne.symm hjp), low j hj, h.fr j hj hjp]
  · exact gc.same fun t b ht hb => by rw [List.getElem?_set_ne (by have := (gc.lt ht).1; omega)]; exact hb
  · exact gs.same fun t b ht hb => by rw [List.getElem?_set_ne (by have := (gs.lt ht).1; omega)]; exact hb
  · have key : L ≤ r ∧ Z[r]? = some (rowF n) := by
      have hr' : r ∈ rc ++ rs ∨ r = ra ∨ r = rb := by
        simp only [List.mem_append, List.mem_singleton] at hr ⊢
        rcases hr with (h | h) | (h | h)
        · exact .inl (.inl h)
        · exact .inr (.inl h)
        · exact .inl (.inr h)
        · exact .inr (.inr h)
      rcases hr' with hr | rfl | rfl
      · have := h.row r hr
        exact ⟨this.1, old r _ this.2 (show (4 : Nat) ≠ 48 by decide)⟩
      · exact ⟨by omega, ha⟩
      · exact ⟨by omega, hb⟩
    refine ⟨key.1, ?_⟩
    rw [List.getElem?_set_ne (by omega)]
    exact key.2
  · have hlt : ∀ r ∈ rc ++ rs, r < X.length := fun r hr => (List.getElem?_eq_some_iff.1 (h.row r hr).2).1
    have hnd := h.nd
    rw [List.nodup_append] at hnd ⊢
    obtain ⟨n1, n2, n3⟩ := hnd
    refine ⟨?_, ?_, ?_⟩
    · rw [List.nodup_append]
      exact ⟨n1, by simp, fun a ha b hb => by have := hlt a (by simp [ha]); simp at hb; omega⟩
    · rw [List.nodup_append]
      exact ⟨n2, by simp, fun a ha b hb => by have := hlt a (by simp [ha]); simp at hb; omega⟩
    · intro a ha b hb
      simp only [List.mem_append, List.mem_singleton] at ha hb
      rcases ha with ha | rfl <;> rcases hb with hb | rfl
      · exact n3 a ha b hb
      · have := hlt a (by simp [ha]); omega
      · have := hlt b (by simp [hb]); omega
      · exact hab
section
variable {H0 X Y1 Y2 Z1 Z2 : List Blk} {L p n : Nat} {x0 x1 x2 x3 vc vs v1 v2 : AV} {rc rs : List Nat} {ra rb : Nat}
theorem MaP.old (h : MaP H0 X L p n x0 x1 x2 x3 vc vs rc rs) (e1 : ∀ (j : Nat) (b : Blk), X[j]? = some b → Y1[j]? = some b) (hf1 : ∀ (j : Nat) (b : Blk), tI vc ≠ some j → Y1[j]? = some b → Z1[j]? = some b)
    (e2 : ∀ (j : Nat) (b : Blk), Z1[j]? = some b → Y2[j]? = some b) (hf2 : ∀ (j : Nat) (b : Blk), tI vs ≠ some j → Y2[j]? = some b → Z2[j]? = some b) : ∀ (j : Nat) (b : Blk), X[j]? = some b → tI vc ≠ some j → tI vs ≠ some j → Z2[j]? = some b :=
  fun j b hj hc hs => hf2 j b hs (e2 j b (hf1 j b hc (e1 j b hj)))
theorem MaP.boxZ (h : MaP H0 X L p n x0 x1 x2 x3 vc vs rc rs) (hZ : ∀ (j : Nat) (b : Blk), X[j]? = some b → tI vc ≠ some j → tI vs ≠ some j → Z2[j]? = some b) : Z2[p]? = some ⟨0, tyMa, 1, [x0, x1, x2, x3, vc, vs]⟩ :=
  hZ p _ h.box (fun e => by have := (h.gc.lt e).1; have := h.pL; omega) (fun e => by have := (h.gs.lt e).1; have := h.pL; omega)
theorem MaP.boxC (h : MaP H0 X L p n x0 x1 x2 x3 vc vs rc rs) (e1 : ∀ (j : Nat) (b : Blk), X[j]? = some b → Y1[j]? = some b) (hf1 : ∀ (j : Nat) (b : Blk), tI vc ≠ some j → Y1[j]? = some b → Z1[j]? = some b) : Z1[p]? = some ⟨0, tyMa, 1, [x0, x1, x2, x3, vc, vs]⟩ :=
  hf1 p _ (fun e => by have := (h.gc.lt e).1; have := h.pL; omega) (e1 p _ h.box)
theorem MaP.gs1 (h : MaP H0 X L p n x0 x1 x2 x3 vc vs rc rs) (e1 : ∀ (j : Nat) (b : Blk), X[j]? = some b → Y1[j]? = some b) (hf1 : ∀ (j : Nat) (b : Blk), tI vc ≠ some j → Y1[j]? = some b → Z1[j]? = some b) : GrP Z1 L vs n rs :=
  h.gs.same fun t b ht hb => hf1 t b (fun e => h.ne t e ht) (e1 t b hb)
theorem MaP.leaf (h : MaP H0 X L p n x0 x1 x2 x3 vc vs rc rs) (hY1 : X.length ≤ Y1.length) (e1 : ∀ (j : Nat) (b : Blk), X[j]? = some b → Y1[j]? = some b)
    (hl1 : Y1.length ≤ Z1.length) (hf1 : ∀ (j : Nat) (b : Blk), tI vc ≠ some j → Y1[j]? = some b → Z1[j]? = some b) (hg1 : GrP Z1 L v1 n (rc ++ [ra])) (hi1 : ∀ t, tI v1 = some t → tI vc = some t ∨ Y1.length ≤ t)
    (hY2 : Z1.length ≤ Y2.length) (e2 : ∀ (j : Nat) (b : Blk), Z1[j]? = some b → Y2[j]? = some b)
    (hl2 : Y2.length ≤ Z2.length) (hf2 : ∀ (j : Nat) (b : Blk), tI vs ≠ some j → Y2[j]? = some b → Z2[j]? = some b) (hg2 : GrP Z2 L v2 n (rs ++ [rb])) (hi2 : ∀ t, tI v2 = some t → tI vs = some t ∨ Y2.length ≤ t)
    (la : X.length ≤ ra) (ha : Y1[ra]? = some (rowF n)) (lb : X.length ≤ rb) (hb : Y2[rb]? = some (rowF n)) (hab : ra ≠ rb) :
    MaP H0 (Z2.set p ⟨0, tyMa, 1, [x0, x1, x2, x3, v1, v2]⟩) L p n x0 x1 x2 x3 v1 v2 (rc ++ [ra]) (rs ++ [rb]) := by
  have nc : ∀ t, tI vc = some t → t < X.length := fun t e => (h.gc.lt e).2.1
  have ns : ∀ t, tI vs = some t → t < X.length := fun t e => (h.gs.lt e).2.1
  refine h.next (by omega) (h.old e1 hf1 e2 hf2) ?_ hg2 ?_ hab la lb ?_ ?_
  · exact hg1.same fun t b ht hb => hf2 t b (fun e => by
      rcases hi1 t ht with g | g
      · exact h.ne t g e
      · have := ns t e; omega) (e2 t b hb)
  · intro t g1 g2
    have k1 := (hg1.lt g1).2.1
    rcases hi1 t g1 with a | a <;> rcases hi2 t g2 with b | b
    · exact h.ne t a b
    · omega
    · have := ns t b; omega
    · omega
  · exact hf2 _ _ (fun e => by have := ns _ e; omega) (e2 _ _ (hf1 _ _ (fun e => by have := nc _ e; omega) ha))
  · exact hf2 _ _ (fun e => by have := ns _ e; omega) hb
end
theorem aview_nmV (H : List Blk) (i ver off len : Nat) : aview H (.nm i ver off len) = NmV ver off len H[i]? := by
  have := aview_own [] H i ver off len
  simpa using this
theorem new_get {X ext Z : List Blk} {v : AV} (hf : ∀ (j : Nat) (b : Blk), tI v ≠ some j → (X ++ ext)[j]? = some b → Z[j]? = some b) (hlt : ∀ t, tI v = some t → t < X.length) (i : Nat) (hi : i < ext.length) (e : List Blk) : (Z ++ e)[X.length + i]? = ext[i]? := by
  have h1 := hf (X.length + i) ext[i] (fun g => by have := hlt _ g; omega) (by rw [List.getElem?_append_right (Nat.le_add_right _ _), Nat.add_sub_cancel_left, List.getElem?_eq_getElem hi])
  rw [List.getElem?_append_left (List.getElem?_eq_some_iff.1 h1).1, h1, List.getElem?_eq_getElem hi]
theorem new_getZ {X ext Z : List Blk} {v : AV} (hf : ∀ (j : Nat) (b : Blk), tI v ≠ some j → (X ++ ext)[j]? = some b → Z[j]? = some b) (hlt : ∀ t, tI v = some t → t < X.length) (i : Nat) (hi : i < ext.length) : Z[X.length + i]? = ext[i]? := by
  have := new_get hf hlt i hi []
  rwa [List.append_nil] at this
end Go.Proofs.Ytflnjgeoegofdaa
