/- A step of the program's elimination (plain). -/
import Derived.Test.YtclfmfabcnbbpaaGreatzPG
set_option linter.unusedSimpArgs false
set_option linter.unusedVariables false
set_option maxHeartbeats 4000000
set_option maxRecDepth 100000
open List renaming getD_eq_getElem?_getD→qE,getElem?_map→qX,getElem?_range→xK,mem_map→wG
namespace Go.Proofs.YtclfmfabcnbbpaaGreat
open Go.Av
def rowP (P K : Nat) (L : List Int) (o R : List Int) (k : Nat) : List Int :=
 if o.getD k 0 = 0 then o else adT (fun a b=>sumG P K a b 1) (fun a b=>mulG P K L a b) (sumG P K 0 (o.getD k 0).toNat (P - 1)).toNat o R o.length
def stepP (P K : Nat) (L : List Int) (xs : List (List Int)) (t i k b : Nat) : List (List Int) :=
 (List.range xs.length).map fun j=>if j = t then scL P K L (xs.getD i []) b else rowP P K L (oldR xs t i j) (scL P K L (xs.getD i []) b) k
theorem adT_full (F1 F3 : Nat → Nat → Int) (f : Nat) (xs ys : List Int) : adT F1 F3 f xs ys xs.length = (List.range xs.length).map (adX F1 F3 f xs ys):=by
 unfold adT;rw [List.drop_length,List.append_nil]
theorem rowP_get (P K : Nat) (L o R : List Int) (k c : Nat) (hc : c < o.length) : (rowP P K L o R k).getD c 0 = if o.getD k 0 = 0 then o.getD c 0 else sumG P K (o.getD c 0).toNat (mulG P K L (sumG P K 0 (o.getD k 0).toNat (P - 1)).toNat (R.getD c 0).toNat).toNat 1:=by
 unfold rowP
 split
 ·rfl
 ·rw [adT_full,qE,qX,xK hc];rfl
theorem rowP_len (P K : Nat) (L o R : List Int) (k : Nat) : (rowP P K L o R k).length = o.length:=by
 unfold rowP
 split
 ·rfl
 ·rw [adT_len _ _ _ _ _ (Nat.le_refl _)]
section
variable {P K : Nat} {L : List Int} {xs : List (List Int)} {w t i k b : Nat}
theorem stepP_len : (stepP P K L xs t i k b).length = xs.length:=by simp [stepP]
theorem stepP_row {j : Nat} (hj : j < xs.length) : (stepP P K L xs t i k b).getD j [] = if j = t then scL P K L (xs.getD i []) b else rowP P K L (oldR xs t i j) (scL P K L (xs.getD i []) b) k:=by
 unfold stepP
 rw [qE,qX,xK hj];rfl
theorem stepP_mat (h2 : 2 ≤ P) (h6 : P ≤ 64) (hL : OkD P L ∧ L.length = K + 1) (hm : MatB (P ^ K) w xs) (ht : t < xs.length) (hi : i < xs.length) : MatB (P ^ K) w (stepP P K L xs t i k b):=by
 intro r hr
 obtain ⟨j,hj,rfl⟩:=wG.1 hr
 have hj:=List.mem_range.1 hj
 have hri:=hm.row hi
 have hro:=oldR_ok (i:=i) hm ht hj
 (try simp only)
 split
 ·refine ⟨by unfold scL;rw [List.length_map];exact hri.1,fun x hx=>?_⟩
  obtain ⟨y,_,rfl⟩:=wG.1 hx
  exact mulG_bd h2 h6 hL
 ·refine ⟨by rw [rowP_len];exact hro.1,fun x hx=>?_⟩
  unfold rowP at hx
  split at hx
  ·exact hro.2 x hx
  ·rw [adT_full] at hx
   obtain ⟨c,_,rfl⟩:=wG.1 hx
   exact sumG_bd h2 h6 (by omega)
theorem stepP_ent {c j : Nat} (hm : MatB (P ^ K) w xs) (ht : t < xs.length) (hi : i < xs.length) (hj : j < xs.length) (hc : c < w) :
  ent (stepP P K L xs t i k b) j c = if j = t then mulG P K L (ent xs i c).toNat b else if (oldR xs t i j).getD k 0 = 0 then (oldR xs t i j).getD c 0 else sumG P K ((oldR xs t i j).getD c 0).toNat (mulG P K L (sumG P K 0 ((oldR xs t i j).getD k 0).toNat (P - 1)).toNat (mulG P K L (ent xs i c).toNat b).toNat).toNat 1:=by
 have hri:=hm.row hi
 have hro:=oldR_ok (i:=i) hm ht hj
 show ((stepP P K L xs t i k b).getD j []).getD c 0 = _
 rw [stepP_row hj]
 split
 ·rw [scL_get _ _ _ _ _ _ (by omega)];rfl
 ·rw [rowP_get _ _ _ _ _ _ _ (by omega),scL_get _ _ _ _ _ _ (by omega)];rfl
theorem stepP_ok (h2 : 2 ≤ P) (h6 : P ≤ 64) (hL : OkD P L ∧ L.length = K + 1) (hF : FldR P K L) (hP : P ≤ P ^ K) (hm : MatB (P ^ K) w xs) (ht : t < xs.length) (hi : i < xs.length) (hti : t ≤ i) (hk : k < w) (hb : b < P ^ K) (hp : ent xs i k ≠ 0) (hz : ∀ i',t ≤ i' → i' < i → ent xs i' k = 0) (hinv : mulG P K L (ent xs i k).toNat b = 1) :
  (colU xs k t = true → stepP P K L xs t i k b = xs) ∧ colU (stepP P K L xs t i k b) k t = true ∧ (∀ c0 t0,c0 < w → t0 < t → colU xs c0 t0 = true → colU (stepP P K L xs t i k b) c0 t0 = true):=by
 have hq0 : 0 < P ^ K:=by omega
 have he:=fun j c=>hm.ent hq0 j c
 have ho : ∀ j c,(oldR xs t i j).getD c 0 = if j = i then ent xs t c else ent xs j c:=fun j c=>by unfold oldR ent;split <;> rfl
 have hlt : ∀ {x : Int},0 ≤ x ∧ x < ((P ^ K : Nat) : Int) → x.toNat < P ^ K:=fun h=>by omega
 have hself : ∀ {x : Int},0 ≤ x ∧ x < ((P ^ K : Nat) : Int) → ((x.toNat : Nat) : Int) = x:=fun h=>by omega
 have hone : (1 : Nat) < P ^ K:=by omega
 have t1 : (1 : Int).toNat = 1:=rfl
 have t0' : (0 : Int).toNat = 0:=rfl
 refine ⟨fun hu=>?_,?_,fun c0 t0 hc0 ht0 hu=>?_⟩
 ·rw [colU_iff] at hu
  have hit : i = t:=by
   have h1:=hu t ht
   rw [if_pos rfl] at h1
   rcases Nat.lt_or_eq_of_le hti with h|h
   ·have:=hz t (Nat.le_refl _) h;omega
   ·exact h.symm
  subst hit
  have hlead : ent xs i k = 1:=by rw [hu i hi,if_pos rfl]
  have hbe : b = 1:=by
   rw [hlead,t1,hF.m1 b hb] at hinv
   omega
  subst hbe
  refine rows_ext (w:=w) stepP_len (fun r hr=>(hm r hr).1) (fun r hr=>(stepP_mat h2 h6 hL hm ht hi r hr).1) fun j c hj hc=>?_
  rw [stepP_ent hm ht hi hj hc]
  split
  ·rename_i e
   rw [e,hF.m1' _ (hlt (he i c)),hself (he i c)]
  ·rename_i e
   rw [ho,ho,if_neg e,if_neg e,hu j hj,if_neg e,if_pos rfl]
 ·rw [colU_iff]
  intro j hj
  rw [stepP_len] at hj
  rw [stepP_ent hm ht hi hj hk,hinv,t1]
  split
  ·rfl
  ·have hb2 : 0 ≤ (oldR xs t i j).getD k 0 ∧ (oldR xs t i j).getD k 0 < ((P ^ K : Nat) : Int):=by rw [ho];split <;> exact he _ _
   split
   ·assumption
   ·have hs:=sumG_bd (P:=P) (K:=K) (a:=0) (b:=((oldR xs t i j).getD k 0).toNat) (k:=P - 1) h2 h6 (by omega)
    rw [hF.m1' _ (hlt hs),Int.toNat_natCast,hF.s2 _ (hlt hb2)]
 ·rw [colU_iff] at hu ⊢
  intro j hj
  rw [stepP_len] at hj
  have hi0 : ent xs i c0 = 0:=by rw [hu i hi,if_neg (by omega)]
  rw [stepP_ent hm ht hi hj hc0,hi0,t0',hF.m0 _ hb,t0']
  split
  ·rename_i e
   rw [if_neg (by omega)]
  ·have hb3 : 0 ≤ (oldR xs t i j).getD c0 0 ∧ (oldR xs t i j).getD c0 0 < ((P ^ K : Nat) : Int):=by rw [ho];split <;> exact he _ _
   have hs:=sumG_bd (P:=P) (K:=K) (a:=0) (b:=((oldR xs t i j).getD k 0).toNat) (k:=P - 1) h2 h6 (by omega)
   have fin : (oldR xs t i j).getD c0 0 = if j = t0 then 1 else 0:=by
    rw [ho]
    split
    ·rename_i e e2
     rw [hu t ht,if_neg (by omega),if_neg (by omega)]
    ·exact hu j hj
   split
   ·exact fin
   ·rw [hF.m0' _ (hlt hs),t0',hF.s0 _ _ (hlt hb3) (.inl rfl),hself hb3,fin]
end
end Go.Proofs.YtclfmfabcnbbpaaGreat