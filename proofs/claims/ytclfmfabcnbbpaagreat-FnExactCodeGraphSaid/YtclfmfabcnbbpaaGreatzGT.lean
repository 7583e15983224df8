/- Elimination gives a matrix back if and only if it is in its form (plain). -/
import Derived.Test.YtclfmfabcnbbpaaGreatzGZ
set_option linter.unusedSimpArgs false
set_option linter.unusedVariables false
set_option maxHeartbeats 4000000
set_option maxRecDepth 100000
open List renaming range→w7,all_eq_true→w9,mem_range→wP,length_take→wT,take_length→wW,getD_eq_getElem?_getD→qE,getElem?_eq_getElem→qB,getElem_mem→wQ,ext_getElem→xW,getElem?_map→qX,getElem?_range→xK,mem_map→wG,length_map→w8
open Nat renaming le_refl→qZ,lt_or_eq_of_le→yH
namespace Go.Proofs.YtclfmfabcnbbpaaGreat
open Go.Av
def ent (m : List (List Int)) (i c : Nat) : Int:=(m.getD i []).getD c 0
def colZ (m : List (List Int)) (c t : Nat) : Bool:=(w7 m.length).all fun i=>decide (i < t) || decide (ent m i c = 0)
def colU (m : List (List Int)) (c t : Nat) : Bool:=(w7 m.length).all fun i=>decide (ent m i c = if i = t then 1 else 0)
def goodC (m : List (List Int)) (w : Nat) : Nat → Nat → Bool
 | 0,t=>decide (t = m.length)
 | f + 1,t=>if t = m.length then true else if colZ m (w - (f + 1)) t = true then goodC m w f t else if colU m (w - (f + 1)) t = true then goodC m w f (t + 1) else false
theorem goodC_full (m : List (List Int)) (w : Nat) : ∀ f,goodC m w f m.length = true
 | 0=>by simp [goodC]
 | f + 1=>by simp [goodC]
theorem colU_iff {m : List (List Int)} {c t : Nat} : colU m c t = true ↔ ∀ i,i < m.length → ent m i c = if i = t then 1 else 0:=by
 unfold colU
 rw [w9]
 exact ⟨fun h i hi=>of_decide_eq_true (h i (wP.2 hi)),fun h i hi=>decide_eq_true (h i (wP.1 hi))⟩
theorem colZ_iff {m : List (List Int)} {c t : Nat} : colZ m c t = true ↔ ∀ i,i < m.length → t ≤ i → ent m i c = 0:=by
 unfold colZ
 rw [w9]
 constructor
 ·intro h i hi ht
  have:=h i (wP.2 hi)
  rw [Bool.or_eq_true,decide_eq_true_eq,decide_eq_true_eq] at this
  omega
 ·intro h i hi
  rw [Bool.or_eq_true,decide_eq_true_eq,decide_eq_true_eq]
  have:=h i (wP.1 hi)
  omega
def InvE (m : List (List Int)) (w : Nat) (xs : List (List Int)) (k t : Nat) : Prop :=
 xs.length = m.length ∧ t ≤ m.length ∧ t ≤ k ∧ ((xs = m ∧ goodC m w w 0 = goodC m w (w - k) t) ∨ (goodC m w w 0 = false ∧ ∃ c0 t0,c0 < k ∧ t0 < t ∧ colU xs c0 t0 = true ∧ colU m c0 t0 = false))
theorem InvE.zero (m : List (List Int)) (w : Nat) : InvE m w m 0 0:=⟨rfl,Nat.zero_le _,qZ _,.inl ⟨rfl,rfl⟩⟩
theorem InvE.skip {m xs : List (List Int)} {w k t : Nat} (h : InvE m w xs k t) (hk : k < w) (ht : t < m.length) (hz : colZ xs k t = true) : InvE m w xs (k + 1) t:=by
 obtain ⟨h1,h2,h3,h4⟩:=h
 refine ⟨h1,h2,by omega,?_⟩
 rcases h4 with ⟨rfl,h4⟩|⟨h4,c0,t0,g1,g2,g3⟩
 ·refine .inl ⟨rfl,?_⟩
  rw [h4,show w - k = (w - (k + 1)) + 1 by omega,goodC,if_neg (by omega),show w - (w - (k + 1) + 1) = k by omega,if_pos hz]
 ·exact .inr ⟨h4,c0,t0,by omega,g2,g3⟩
theorem InvE.step {m xs ys : List (List Int)} {w k t : Nat} (h : InvE m w xs k t) (hk : k < w) (ht : t < m.length) (hz : colZ xs k t = false) (hl : ys.length = xs.length)
  (s1 : colU xs k t = true → ys = xs) (s2 : colU ys k t = true) (s3 : ∀ c0 t0,c0 < w → t0 < t → colU xs c0 t0 = true → colU ys c0 t0 = true) : InvE m w ys (k + 1) (t + 1):=by
 obtain ⟨h1,h2,h3,h4⟩:=h
 refine ⟨by omega,by omega,by omega,?_⟩
 rcases h4 with ⟨rfl,h4⟩|⟨h4,c0,t0,g1,g2,g3,g4⟩
 ·rw [show w - k = (w - (k + 1)) + 1 by omega,goodC,if_neg (by omega),show w - (w - (k + 1) + 1) = k by omega,if_neg (by rw [hz];simp)] at h4
  cases hu : colU xs k t with
  | true =>
   rw [hu,if_pos rfl] at h4
   exact .inl ⟨s1 hu,h4⟩
  | false =>
   rw [hu,if_neg (by simp)] at h4
   exact .inr ⟨h4,k,t,by omega,by omega,s2,hu⟩
 ·exact .inr ⟨h4,c0,t0,by omega,by omega,s3 c0 t0 (by omega) g2 g3,g4⟩
theorem InvE.done {m xs : List (List Int)} {w k t : Nat} (h : InvE m w xs k t) (hk : k = w ∨ t = m.length) : decide (xs.take t = m) = goodC m w w 0:=by
 obtain ⟨h1,h2,h3,h4⟩:=h
 rcases h4 with ⟨rfl,h4⟩|⟨h4,c0,t0,g1,g2,g3,g4⟩
 ·have e : goodC xs w (w - k) t = decide (t = xs.length):=by
   by_cases e : t = xs.length
   ·rw [e,goodC_full];simp
   ·rcases hk with rfl|hk
    ·rw [Nat.sub_self];rfl
    ·exact absurd hk e
  rw [h4,e,decide_eq_decide]
  constructor
  ·intro g
   have:=congrArg List.length g
   rw [wT] at this
   omega
  ·intro g
   rw [g,wW]
 ·rw [h4,decide_eq_false_iff_not]
  intro g
  have hlt : t = xs.length:=by
   have:=congrArg List.length g
   rw [wT] at this
   omega
  rw [hlt,wW] at g
  rw [g] at g3
  rw [g3] at g4;cases g4
def oldR (xs : List (List Int)) (t i j : Nat) : List Int:=if j = i then xs.getD t [] else xs.getD j []
def stepR (P K : Nat) (L : List Int) (xs : List (List Int)) (t i k b : Nat) : List (List Int) :=
 (w7 xs.length).map fun j=>if j = t then scL P K L (xs.getD i []) b else lsL P K L (oldR xs t i j) (scL P K L (xs.getD i []) b) ((oldR xs t i j).getD k 0).toNat
structure FldR (P K : Nat) (L : List Int) : Prop where
 m0 : ∀ b,b < P ^ K → mulG P K L 0 b = 0
 m0' : ∀ a,a < P ^ K → mulG P K L a 0 = 0
 m1 : ∀ a,a < P ^ K → mulG P K L 1 a = a
 m1' : ∀ a,a < P ^ K → mulG P K L a 1 = a
 s0 : ∀ a k,a < P ^ K → (k = 1 ∨ k = P - 1) → sumG P K a 0 k = a
 s1 : ∀ a,a < P ^ K → sumG P K a a (P - 1) = 0
 s2 : ∀ a,a < P ^ K → sumG P K a (sumG P K 0 a (P - 1)).toNat 1 = 0
 inv : ∀ a,0 < a → a < P ^ K → ∃ b,1 ≤ b ∧ b < P ^ K ∧ mulG P K L a b = 1
 com : ∀ a b,a < P ^ K → b < P ^ K → mulG P K L a b = mulG P K L b a
def MatB (q : Nat) (w : Nat) (xs : List (List Int)) : Prop:=∀ r ∈ xs,r.length = w ∧ ∀ x ∈ r,0 ≤ x ∧ x < (q : Int)
theorem MatB.row {q w : Nat} {xs : List (List Int)} (h : MatB q w xs) {i : Nat} (hi : i < xs.length) : (xs.getD i []).length = w ∧ ∀ x ∈ xs.getD i [],0 ≤ x ∧ x < (q : Int):=by
 have : xs.getD i [] ∈ xs:=by rw [qE,qB hi];exact wQ _
 exact h _ this
theorem MatB.ent {q w : Nat} {xs : List (List Int)} (h : MatB q w xs) (hq : 0 < q) (i c : Nat) : 0 ≤ ent xs i c ∧ ent xs i c < (q : Int):=by
 unfold Go.Proofs.YtclfmfabcnbbpaaGreat.ent
 by_cases hi : i < xs.length
 ·have hr:=h.row hi
  rw [qE (l:=xs.getD i [])]
  cases hx : (xs.getD i [])[c]? with
  | none=>exact ⟨Int.le_refl _,by show (0 : Int) < q;omega⟩
  | some x=>exact hr.2 x (List.mem_of_getElem? hx)
 ·have e : xs.getD i [] = []:=by rw [qE,List.getElem?_eq_none (by omega)];rfl
  rw [e]
  exact ⟨Int.le_refl _,by show (0 : Int) < q;omega⟩
theorem rows_ext {w : Nat} {xs ys : List (List Int)} (hl : ys.length = xs.length) (hx : ∀ r ∈ xs,r.length = w) (hy : ∀ r ∈ ys,r.length = w) (h : ∀ i c,i < xs.length → c < w → ent ys i c = ent xs i c) : ys = xs:=by
 refine xW hl fun i h1 h2=>?_
 have l1:=hy ys[i] (wQ _)
 have l2:=hx xs[i] (wQ _)
 refine xW (by omega) fun c g1 g2=>?_
 have:=h i c h2 (by omega)
 unfold ent at this
 rw [qE (l:=ys),qE (l:=xs),qB h1,qB h2] at this
 simp only [Option.getD_some] at this
 rw [qE,qE,qB g1,qB g2] at this
 simpa using this
theorem scL_get (P K : Nat) (L v : List Int) (b c : Nat) (hc : c < v.length) : (scL P K L v b).getD c 0 = mulG P K L (v.getD c 0).toNat b:=by
 unfold scL
 rw [qE,qX,qB hc,qE,qB hc];rfl
theorem lsL_get (P K : Nat) (L v w : List Int) (b c : Nat) (hc : c < v.length) : (lsL P K L v w b).getD c 0 = sumG P K (v.getD c 0).toNat (mulG P K L (w.getD c 0).toNat b).toNat (P - 1):=by
 unfold lsL
 rw [qE,qX,xK hc];rfl
section
variable {P K : Nat} {L : List Int} {xs : List (List Int)} {w t i k b : Nat}
theorem oldR_ok {q : Nat} (hm : MatB q w xs) (ht : t < xs.length) {j : Nat} (hj : j < xs.length) : (oldR xs t i j).length = w ∧ ∀ x ∈ oldR xs t i j,0 ≤ x ∧ x < (q : Int):=by
 unfold oldR
 split
 ·exact hm.row ht
 ·exact hm.row hj
theorem stepR_len : (stepR P K L xs t i k b).length = xs.length:=by simp [stepR]
theorem stepR_row {j : Nat} (hj : j < xs.length) : (stepR P K L xs t i k b).getD j [] = if j = t then scL P K L (xs.getD i []) b else lsL P K L (oldR xs t i j) (scL P K L (xs.getD i []) b) ((oldR xs t i j).getD k 0).toNat:=by
 unfold stepR
 rw [qE,qX,xK hj];rfl
theorem stepR_mat (h2 : 2 ≤ P) (h6 : P ≤ 64) (hL : OkD P L ∧ L.length = K + 1) (hm : MatB (P ^ K) w xs) (ht : t < xs.length) (hi : i < xs.length) : MatB (P ^ K) w (stepR P K L xs t i k b):=by
 intro r hr
 obtain ⟨j,hj,rfl⟩:=wG.1 hr
 have hj:=wP.1 hj
 have hri:=hm.row hi
 have hro:=oldR_ok (i:=i) hm ht hj
 (try simp only)
 split
 ·refine ⟨by unfold scL;rw [w8];exact hri.1,fun x hx=>?_⟩
  obtain ⟨y,_,rfl⟩:=wG.1 hx
  exact mulG_bd h2 h6 hL
 ·refine ⟨by unfold lsL;rw [w8,List.length_range];exact hro.1,fun x hx=>?_⟩
  obtain ⟨c,_,rfl⟩:=wG.1 hx
  exact sumG_bd h2 h6 (by omega)
theorem stepR_ent {c j : Nat} (hm : MatB (P ^ K) w xs) (ht : t < xs.length) (hi : i < xs.length) (hj : j < xs.length) (hc : c < w) :
  ent (stepR P K L xs t i k b) j c = if j = t then mulG P K L (ent xs i c).toNat b else sumG P K ((oldR xs t i j).getD c 0).toNat (mulG P K L (mulG P K L (ent xs i c).toNat b).toNat ((oldR xs t i j).getD k 0).toNat).toNat (P - 1):=by
 have hri:=hm.row hi
 have hro:=oldR_ok (i:=i) hm ht hj
 show ((stepR P K L xs t i k b).getD j []).getD c 0 = _
 rw [stepR_row hj]
 split
 ·rw [scL_get _ _ _ _ _ _ (by omega)];rfl
 ·rw [lsL_get _ _ _ _ _ _ _ (by omega),scL_get _ _ _ _ _ _ (by omega)];rfl
theorem stepR_ok (h2 : 2 ≤ P) (h6 : P ≤ 64) (hL : OkD P L ∧ L.length = K + 1) (hF : FldR P K L) (hK : 1 ≤ P ^ K) (hP : P ≤ P ^ K) (hm : MatB (P ^ K) w xs) (ht : t < xs.length) (hi : i < xs.length) (hti : t ≤ i) (hk : k < w) (hb : b < P ^ K) (hp : ent xs i k ≠ 0) (hz : ∀ i',t ≤ i' → i' < i → ent xs i' k = 0) (hinv : mulG P K L (ent xs i k).toNat b = 1) (hmin : ∀ b',1 ≤ b' → b' < b → mulG P K L (ent xs i k).toNat b' ≠ 1) (hb1 : 1 ≤ b) :
  (colU xs k t = true → stepR P K L xs t i k b = xs) ∧ colU (stepR P K L xs t i k b) k t = true ∧ (∀ c0 t0,c0 < w → t0 < t → colU xs c0 t0 = true → colU (stepR P K L xs t i k b) c0 t0 = true):=by
 have hq0 : 0 < P ^ K:=by omega
 have he:=fun j c=>hm.ent hq0 j c
 have ho : ∀ j c,(oldR xs t i j).getD c 0 = if j = i then ent xs t c else ent xs j c:=fun j c=>by unfold oldR ent;split <;> rfl
 have hlt : ∀ {x : Int},0 ≤ x ∧ x < ((P ^ K : Nat) : Int) → x.toNat < P ^ K:=fun h=>by omega
 have hself : ∀ {x : Int},0 ≤ x ∧ x < ((P ^ K : Nat) : Int) → ((x.toNat : Nat) : Int) = x:=fun h=>by omega
 have hone : (1 : Nat) < P ^ K:=by omega
 have t1 : (1 : Int).toNat = 1:=rfl
 have t0' : (0 : Int).toNat = 0:=rfl
 refine ⟨fun hu=>?_,?_,fun c0 t0 hc0 ht0 hu=>?_⟩
 ·rw [colU_iff] at hu
  have hit : i = t:=by
   have h1:=hu t ht
   rw [if_pos rfl] at h1
   rcases yH hti with h|h
   ·have:=hz t (qZ _) h;omega
   ·exact h.symm
  subst hit
  have hlead : ent xs i k = 1:=by rw [hu i hi,if_pos rfl]
  have hbe : b = 1:=by
   rcases yH hb1 with h|h
   ·have:=hmin 1 (qZ _) h
    rw [hlead,t1,hF.m1 1 hone] at this
    exact absurd rfl this
   ·exact h.symm
  subst hbe
  refine rows_ext (w:=w) stepR_len (fun r hr=>(hm r hr).1) (fun r hr=>(stepR_mat h2 h6 hL hm ht hi r hr).1) fun j c hj hc=>?_
  rw [stepR_ent hm ht hi hj hc]
  split
  ·rename_i e
   rw [e,hF.m1' _ (hlt (he i c)),hself (he i c)]
  ·rename_i e
   rw [ho,ho,if_neg e,if_neg e,hu j hj,if_neg e,t0',hF.m1' _ (hlt (he i c)),hself (he i c),hF.m0' _ (hlt (he i c)),t0',hF.s0 _ _ (hlt (he j c)) (.inr rfl),hself (he j c)]
 ·rw [colU_iff]
  intro j hj
  rw [stepR_len] at hj
  rw [stepR_ent hm ht hi hj hk,hinv,t1]
  split
  ·rfl
  ·have hb2 : 0 ≤ (oldR xs t i j).getD k 0 ∧ (oldR xs t i j).getD k 0 < ((P ^ K : Nat) : Int):=by rw [ho];split <;> exact he _ _
   rw [hF.m1 _ (hlt hb2),hself hb2,hF.s1 _ (hlt hb2)]
 ·rw [colU_iff] at hu ⊢
  intro j hj
  rw [stepR_len] at hj
  have hi0 : ent xs i c0 = 0:=by rw [hu i hi,if_neg (by omega)]
  rw [stepR_ent hm ht hi hj hc0,hi0,t0',hF.m0 _ hb,t0']
  split
  ·rename_i e
   rw [if_neg (by omega)]
  ·have hb2 : 0 ≤ (oldR xs t i j).getD k 0 ∧ (oldR xs t i j).getD k 0 < ((P ^ K : Nat) : Int):=by rw [ho];split <;> exact he _ _
   have hb3 : 0 ≤ (oldR xs t i j).getD c0 0 ∧ (oldR xs t i j).getD c0 0 < ((P ^ K : Nat) : Int):=by rw [ho];split <;> exact he _ _
   rw [hF.m0 _ (hlt hb2),t0',hF.s0 _ _ (hlt hb3) (.inr rfl),hself hb3,ho]
   split
   ·rename_i e e2
    rw [hu t ht,if_neg (by omega),if_neg (by omega)]
   ·exact hu j hj
end
end Go.Proofs.YtclfmfabcnbbpaaGreat