/- Tables of numbers that grow side by side. -/
import Derived.Test.YtclfmfabcnbbpaaGreatzPC
import Derived.Test.YtclfmfabcnbbpaaGreatzGW
import Derived.Test.YtclfmfabcnbbpaaGreatProg
import Derived.KernelRfl
set_option linter.unusedSimpArgs false
set_option linter.unusedVariables false
set_option maxHeartbeats 4000000
set_option maxRecDepth 100000
open Go.Operand renaming tmp→t'
open Option renaming none→n',some→s'
open List renaming getElem?_eq_some_iff→qC,getElem?_append_right→qV,getElem?_append_left→qN,take_of_length_le→qW,length_set→w6,getElem?_set_self→qY,getElem?_set_ne→qR,length_map→w8,getElem?_map→qX,getElem?_eq_getElem→qB,range→w7,range_succ→xD,map_append→xB,replicate→qT,set_append_right→x6,length_range→xJ,append_assoc→wV,getElem?_range→xK,map_set→xL,ext_getElem?→xU,getElem?_set→xR,set_set→yB,all_nil→j0,all_cons→zN,cons_append→y7,nil_append→xZ,length_append→wN,set_cons_zero→xG,set_cons_succ→zH,drop_zero→x8,drop_succ_cons→zB,take_succ_cons→qI,take_zero→qO,take_nil→zX,getD_eq_getElem?_getD→qE,getElem_mem→wQ
open Nat renaming le_refl→qZ,sub_self→wS
open Go.Av.SW renaming block→q8,loopE→wJ,condD→wK,condN→wL,condNB→wF,condB→wH
open Go.Av.SLoop renaming next→wB
open Int renaming eq_ofNat_of_zero_le→wC,toNat_natCast→wA
namespace Go.Proofs.YtclfmfabcnbbpaaGreat
open Go.Av
abbrev tyAr : Nat:=76
def tI : AV → Option Nat
 | .nm t _ _ _=>some t
 | _=>none
def GrQ (H : List Blk) (L : Nat) (v : AV) (n : Nat) (rs : List Nat) : Prop :=
 (rs = [] ∧ v = nilS) ∨ ∃ t ver,v = .nm t ver 0 rs.length ∧ L ≤ t ∧ H[t]? = some ⟨ver,tyLL,1,rs.map fun r=>AV.nm r 0 0 n⟩
theorem GrQ.same {X Y : List Blk} {L n : Nat} {v : AV} {rs : List Nat} (h : GrQ X L v n rs) (hs : ∀ (t : Nat) (b : Blk),tI v = some t → X[t]? = some b → Y[t]? = some b) : GrQ Y L v n rs:=by
 rcases h with h|⟨t,ver,rfl,hL,ht⟩
 ·exact .inl h
 ·exact .inr ⟨t,ver,rfl,hL,hs t _ rfl ht⟩
theorem GrQ.lt {X : List Blk} {L n : Nat} {v : AV} {rs : List Nat} (h : GrQ X L v n rs) {t : Nat} (ht : tI v = some t) : L ≤ t ∧ t < X.length ∧ ∃ b,X[t]? = some b ∧ b.ty = tyLL:=by
 rcases h with ⟨_,rfl⟩|⟨t',ver,rfl,hL,h⟩
 ·cases ht
 ·cases ht
  exact ⟨hL,(qC.1 h).1,_,h,rfl⟩
theorem GrQ.parts {X : List Blk} {L n : Nat} {v : AV} {rs : List Nat} (h : GrQ X L v n rs) : v.cell1 = true ∧ partsOf v = [v]:=by
 rcases h with ⟨_,rfl⟩|⟨t',ver,rfl,hL,h⟩ <;> exact ⟨rfl,rfl⟩
theorem GrQ.app {X Y : List Blk} {L n r : Nat} {v : AV} {rs : List Nat} (h : GrQ X L v n rs) (hl : L ≤ Y.length) (hs : rs.length ≤ 1000) (hXY : ∀ (t : Nat) (b : Blk),tI v = some t → X[t]? = some b → Y[t]? = some b) {K : AV → List Blk → Prop}
  (hk : ∀ v' Z,v'.cell1 = true ∧ partsOf v' = [v'] → Y.length ≤ Z.length → (∀ (j : Nat) (b : Blk),tI v ≠ some j → Y[j]? = some b → Z[j]? = some b) → GrQ Z L v' n (rs ++ [r]) → (∀ t,tI v' = some t → tI v = some t ∨ Y.length ≤ t) → K v' Z) :
  AppX tyLL 1 24 Y v K (some (1,[AV.nm r 0 0 n])):=by
 have hci : ([AV.nm r 0 0 n] : List AV).all AV.cell1 = true:=rfl
 rcases h with ⟨rfl,rfl⟩|⟨t,ver,rfl,hL,ht⟩
 ·rw [AppX_nil _ _ _ _ _ _ _ rfl hci (by omega) (by omega)]
  refine hk _ _ ⟨rfl,rfl⟩ (by simp) (fun j b _ hj=>?_) (.inr ⟨Y.length,1,rfl,hl,by rw [qV (qZ _),wS];rfl⟩) (fun t ht=>.inr (by cases ht;exact qZ _))
  rw [qN (qC.1 hj).1];exact hj
 ·have hY:=hXY t _ rfl ht
  have hYl:=(qC.1 hY).1
  have htk : (rs.map fun r=>AV.nm r 0 0 n).take (rs.length * 1) = rs.map fun r=>AV.nm r 0 0 n:=qW (by simp)
  rw [AppX_nm _ _ _ _ _ _ _ _ _ _ rfl hci,hY,AppN_in _ _ _ _ _ _ _ _ _ _ _ (by simp) (by omega) (by omega),htk]
  refine hk _ _ ⟨rfl,rfl⟩ (by rw [w6];exact qZ _) (fun j b hne hj=>?_) (.inr ⟨t,ver + 1,by simp,hL,by rw [qY hYl];simp⟩) (fun t' ht'=>by cases ht';exact .inl rfl)
  rw [qR (fun e=>hne (by rw [← e];rfl))];exact hj
abbrev rowI (xs : List Int) : Blk:=⟨0,2,1,xs.map I⟩
def RowsQ (X : List Blk) (L n : Nat) (rs : List Nat) (xss : List (List Int)) : Prop :=
 rs.length = xss.length ∧ ∀ (i r : Nat),rs[i]? = some r → ∀ xs,xss[i]? = some xs → L ≤ r ∧ xs.length = n ∧ X[r]? = some (rowI xs)
theorem RowsQ.same {X Y : List Blk} {L n : Nat} {rs : List Nat} {xss : List (List Int)} (h : RowsQ X L n rs xss) (hs : ∀ (r : Nat) (b : Blk),L ≤ r → X[r]? = some b → b.ty = 2 → Y[r]? = some b) : RowsQ Y L n rs xss :=
 ⟨h.1,fun i r hr xs hx=>by obtain ⟨a,b,c⟩:=h.2 i r hr xs hx;exact ⟨a,b,hs r _ a c rfl⟩⟩
theorem RowsQ.snoc {X : List Blk} {L n r : Nat} {rs : List Nat} {xss : List (List Int)} {xs : List Int} (h : RowsQ X L n rs xss) (hr : L ≤ r) (hl : xs.length = n) (hx : X[r]? = some (rowI xs)) : RowsQ X L n (rs ++ [r]) (xss ++ [xs]):=by
 refine ⟨by simp [h.1],fun i q hq ys hy=>?_⟩
 by_cases hi : i < rs.length
 ·rw [qN hi] at hq
  rw [qN (by rw [← h.1];exact hi)] at hy
  exact h.2 i q hq ys hy
 ·rw [qV (by omega)] at hq
  rw [qV (by rw [← h.1];omega),← h.1] at hy
  cases hj : i - rs.length with
  | zero =>
   rw [hj] at hq hy
   cases hq;cases hy
   exact ⟨hr,hl,hx⟩
  | succ k=>rw [hj] at hq;simp at hq
theorem GrQ.froz {X : List Blk} {L n b : Nat} {v : AV} {rs : List Nat} {xss : List (List Int)} (h : GrQ X L v n rs) (hr : RowsQ X L n rs xss) (hb : b ≤ L) : Froz X b v (ilSS xss):=by
 rcases h with ⟨rfl,rfl⟩|⟨t,ver,rfl,hL,ht⟩
 ·have : xss = []:=List.eq_nil_of_length_eq_zero (by rw [← hr.1];rfl)
  subst this
  exact .nil
 ·have:=froz_own (b:=b) (e:=fun _=>nilS) (cs':=xss.map ilS) (by omega) ht (by rw [w8,w8,hr.1]) (fun j c c' h1 h2=>by
   rw [qX] at h1 h2
   cases hq : rs[j]? with
   | none=>rw [hq] at h1;cases h1
   | some r =>
    cases hx : xss[j]? with
    | none=>rw [hx] at h2;cases h2
    | some xs =>
     rw [hq] at h1;rw [hx] at h2
     cases h1;cases h2
     obtain ⟨a,e,c⟩:=hr.2 j r hq xs hx
     have:=froz_rowI (b:=b) (by omega) c
     rw [e] at this
     exact this)
  rw [w8] at this
  have e2 : (ilSS xss) = .il rs.length (xss.map ilS):=by rw [hr.1];rfl
  rw [e2]
  exact this
structure ArP (H0 X : List Blk) (L p n : Nat) (vi v1 v2 v3 : AV) (r1 r2 r3 : List Nat) (x1 x2 x3 : List (List Int)) : Prop where
 box : X[p]? = some ⟨0,tyAr,1,[I n,v1,v2,v3,vi]⟩
 pL : p < L ∧ L ≤ X.length
 fr : ∀ j,j < L → j ≠ p → X[j]? = H0[j]?
 g1 : GrQ X L v1 n r1
 g2 : GrQ X L v2 n r2
 g3 : GrQ X L v3 n r3
 n12 : ∀ t,tI v1 = some t → tI v2 ≠ some t
 n13 : ∀ t,tI v1 = some t → tI v3 ≠ some t
 n23 : ∀ t,tI v2 = some t → tI v3 ≠ some t
 q1 : RowsQ X L n r1 x1
 q2 : RowsQ X L n r2 x2
 q3 : RowsQ X L n r3 x3
section
variable {H0 X Y1 Y2 Y3 Z1 Z2 Z3 : List Blk} {L p n : Nat} {vi v1 v2 v3 w1 w2 w3 : AV} {r1 r2 r3 : List Nat} {x1 x2 x3 : List (List Int)} {ra rb rc : Nat} {xa xb xc : List Int}
theorem ArP.old (e1 : ∀ (j : Nat) (b : Blk),X[j]? = some b → Y1[j]? = some b) (hf1 : ∀ (j : Nat) (b : Blk),tI v1 ≠ some j → Y1[j]? = some b → Z1[j]? = some b)
  (e2 : ∀ (j : Nat) (b : Blk),Z1[j]? = some b → Y2[j]? = some b) (hf2 : ∀ (j : Nat) (b : Blk),tI v2 ≠ some j → Y2[j]? = some b → Z2[j]? = some b)
  (e3 : ∀ (j : Nat) (b : Blk),Z2[j]? = some b → Y3[j]? = some b) (hf3 : ∀ (j : Nat) (b : Blk),tI v3 ≠ some j → Y3[j]? = some b → Z3[j]? = some b) (h : ArP H0 X L p n vi v1 v2 v3 r1 r2 r3 x1 x2 x3) :
  ∀ (j : Nat) (b : Blk),X[j]? = some b → b.ty ≠ tyLL → Z1[j]? = some b ∧ Z2[j]? = some b ∧ Z3[j]? = some b:=by
 intro j b hj hb
 have t1 : tI v1 ≠ some j:=fun e=>by obtain ⟨_,_,c,hc,ht⟩:=h.g1.lt e;rw [hj] at hc;cases hc;exact hb ht
 have t2 : tI v2 ≠ some j:=fun e=>by obtain ⟨_,_,c,hc,ht⟩:=h.g2.lt e;rw [hj] at hc;cases hc;exact hb ht
 have t3 : tI v3 ≠ some j:=fun e=>by obtain ⟨_,_,c,hc,ht⟩:=h.g3.lt e;rw [hj] at hc;cases hc;exact hb ht
 have a1:=hf1 j b t1 (e1 j b hj)
 have a2:=hf2 j b t2 (e2 j b a1)
 exact ⟨a1,a2,hf3 j b t3 (e3 j b a2)⟩
theorem ArP.low (e1 : ∀ (j : Nat) (b : Blk),X[j]? = some b → Y1[j]? = some b) (hf1 : ∀ (j : Nat) (b : Blk),tI v1 ≠ some j → Y1[j]? = some b → Z1[j]? = some b)
  (e2 : ∀ (j : Nat) (b : Blk),Z1[j]? = some b → Y2[j]? = some b) (hf2 : ∀ (j : Nat) (b : Blk),tI v2 ≠ some j → Y2[j]? = some b → Z2[j]? = some b)
  (e3 : ∀ (j : Nat) (b : Blk),Z2[j]? = some b → Y3[j]? = some b) (hf3 : ∀ (j : Nat) (b : Blk),tI v3 ≠ some j → Y3[j]? = some b → Z3[j]? = some b) (h : ArP H0 X L p n vi v1 v2 v3 r1 r2 r3 x1 x2 x3) :
  ∀ (j : Nat),j < L → Z1[j]? = X[j]? ∧ Z2[j]? = X[j]? ∧ Z3[j]? = X[j]?:=by
 intro j hj
 have hjx : j < X.length:=by have:=h.pL;omega
 have t1 : tI v1 ≠ some j:=fun e=>by have:=(h.g1.lt e).1;omega
 have t2 : tI v2 ≠ some j:=fun e=>by have:=(h.g2.lt e).1;omega
 have t3 : tI v3 ≠ some j:=fun e=>by have:=(h.g3.lt e).1;omega
 rw [qB hjx]
 have a1:=hf1 j _ t1 (e1 j _ (qB hjx))
 have a2:=hf2 j _ t2 (e2 j _ a1)
 exact ⟨a1,a2,hf3 j _ t3 (e3 j _ a2)⟩
theorem ArP.s2 (h : ArP H0 X L p n vi v1 v2 v3 r1 r2 r3 x1 x2 x3) (e1 : ∀ (j : Nat) (b : Blk),X[j]? = some b → Y1[j]? = some b) (hf1 : ∀ (j : Nat) (b : Blk),tI v1 ≠ some j → Y1[j]? = some b → Z1[j]? = some b) : GrQ Z1 L v2 n r2 :=
 h.g2.same fun t b ht hb=>hf1 t b (fun e=>h.n12 t e ht) (e1 t b hb)
theorem ArP.s3 (h : ArP H0 X L p n vi v1 v2 v3 r1 r2 r3 x1 x2 x3) (e1 : ∀ (j : Nat) (b : Blk),X[j]? = some b → Y1[j]? = some b) (hf1 : ∀ (j : Nat) (b : Blk),tI v1 ≠ some j → Y1[j]? = some b → Z1[j]? = some b)
  (e2 : ∀ (j : Nat) (b : Blk),Z1[j]? = some b → Y2[j]? = some b) (hf2 : ∀ (j : Nat) (b : Blk),tI v2 ≠ some j → Y2[j]? = some b → Z2[j]? = some b) : GrQ Z2 L v3 n r3 :=
 h.g3.same fun t b ht hb=>hf2 t b (fun e=>h.n23 t e ht) (e2 t b (hf1 t b (fun e=>h.n13 t e ht) (e1 t b hb)))
theorem ArP.leaf (h : ArP H0 X L p n vi v1 v2 v3 r1 r2 r3 x1 x2 x3) (hY1 : X.length ≤ Y1.length) (e1 : ∀ (j : Nat) (b : Blk),X[j]? = some b → Y1[j]? = some b)
  (hl1 : Y1.length ≤ Z1.length) (hf1 : ∀ (j : Nat) (b : Blk),tI v1 ≠ some j → Y1[j]? = some b → Z1[j]? = some b) (hg1 : GrQ Z1 L w1 n (r1 ++ [ra])) (hi1 : ∀ t,tI w1 = some t → tI v1 = some t ∨ Y1.length ≤ t)
  (hY2 : Z1.length ≤ Y2.length) (e2 : ∀ (j : Nat) (b : Blk),Z1[j]? = some b → Y2[j]? = some b)
  (hl2 : Y2.length ≤ Z2.length) (hf2 : ∀ (j : Nat) (b : Blk),tI v2 ≠ some j → Y2[j]? = some b → Z2[j]? = some b) (hg2 : GrQ Z2 L w2 n (r2 ++ [rb])) (hi2 : ∀ t,tI w2 = some t → tI v2 = some t ∨ Y2.length ≤ t)
  (hY3 : Z2.length ≤ Y3.length) (e3 : ∀ (j : Nat) (b : Blk),Z2[j]? = some b → Y3[j]? = some b)
  (hl3 : Y3.length ≤ Z3.length) (hf3 : ∀ (j : Nat) (b : Blk),tI v3 ≠ some j → Y3[j]? = some b → Z3[j]? = some b) (hg3 : GrQ Z3 L w3 n (r3 ++ [rc])) (hi3 : ∀ t,tI w3 = some t → tI v3 = some t ∨ Y3.length ≤ t)
  (ha : L ≤ ra ∧ xa.length = n ∧ X[ra]? = some (rowI xa)) (hb : L ≤ rb ∧ xb.length = n ∧ X[rb]? = some (rowI xb)) (hc : L ≤ rc ∧ xc.length = n ∧ X[rc]? = some (rowI xc)) :
  ArP H0 (Z3.set p ⟨0,tyAr,1,[I n,w1,w2,w3,vi]⟩) L p n vi w1 w2 w3 (r1 ++ [ra]) (r2 ++ [rb]) (r3 ++ [rc]) (x1 ++ [xa]) (x2 ++ [xb]) (x3 ++ [xc]):=by
 have hpL:=h.pL
 have o1 : ∀ t,tI v1 = some t → t < X.length:=fun t e=>(h.g1.lt e).2.1
 have o2 : ∀ t,tI v2 = some t → t < X.length:=fun t e=>(h.g2.lt e).2.1
 have o3 : ∀ t,tI v3 = some t → t < X.length:=fun t e=>(h.g3.lt e).2.1
 have old:=ArP.old e1 hf1 e2 hf2 e3 hf3 h
 have low:=ArP.low e1 hf1 e2 hf2 e3 hf3 h
 have hty : (2 : Nat) ≠ tyLL:=by decide
 have rows : ∀ {r : List Nat} {x : List (List Int)},RowsQ X L n r x → RowsQ (Z3.set p ⟨0,tyAr,1,[I n,w1,w2,w3,vi]⟩) L n r x:=fun hq=>hq.same fun r b hr hX hb=>by
  rw [qR (by omega)]
  exact (old r b hX (by rw [hb];exact hty)).2.2
 have row : ∀ {r : Nat} {x : List Int},L ≤ r ∧ x.length = n ∧ X[r]? = some (rowI x) → (Z3.set p ⟨0,tyAr,1,[I n,w1,w2,w3,vi]⟩)[r]? = some (rowI x):=fun hq=>by
  rw [qR (by omega)]
  exact (old _ _ hq.2.2 hty).2.2
 have k1 : GrQ Z3 L w1 n (r1 ++ [ra]):=hg1.same fun t b ht hb=>by
  have m2 : tI v2 ≠ some t:=fun e=>by
   rcases hi1 t ht with g|g
   ·exact h.n12 t g e
   ·have:=o2 t e;omega
  have m3 : tI v3 ≠ some t:=fun e=>by
   rcases hi1 t ht with g|g
   ·exact h.n13 t g e
   ·have:=o3 t e;omega
  exact hf3 t b m3 (e3 t b (hf2 t b m2 (e2 t b hb)))
 have k2 : GrQ Z3 L w2 n (r2 ++ [rb]):=hg2.same fun t b ht hb=>by
  have m3 : tI v3 ≠ some t:=fun e=>by
   rcases hi2 t ht with g|g
   ·exact h.n23 t g e
   ·have:=o3 t e;omega
  exact hf3 t b m3 (e3 t b hb)
 have top : ∀ {w : AV} {r : List Nat},GrQ Z3 L w n r → GrQ (Z3.set p ⟨0,tyAr,1,[I n,w1,w2,w3,vi]⟩) L w n r:=fun hg=>hg.same fun t b ht hb=>by
  rw [qR (by have:=(hg.lt ht).1;omega)];exact hb
 refine ⟨qY (by omega),⟨hpL.1,by rw [w6];omega⟩,fun j hj hjp=>?_,top k1,top k2,top hg3,?_,?_,?_,(rows h.q1).snoc ha.1 ha.2.1 (row ha),(rows h.q2).snoc hb.1 hb.2.1 (row hb),(rows h.q3).snoc hc.1 hc.2.1 (row hc)⟩
 ·rw [qR (Ne.symm hjp),(low j hj).2.2,h.fr j hj hjp]
 ·intro t g1 g2
  have a1:=(hg1.lt g1).2.1
  rcases hi1 t g1 with a|a <;> rcases hi2 t g2 with b|b
  ·exact h.n12 t a b
  ·omega
  ·have:=o2 t b;omega
  ·omega
 ·intro t g1 g2
  have a1:=(hg1.lt g1).2.1
  rcases hi1 t g1 with a|a <;> rcases hi3 t g2 with b|b
  ·exact h.n13 t a b
  ·omega
  ·have:=o3 t b;omega
  ·omega
 ·intro t g1 g2
  have a1:=(hg2.lt g1).2.1
  rcases hi2 t g1 with a|a <;> rcases hi3 t g2 with b|b
  ·exact h.n23 t a b
  ·omega
  ·have:=o3 t b;omega
  ·omega
end
theorem swpU_semI {P : Program} {S : List Blk → Prop} {d : Option Nat} {op : SO} {tt : SU} {E : Env} {H : List Blk} {K : Env → List Blk → Prop} {v : AV} (h1 : ∀ H',S H' → swpOp P op (ev (aget E)) H' (OKs v H')) (h2 : swpU P S tt (aputO E d v) H K) : swpU P S (.sem ⟨d,op,none⟩ tt) E H K:=by
 rw [swpU_sem];exact ⟨v,h1,h2⟩
theorem aview_nmV (H : List Blk) (i ver off len : Nat) : aview H (.nm i ver off len) = NmV ver off len H[i]?:=by
 have:=aview_own [] H i ver off len
 simpa using this
theorem new_get {X ext Z : List Blk} {v : AV} (hf : ∀ (j : Nat) (b : Blk),tI v ≠ some j → (X ++ ext)[j]? = some b → Z[j]? = some b) (hlt : ∀ t,tI v = some t → t < X.length) (i : Nat) (hi : i < ext.length) (e : List Blk) : (Z ++ e)[X.length + i]? = ext[i]?:=by
 have h1:=hf (X.length + i) ext[i] (fun g=>by have:=hlt _ g;omega) (by rw [qV (Nat.le_add_right _ _),Nat.add_sub_cancel_left,qB hi])
 rw [qN (qC.1 h1).1,h1,qB hi]
theorem new_getZ {X ext Z : List Blk} {v : AV} (hf : ∀ (j : Nat) (b : Blk),tI v ≠ some j → (X ++ ext)[j]? = some b → Z[j]? = some b) (hlt : ∀ t,tI v = some t → t < X.length) (i : Nat) (hi : i < ext.length) : Z[X.length + i]? = ext[i]?:=by
 have:=new_get hf hlt i hi []
 rwa [List.append_nil] at this
end Go.Proofs.YtclfmfabcnbbpaaGreat
namespace Go.Proofs.YtclfmfabcnbbpaaGreat
open Go.Av
abbrev f_impl_tablesOf : Nat:=46
def c_impl_tablesOf : SC :=
 .seq (.reg [⟨s' 1,.box 34 (t' 0),n'⟩,⟨s' 2,.alloc 76 [(.int .i64 0),(.slice none 0 0),(.slice none 0 0),(.slice none 0 0),(.slice none 0 0)],n'⟩] [1,2]) (.seq (.reg [
 ⟨s' 9,.load 3 true (t' 1),n'⟩,⟨s' 10,.call 20 [(t' 9)],n'⟩,
 ⟨s' 11,.build [(.int .i64 0),(.slice none 0 0),(.slice none 0 0),(.slice none 0 0),(.slice none 0 0)] [(0,1,(t' 10))],n'⟩,
 ⟨s' 3,.alloc 76 [(.int .i64 0),(.slice none 0 0),(.slice none 0 0),(.slice none 0 0),(.slice none 0 0)],n'⟩,⟨n',.store 5 (t' 3) (t' 11),n'⟩] [1,2,3]) (.seq (.reg [
 ⟨s' 12,.faddr 0 (t' 3),n'⟩,⟨s' 13,.load 1 false (t' 12),n'⟩,⟨s' 14,.mslice 2 8 (.int .i64 0) (t' 13) (t' 13),n'⟩,⟨s' 15,.faddr 4 (t' 3),n'⟩,
 ⟨n',.store 1 (t' 15) (t' 14),n'⟩] [1,2,3]) (.seq (.seq (.reg [⟨s' 4,.mv (.const (.int .i64 0)),n'⟩] [1,2,3,4]) (.block 0 (.loop [1,2,3,4] (.seq (.seq (.reg [
 ⟨s' 16,.mv (t' 4),n'⟩,⟨s' 17,.faddr 0 (t' 3),n'⟩,⟨s' 18,.load 1 false (t' 17),n'⟩,⟨s' 19,.bin .lss (t' 16) (t' 18),n'⟩] [1,2,3,4,19]) (.cond (t' 19) (.skip) (.exit 0)))
 (.seq (.block 1 (.seq (.mix (.one ⟨s' 22,.faddr 0 (t' 3),n'⟩ (.one ⟨s' 23,.load 1 false (t' 22),n'⟩ (.one ⟨s' 25,.faddr 0 (t' 3),n'⟩ (.one ⟨s' 26,.load 1 false (t' 25),n'⟩
 (.one ⟨s' 28,.faddr 0 (t' 3),n'⟩ (.one ⟨s' 29,.load 1 false (t' 28),n'⟩ (.both (.both (.one ⟨s' 24,.mslice 2 8 (.int .i64 0) (t' 23) (t' 23),n'⟩ (.one ⟨s' 5,.mv (t' 24),n'⟩
 (.both (.one ⟨s' 27,.mslice 2 8 (.int .i64 0) (t' 26) (t' 26),n'⟩ (.one ⟨s' 6,.mv (t' 27),n'⟩ (.one ⟨s' 30,.mslice 2 8 (.int .i64 0) (t' 29) (t' 29),n'⟩
 (.one ⟨s' 7,.mv (t' 30),n'⟩ (.done))))) (.one ⟨s' 30,.mslice 2 8 (.int .i64 0) (t' 29) (t' 29),n'⟩ (.one ⟨s' 27,.mslice 2 8 (.int .i64 0) (t' 26) (t' 26),n'⟩
 (.one ⟨s' 6,.mv (t' 27),n'⟩ (.one ⟨s' 7,.mv (t' 30),n'⟩ (.done)))))))) (.one ⟨s' 27,.mslice 2 8 (.int .i64 0) (t' 26) (t' 26),n'⟩
 (.both (.one ⟨s' 24,.mslice 2 8 (.int .i64 0) (t' 23) (t' 23),n'⟩ (.one ⟨s' 5,.mv (t' 24),n'⟩ (.one ⟨s' 6,.mv (t' 27),n'⟩
 (.one ⟨s' 30,.mslice 2 8 (.int .i64 0) (t' 29) (t' 29),n'⟩ (.one ⟨s' 7,.mv (t' 30),n'⟩ (.done)))))) (.one ⟨s' 30,.mslice 2 8 (.int .i64 0) (t' 29) (t' 29),n'⟩
 (.one ⟨s' 24,.mslice 2 8 (.int .i64 0) (t' 23) (t' 23),n'⟩ (.one ⟨s' 5,.mv (t' 24),n'⟩ (.one ⟨s' 6,.mv (t' 27),n'⟩ (.one ⟨s' 7,.mv (t' 30),n'⟩ (.done)))))))))
 (.one ⟨s' 30,.mslice 2 8 (.int .i64 0) (t' 29) (t' 29),n'⟩ (.both (.one ⟨s' 24,.mslice 2 8 (.int .i64 0) (t' 23) (t' 23),n'⟩ (.one ⟨s' 5,.mv (t' 24),n'⟩
 (.one ⟨s' 27,.mslice 2 8 (.int .i64 0) (t' 26) (t' 26),n'⟩ (.one ⟨s' 6,.mv (t' 27),n'⟩ (.one ⟨s' 7,.mv (t' 30),n'⟩ (.done))))))
 (.one ⟨s' 27,.mslice 2 8 (.int .i64 0) (t' 26) (t' 26),n'⟩ (.one ⟨s' 24,.mslice 2 8 (.int .i64 0) (t' 23) (t' 23),n'⟩ (.one ⟨s' 5,.mv (t' 24),n'⟩ (.one ⟨s' 6,.mv (t' 27),n'⟩
 (.one ⟨s' 7,.mv (t' 30),n'⟩ (.done))))))))))))))) [1,2,3,4,5,6,7]) (.seq (.seq (.reg [⟨s' 8,.mv (.const (.int .i64 0)),n'⟩] [1,2,3,4,5,6,7,8]) (.block 2 (.loop [1,2,3,4,5,6,7,8]
 (.seq (.seq (.reg [⟨s' 31,.mv (t' 8),n'⟩,⟨s' 32,.faddr 0 (t' 3),n'⟩,⟨s' 33,.load 1 false (t' 32),n'⟩,⟨s' 34,.bin .lss (t' 31) (t' 33),n'⟩] [1,2,3,4,5,6,7,8,34]) (.cond (t' 34)
 (.skip) (.exit 2))) (.seq (.block 3 (.seq (.reg [⟨s' 37,.mv (t' 5),n'⟩,⟨s' 38,.mv (t' 8),n'⟩,⟨s' 39,.mv (t' 6),n'⟩,⟨s' 40,.mv (t' 8),n'⟩,⟨s' 41,.mv (t' 7),n'⟩,
 ⟨s' 42,.mv (t' 8),n'⟩,⟨s' 43,.load 3 true (t' 1),n'⟩,⟨s' 44,.mv (t' 4),n'⟩,⟨s' 45,.mv (t' 8),n'⟩,⟨s' 46,.qcall 67 [(t' 43),(t' 44),(t' 45),(.const (.int .i64 1))],n'⟩,
 ⟨s' 47,.load 3 true (t' 1),n'⟩,⟨s' 48,.mv (t' 4),n'⟩,⟨s' 49,.mv (t' 8),n'⟩,⟨s' 50,.qcall 67 [(t' 47),(t' 48),(t' 49),(.const (.int .i64 (-1)))],n'⟩,
 ⟨s' 51,.load 3 true (t' 1),n'⟩,⟨s' 52,.mv (t' 4),n'⟩,⟨s' 53,.mv (t' 8),n'⟩,⟨s' 54,.qcall 68 [(t' 51),(t' 52),(t' 53)],n'⟩,⟨s' 55,.iaddr 1 (t' 37) (t' 38),n'⟩,
 ⟨n',.store 1 (t' 55) (t' 46),n'⟩,⟨s' 56,.iaddr 1 (t' 39) (t' 40),n'⟩,⟨n',.store 1 (t' 56) (t' 50),n'⟩,⟨s' 57,.iaddr 1 (t' 41) (t' 42),n'⟩,
 ⟨n',.store 1 (t' 57) (t' 54),n'⟩] [1,2,3,4,5,6,7,8]) (.seq (.reg [⟨s' 58,.mv (t' 7),n'⟩,⟨s' 59,.mv (t' 8),n'⟩,⟨s' 60,.iaddr 1 (t' 58) (t' 59),n'⟩,
 ⟨s' 61,.load 1 false (t' 60),n'⟩,⟨s' 62,.bin .eql (t' 61) (.const (.int .i64 1)),n'⟩] [1,2,3,4,5,6,7,8,62]) (.cond (t' 62) (.reg [⟨s' 63,.faddr 4 (t' 3),n'⟩,
 ⟨s' 64,.load 1 false (t' 63),n'⟩,⟨s' 65,.mv (t' 4),n'⟩,⟨s' 66,.mv (t' 8),n'⟩,⟨s' 67,.iaddr 1 (t' 64) (t' 65),n'⟩,⟨n',.store 1 (t' 67) (t' 66),n'⟩] [1,2,3,4,5,6,7,8]) (.skip)))))
 (.reg [⟨s' 35,.mv (t' 8),n'⟩,⟨s' 36,.bin .add (t' 35) (.const (.int .i64 1)),n'⟩,⟨s' 8,.mv (t' 36),n'⟩] [1,2,3,4,5,6,7,8])))))) (.mixU (.sem ⟨s' 68,.faddr 1 (t' 3),n'⟩
 (.sem ⟨s' 69,.load 1 false (t' 68),n'⟩ (.sem ⟨s' 70,.mv (t' 5),n'⟩ (.sem ⟨s' 73,.faddr 2 (t' 3),n'⟩ (.sem ⟨s' 74,.load 1 false (t' 73),n'⟩ (.sem ⟨s' 75,.mv (t' 6),n'⟩
 (.sem ⟨s' 78,.faddr 3 (t' 3),n'⟩ (.sem ⟨s' 79,.load 1 false (t' 78),n'⟩ (.sem ⟨s' 80,.mv (t' 7),n'⟩ (.both (.both (.one ⟨s' 71,.bslice 22 1 1 [(.slice none 0 0)] [(0,(t' 70))],n'⟩
 (.both (.both (.one ⟨s' 72,.app 22 1 24 (t' 69) (t' 71),n'⟩ (.sem ⟨s' 83,.faddr 1 (t' 3),n'⟩ (.both (.one ⟨s' 76,.bslice 22 1 1 [(.slice none 0 0)] [(0,(t' 75))],n'⟩
 (.both (.one ⟨s' 77,.app 22 1 24 (t' 74) (t' 76),n'⟩ (.one ⟨s' 81,.bslice 22 1 1 [(.slice none 0 0)] [(0,(t' 80))],n'⟩ (.one ⟨s' 82,.app 22 1 24 (t' 79) (t' 81),n'⟩
 (.one ⟨n',.store 1 (t' 83) (t' 72),n'⟩ (.one ⟨s' 84,.faddr 2 (t' 3),n'⟩ (.one ⟨n',.store 1 (t' 84) (t' 77),n'⟩ (.one ⟨s' 85,.faddr 3 (t' 3),n'⟩
 (.one ⟨n',.store 1 (t' 85) (t' 82),n'⟩ (.done))))))))) (.one ⟨s' 81,.bslice 22 1 1 [(.slice none 0 0)] [(0,(t' 80))],n'⟩ (.one ⟨s' 77,.app 22 1 24 (t' 74) (t' 76),n'⟩
 (.one ⟨s' 82,.app 22 1 24 (t' 79) (t' 81),n'⟩ (.one ⟨n',.store 1 (t' 83) (t' 72),n'⟩ (.one ⟨s' 84,.faddr 2 (t' 3),n'⟩ (.one ⟨n',.store 1 (t' 84) (t' 77),n'⟩
 (.one ⟨s' 85,.faddr 3 (t' 3),n'⟩ (.one ⟨n',.store 1 (t' 85) (t' 82),n'⟩ (.done))))))))))) (.one ⟨s' 81,.bslice 22 1 1 [(.slice none 0 0)] [(0,(t' 80))],n'⟩
 (.one ⟨s' 76,.bslice 22 1 1 [(.slice none 0 0)] [(0,(t' 75))],n'⟩ (.one ⟨s' 77,.app 22 1 24 (t' 74) (t' 76),n'⟩ (.one ⟨s' 82,.app 22 1 24 (t' 79) (t' 81),n'⟩
 (.one ⟨n',.store 1 (t' 83) (t' 72),n'⟩ (.one ⟨s' 84,.faddr 2 (t' 3),n'⟩ (.one ⟨n',.store 1 (t' 84) (t' 77),n'⟩ (.one ⟨s' 85,.faddr 3 (t' 3),n'⟩
 (.one ⟨n',.store 1 (t' 85) (t' 82),n'⟩ (.done))))))))))))) (.one ⟨s' 76,.bslice 22 1 1 [(.slice none 0 0)] [(0,(t' 75))],n'⟩ (.both (.one ⟨s' 72,.app 22 1 24 (t' 69) (t' 71),n'⟩
 (.sem ⟨s' 83,.faddr 1 (t' 3),n'⟩ (.both (.one ⟨s' 77,.app 22 1 24 (t' 74) (t' 76),n'⟩ (.one ⟨s' 81,.bslice 22 1 1 [(.slice none 0 0)] [(0,(t' 80))],n'⟩
 (.one ⟨s' 82,.app 22 1 24 (t' 79) (t' 81),n'⟩ (.one ⟨n',.store 1 (t' 83) (t' 72),n'⟩ (.one ⟨s' 84,.faddr 2 (t' 3),n'⟩ (.one ⟨n',.store 1 (t' 84) (t' 77),n'⟩
 (.one ⟨s' 85,.faddr 3 (t' 3),n'⟩ (.one ⟨n',.store 1 (t' 85) (t' 82),n'⟩ (.done))))))))) (.one ⟨s' 81,.bslice 22 1 1 [(.slice none 0 0)] [(0,(t' 80))],n'⟩
 (.one ⟨s' 77,.app 22 1 24 (t' 74) (t' 76),n'⟩ (.one ⟨s' 82,.app 22 1 24 (t' 79) (t' 81),n'⟩ (.one ⟨n',.store 1 (t' 83) (t' 72),n'⟩ (.one ⟨s' 84,.faddr 2 (t' 3),n'⟩
 (.one ⟨n',.store 1 (t' 84) (t' 77),n'⟩ (.one ⟨s' 85,.faddr 3 (t' 3),n'⟩ (.one ⟨n',.store 1 (t' 85) (t' 82),n'⟩ (.done))))))))))))
 (.one ⟨s' 81,.bslice 22 1 1 [(.slice none 0 0)] [(0,(t' 80))],n'⟩ (.one ⟨s' 72,.app 22 1 24 (t' 69) (t' 71),n'⟩ (.sem ⟨s' 83,.faddr 1 (t' 3),n'⟩
 (.one ⟨s' 77,.app 22 1 24 (t' 74) (t' 76),n'⟩ (.one ⟨s' 82,.app 22 1 24 (t' 79) (t' 81),n'⟩ (.one ⟨n',.store 1 (t' 83) (t' 72),n'⟩ (.one ⟨s' 84,.faddr 2 (t' 3),n'⟩
 (.one ⟨n',.store 1 (t' 84) (t' 77),n'⟩ (.one ⟨s' 85,.faddr 3 (t' 3),n'⟩ (.one ⟨n',.store 1 (t' 85) (t' 82),n'⟩ (.done))))))))))))))
 (.one ⟨s' 81,.bslice 22 1 1 [(.slice none 0 0)] [(0,(t' 80))],n'⟩ (.both (.one ⟨s' 72,.app 22 1 24 (t' 69) (t' 71),n'⟩ (.sem ⟨s' 83,.faddr 1 (t' 3),n'⟩
 (.one ⟨s' 76,.bslice 22 1 1 [(.slice none 0 0)] [(0,(t' 75))],n'⟩ (.one ⟨s' 77,.app 22 1 24 (t' 74) (t' 76),n'⟩ (.one ⟨s' 82,.app 22 1 24 (t' 79) (t' 81),n'⟩
 (.one ⟨n',.store 1 (t' 83) (t' 72),n'⟩ (.one ⟨s' 84,.faddr 2 (t' 3),n'⟩ (.one ⟨n',.store 1 (t' 84) (t' 77),n'⟩ (.one ⟨s' 85,.faddr 3 (t' 3),n'⟩
 (.one ⟨n',.store 1 (t' 85) (t' 82),n'⟩ (.done))))))))))) (.one ⟨s' 76,.bslice 22 1 1 [(.slice none 0 0)] [(0,(t' 75))],n'⟩ (.one ⟨s' 72,.app 22 1 24 (t' 69) (t' 71),n'⟩
 (.sem ⟨s' 83,.faddr 1 (t' 3),n'⟩ (.one ⟨s' 77,.app 22 1 24 (t' 74) (t' 76),n'⟩ (.one ⟨s' 82,.app 22 1 24 (t' 79) (t' 81),n'⟩ (.one ⟨n',.store 1 (t' 83) (t' 72),n'⟩
 (.one ⟨s' 84,.faddr 2 (t' 3),n'⟩ (.one ⟨n',.store 1 (t' 84) (t' 77),n'⟩ (.one ⟨s' 85,.faddr 3 (t' 3),n'⟩ (.one ⟨n',.store 1 (t' 85) (t' 82),n'⟩ (.done)))))))))))))))
 (.one ⟨s' 76,.bslice 22 1 1 [(.slice none 0 0)] [(0,(t' 75))],n'⟩ (.both (.one ⟨s' 71,.bslice 22 1 1 [(.slice none 0 0)] [(0,(t' 70))],n'⟩
 (.both (.one ⟨s' 72,.app 22 1 24 (t' 69) (t' 71),n'⟩ (.sem ⟨s' 83,.faddr 1 (t' 3),n'⟩ (.both (.one ⟨s' 77,.app 22 1 24 (t' 74) (t' 76),n'⟩
 (.one ⟨s' 81,.bslice 22 1 1 [(.slice none 0 0)] [(0,(t' 80))],n'⟩ (.one ⟨s' 82,.app 22 1 24 (t' 79) (t' 81),n'⟩ (.one ⟨n',.store 1 (t' 83) (t' 72),n'⟩
 (.one ⟨s' 84,.faddr 2 (t' 3),n'⟩ (.one ⟨n',.store 1 (t' 84) (t' 77),n'⟩ (.one ⟨s' 85,.faddr 3 (t' 3),n'⟩ (.one ⟨n',.store 1 (t' 85) (t' 82),n'⟩ (.done)))))))))
 (.one ⟨s' 81,.bslice 22 1 1 [(.slice none 0 0)] [(0,(t' 80))],n'⟩ (.one ⟨s' 77,.app 22 1 24 (t' 74) (t' 76),n'⟩ (.one ⟨s' 82,.app 22 1 24 (t' 79) (t' 81),n'⟩
 (.one ⟨n',.store 1 (t' 83) (t' 72),n'⟩ (.one ⟨s' 84,.faddr 2 (t' 3),n'⟩ (.one ⟨n',.store 1 (t' 84) (t' 77),n'⟩ (.one ⟨s' 85,.faddr 3 (t' 3),n'⟩
 (.one ⟨n',.store 1 (t' 85) (t' 82),n'⟩ (.done)))))))))))) (.one ⟨s' 81,.bslice 22 1 1 [(.slice none 0 0)] [(0,(t' 80))],n'⟩ (.one ⟨s' 72,.app 22 1 24 (t' 69) (t' 71),n'⟩
 (.sem ⟨s' 83,.faddr 1 (t' 3),n'⟩ (.one ⟨s' 77,.app 22 1 24 (t' 74) (t' 76),n'⟩ (.one ⟨s' 82,.app 22 1 24 (t' 79) (t' 81),n'⟩ (.one ⟨n',.store 1 (t' 83) (t' 72),n'⟩
 (.one ⟨s' 84,.faddr 2 (t' 3),n'⟩ (.one ⟨n',.store 1 (t' 84) (t' 77),n'⟩ (.one ⟨s' 85,.faddr 3 (t' 3),n'⟩ (.one ⟨n',.store 1 (t' 85) (t' 82),n'⟩ (.done)))))))))))))
 (.one ⟨s' 81,.bslice 22 1 1 [(.slice none 0 0)] [(0,(t' 80))],n'⟩ (.one ⟨s' 71,.bslice 22 1 1 [(.slice none 0 0)] [(0,(t' 70))],n'⟩ (.one ⟨s' 72,.app 22 1 24 (t' 69) (t' 71),n'⟩
 (.sem ⟨s' 83,.faddr 1 (t' 3),n'⟩ (.one ⟨s' 77,.app 22 1 24 (t' 74) (t' 76),n'⟩ (.one ⟨s' 82,.app 22 1 24 (t' 79) (t' 81),n'⟩ (.one ⟨n',.store 1 (t' 83) (t' 72),n'⟩
 (.one ⟨s' 84,.faddr 2 (t' 3),n'⟩ (.one ⟨n',.store 1 (t' 84) (t' 77),n'⟩ (.one ⟨s' 85,.faddr 3 (t' 3),n'⟩ (.one ⟨n',.store 1 (t' 85) (t' 82),n'⟩ (.done)))))))))))))))
 (.one ⟨s' 81,.bslice 22 1 1 [(.slice none 0 0)] [(0,(t' 80))],n'⟩ (.both (.one ⟨s' 71,.bslice 22 1 1 [(.slice none 0 0)] [(0,(t' 70))],n'⟩
 (.both (.one ⟨s' 72,.app 22 1 24 (t' 69) (t' 71),n'⟩ (.sem ⟨s' 83,.faddr 1 (t' 3),n'⟩ (.one ⟨s' 76,.bslice 22 1 1 [(.slice none 0 0)] [(0,(t' 75))],n'⟩
 (.one ⟨s' 77,.app 22 1 24 (t' 74) (t' 76),n'⟩ (.one ⟨s' 82,.app 22 1 24 (t' 79) (t' 81),n'⟩ (.one ⟨n',.store 1 (t' 83) (t' 72),n'⟩ (.one ⟨s' 84,.faddr 2 (t' 3),n'⟩
 (.one ⟨n',.store 1 (t' 84) (t' 77),n'⟩ (.one ⟨s' 85,.faddr 3 (t' 3),n'⟩ (.one ⟨n',.store 1 (t' 85) (t' 82),n'⟩ (.done)))))))))))
 (.one ⟨s' 76,.bslice 22 1 1 [(.slice none 0 0)] [(0,(t' 75))],n'⟩ (.one ⟨s' 72,.app 22 1 24 (t' 69) (t' 71),n'⟩ (.sem ⟨s' 83,.faddr 1 (t' 3),n'⟩
 (.one ⟨s' 77,.app 22 1 24 (t' 74) (t' 76),n'⟩ (.one ⟨s' 82,.app 22 1 24 (t' 79) (t' 81),n'⟩ (.one ⟨n',.store 1 (t' 83) (t' 72),n'⟩ (.one ⟨s' 84,.faddr 2 (t' 3),n'⟩
 (.one ⟨n',.store 1 (t' 84) (t' 77),n'⟩ (.one ⟨s' 85,.faddr 3 (t' 3),n'⟩ (.one ⟨n',.store 1 (t' 85) (t' 82),n'⟩ (.done)))))))))))))
 (.one ⟨s' 76,.bslice 22 1 1 [(.slice none 0 0)] [(0,(t' 75))],n'⟩ (.one ⟨s' 71,.bslice 22 1 1 [(.slice none 0 0)] [(0,(t' 70))],n'⟩ (.one ⟨s' 72,.app 22 1 24 (t' 69) (t' 71),n'⟩
 (.sem ⟨s' 83,.faddr 1 (t' 3),n'⟩ (.one ⟨s' 77,.app 22 1 24 (t' 74) (t' 76),n'⟩ (.one ⟨s' 82,.app 22 1 24 (t' 79) (t' 81),n'⟩ (.one ⟨n',.store 1 (t' 83) (t' 72),n'⟩
 (.one ⟨s' 84,.faddr 2 (t' 3),n'⟩ (.one ⟨n',.store 1 (t' 84) (t' 77),n'⟩ (.one ⟨s' 85,.faddr 3 (t' 3),n'⟩ (.one ⟨n',.store 1 (t' 85) (t' 82),n'⟩
 (.done)))))))))))))))))))))))) [1,2,3,4])))) (.reg [⟨s' 20,.mv (t' 4),n'⟩,⟨s' 21,.bin .add (t' 20) (.const (.int .i64 1)),n'⟩,⟨s' 4,.mv (t' 21),n'⟩] [1,2,3,4])))))) (.seq (.reg [
 ⟨s' 86,.load 5 true (t' 3),n'⟩,⟨n',.store 5 (t' 2) (t' 86),n'⟩] [2]) (.ret)))))
theorem s_impl_tablesOf : stripF Tryz.prog 46 [[1,2],[1,2,3],[1,2,3],[1,2,3,4],[1,2,3,4],[1,2,3,4,19],[1,2,3,4,5,6,7],[1,2,3,4,5,6,7,8],[1,2,3,4,5,6,7,8],[1,2,3,4,5,6,7,8,34],[1,2,3,4,5,6,7,8],[1,2,3,4,5,6,7,8,62],[1,2,3,4,5,6,7,8],[1,2,3,4,5,6,7,8],[1,2,3,4,1005000],[1,2,3,4],[2]] = some (c_impl_tablesOf,[.cell 2 5],87):=by kernel_rfl
def tabG (f : Nat → Nat → Int) (q j : Nat) : List (List Int):=(w7 j).map fun a=>(w7 q).map (f a)
theorem tabG_succ (f : Nat → Nat → Int) (q j : Nat) : tabG f q (j + 1) = tabG f q j ++ [(w7 q).map (f j)]:=by
 unfold tabG;rw [xD,xB];rfl
def rowG (f : Nat → Int) (q j : Nat) : List Int:=(w7 j).map f ++ qT (q - j) 0
theorem rowG_len (f : Nat → Int) {q j : Nat} (h : j ≤ q) : (rowG f q j).length = q:=by unfold rowG;simp;omega
theorem rowG_all (f : Nat → Int) (q : Nat) : rowG f q q = (w7 q).map f:=by unfold rowG;simp
theorem rowG_set (f : Nat → Int) {q j : Nat} (h : j < q) : (rowG f q j).set j (f j) = rowG f q (j + 1):=by
 unfold rowG
 rw [x6 _ _ (by simp),w8,xJ,wS,show q - j = (q - (j + 1)) + 1 by omega,List.replicate_succ,xD,xB,wV]
 rfl
theorem rowG_get (f : Nat → Int) {q j : Nat} (h : j < q) : ((rowG f q (j + 1)).map I)[j]? = some (I (f j)):=by
 unfold rowG
 rw [qX,qN (by simp),qX,xK (by omega)]
 rfl
def invB (f : Nat → Int) : Nat → Int
 | 0=>0
 | j + 1=>if f j = 1 then (j : Int) else invB f j
def invL (f : Nat → Nat → Int) (q : Nat) : List Int:=(w7 q).map fun a=>invB (f a) q
structure RowB (q : Nat) (X Y : List Blk) (ri ra rb rc : Nat) (xi xa xb xc : List Int) : Prop where
 li : Y[ri]? = some (rowI xi)
 la : Y[ra]? = some (rowI xa)
 lb : Y[rb]? = some (rowI xb)
 lc : Y[rc]? = some (rowI xc)
 fr : ∀ j,j ≠ ri → j ≠ ra → j ≠ rb → j ≠ rc → Y[j]? = X[j]?
 len : Y.length = X.length
 ni : xi.length = q
 na : xa.length = q
 nb : xb.length = q
 nc : xc.length = q
 nia : ri ≠ ra
 nib : ri ≠ rb
 nic : ri ≠ rc
 nab : ra ≠ rb
 nac : ra ≠ rc
 nbc : rb ≠ rc
section
variable {q : Nat} {X Y : List Blk} {ri ra rb rc : Nat} {xi xa xb xc : List Int}
theorem view_row {r : Nat} {xs : List Int} (h : Y[r]? = some (rowI xs)) (hl : xs.length = q) : aview Y (.nm r 0 0 q) = some (q,xs.map I):=by
 rw [aview_nmV,h,NmV_some,qW (by simp [hl])]
theorem RowB.stI (h : RowB q X Y ri ra rb rc xi xa xb xc) {j : Nat} (hj : j < q) (c : Int) : ∃ Z,astore Y [I c] (.el (.nm ri 0 0 q) j) = some Z ∧ RowB q X Z ri ra rb rc (xi.set j c) xa xb xc:=by
 have h1:=h.nia;have h2:=h.nib;have h3:=h.nic;have hl:=(qC.1 h.li).1
 refine ⟨_,store_nm h.li (by rw [w8,h.ni];exact hj),⟨?_,?_,?_,?_,fun k k1 k2 k3 k4=>?_,by rw [w6];exact h.len,by rw [w6];exact h.ni,h.na,h.nb,h.nc,h.nia,h.nib,h.nic,h.nab,h.nac,h.nbc⟩⟩
 ·rw [qY hl,← xL]
 ·rw [qR (by omega)];exact h.la
 ·rw [qR (by omega)];exact h.lb
 ·rw [qR (by omega)];exact h.lc
 ·rw [qR (by omega)];exact h.fr k k1 k2 k3 k4
theorem RowB.stA (h : RowB q X Y ri ra rb rc xi xa xb xc) {j : Nat} (hj : j < q) (c : Int) : ∃ Z,astore Y [I c] (.el (.nm ra 0 0 q) j) = some Z ∧ RowB q X Z ri ra rb rc xi (xa.set j c) xb xc:=by
 have h1:=h.nia;have h2:=h.nab;have h3:=h.nac;have hl:=(qC.1 h.la).1
 refine ⟨_,store_nm h.la (by rw [w8,h.na];exact hj),⟨?_,?_,?_,?_,fun k k1 k2 k3 k4=>?_,by rw [w6];exact h.len,h.ni,by rw [w6];exact h.na,h.nb,h.nc,h.nia,h.nib,h.nic,h.nab,h.nac,h.nbc⟩⟩
 ·rw [qR (by omega)];exact h.li
 ·rw [qY hl,← xL]
 ·rw [qR (by omega)];exact h.lb
 ·rw [qR (by omega)];exact h.lc
 ·rw [qR (by omega)];exact h.fr k k1 k2 k3 k4
theorem RowB.stB (h : RowB q X Y ri ra rb rc xi xa xb xc) {j : Nat} (hj : j < q) (c : Int) : ∃ Z,astore Y [I c] (.el (.nm rb 0 0 q) j) = some Z ∧ RowB q X Z ri ra rb rc xi xa (xb.set j c) xc:=by
 have h1:=h.nib;have h2:=h.nab;have h3:=h.nbc;have hl:=(qC.1 h.lb).1
 refine ⟨_,store_nm h.lb (by rw [w8,h.nb];exact hj),⟨?_,?_,?_,?_,fun k k1 k2 k3 k4=>?_,by rw [w6];exact h.len,h.ni,h.na,by rw [w6];exact h.nb,h.nc,h.nia,h.nib,h.nic,h.nab,h.nac,h.nbc⟩⟩
 ·rw [qR (by omega)];exact h.li
 ·rw [qR (by omega)];exact h.la
 ·rw [qY hl,← xL]
 ·rw [qR (by omega)];exact h.lc
 ·rw [qR (by omega)];exact h.fr k k1 k2 k3 k4
theorem RowB.stC (h : RowB q X Y ri ra rb rc xi xa xb xc) {j : Nat} (hj : j < q) (c : Int) : ∃ Z,astore Y [I c] (.el (.nm rc 0 0 q) j) = some Z ∧ RowB q X Z ri ra rb rc xi xa xb (xc.set j c):=by
 have h1:=h.nic;have h2:=h.nac;have h3:=h.nbc;have hl:=(qC.1 h.lc).1
 refine ⟨_,store_nm h.lc (by rw [w8,h.nc];exact hj),⟨?_,?_,?_,?_,fun k k1 k2 k3 k4=>?_,by rw [w6];exact h.len,h.ni,h.na,h.nb,by rw [w6];exact h.nc,h.nia,h.nib,h.nic,h.nab,h.nac,h.nbc⟩⟩
 ·rw [qR (by omega)];exact h.li
 ·rw [qR (by omega)];exact h.la
 ·rw [qR (by omega)];exact h.lb
 ·rw [qY hl,← xL]
 ·rw [qR (by omega)];exact h.fr k k1 k2 k3 k4
end
theorem froz_agg5 {H : List Blk} {b : Nat} {a a' c c' d d' e e' f f' : AV} (h1 : Froz H b a a') (h2 : Froz H b c c') (h3 : Froz H b d d') (h4 : Froz H b e e') (h5 : Froz H b f f') : Froz H b (.agg [a,c,d,e,f]) (.agg [a',c',d',e',f']):=by
 refine .agg _ _ rfl fun j x y g1 g2=>?_
 match j with
 | 0=>cases g1;cases g2;exact h1
 | 1=>cases g1;cases g2;exact h2
 | 2=>cases g1;cases g2;exact h3
 | 3=>cases g1;cases g2;exact h4
 | 4=>cases g1;cases g2;exact h5
 | j + 5=>simp at g1
theorem tablesOf_fn (P K : Nat) (poly : List Int) (hpb : 2 ≤ P ∧ P ≤ 64) (hkb : 1 ≤ K ∧ K ≤ 6) (hLb : OkD P poly ∧ poly.length = K + 1) (hq : P ^ K ≤ 64) : PFn Tryz.prog f_impl_tablesOf [.agg [I P,I K,ilS poly]] (.agg [I (P ^ K : Nat),ilSS (tabG (fun a b=>sumG P K a b 1) (P ^ K) (P ^ K)),ilSS (tabG (fun a b=>sumG P K a b (P - 1)) (P ^ K) (P ^ K)),ilSS (tabG (fun a b=>mulG P K poly a b) (P ^ K) (P ^ K)),ilS (invL (fun a b=>mulG P K poly a b) (P ^ K))]):=by
 intro H
 have hfs:=fieldSize_fn P K poly (by omega) (by omega)
 rw [pwU_le (by omega) K 1 (qZ _) (by omega),Nat.one_mul] at hfs
 have hq1 : 1 ≤ P ^ K:=Nat.pow_pos (by omega)
 have f1 : ∀ a b : Nat,a < P ^ K → b < P ^ K → PFn Tryz.prog f_impl_combine [.agg [I P,I K,ilS poly],I a,I b,I 1] (I (sumG P K a b 1)):=fun a b ha hb=>by
  have:=combine_fn P K poly a b 1 hpb hkb (by omega) (by omega) (by omega)
  rwa [if_pos rfl] at this
 have f2 : ∀ a b : Nat,a < P ^ K → b < P ^ K → PFn Tryz.prog f_impl_combine [.agg [I P,I K,ilS poly],I a,I b,I (-1)] (I (sumG P K a b (P - 1))):=fun a b ha hb=>by
  have:=combine_fn P K poly a b (-1) hpb hkb (by omega) (by omega) (by omega)
  rwa [if_neg (by decide)] at this
 have f3 : ∀ a b : Nat,a < P ^ K → b < P ^ K → PFn Tryz.prog f_impl_product [.agg [I P,I K,ilS poly],I a,I b] (I (mulG P K poly a b)):=fun a b ha hb =>
  product_fn P K poly a b hpb hkb hLb (by omega) (by omega)
 refine ACalls.introB s_impl_tablesOf (by simp) ?_;intro hB hA;unfold c_impl_tablesOf;simp (maxSteps:=1000000) (disch:=(first|omega|(simp only [go_sem];try omega))) only [go_sem,Nat.reduceAdd,Nat.reduceEqDiff,Nat.reduceLeDiff,Nat.reduceMul,Nat.reduceLT,reduceIte,Int.reduceToNat,w64_id,cast_succ]
 repeat (first|(with_reducible first|refine SW.seq ?_|refine q8 ?_|refine SW.rowC ?_|refine SW.skip ?_|refine SW.exit ?_|refine PFn.use (hfs) ?_|refine PFn.useq (hfs) ?_|intro _|refine And.intro (by omega) ?_)|simp (maxSteps:=1000000) (disch:=(first|omega|(simp only [go_sem];try omega))) only [go_sem,Nat.reduceAdd,Nat.reduceEqDiff,Nat.reduceLeDiff,Nat.reduceMul,Nat.reduceLT,reduceIte,Int.reduceToNat,w64_id,cast_succ])
 generalize hqq : P ^ K = q at *
 generalize hF1 : (fun a b=>sumG P K a b 1) = F1 at *
 generalize hF2 : (fun a b=>sumG P K a b (P - 1)) = F2 at *
 generalize hF3 : (fun a b=>mulG P K poly a b) = F3 at *
 have g1 : ∀ a b : Nat,sumG P K a b 1 = F1 a b:=fun a b=>by rw [← hF1]
 have g2 : ∀ a b : Nat,sumG P K a b (P - 1) = F2 a b:=fun a b=>by rw [← hF2]
 have g3 : ∀ a b : Nat,mulG P K poly a b = F3 a b:=fun a b=>by rw [← hF3]
 simp only [g1,g2,g3] at f1 f2 f3
 generalize hX0 : (H ++
   [{ ver:=0,ty:=tyFd,sz:=1,cells:=[I ↑P,I ↑K,ilS poly] },
    { ver:=0,ty:=tyAr,sz:=1,cells:=[I 0,nilS,nilS,nilS,nilS] },
    { ver:=0,ty:=tyAr,sz:=1,cells:=[I ↑q,nilS,nilS,nilS,AV.nm (H.length + 3) 0 0 q] },
    { ver:=0,ty:=2,sz:=1,cells:=List.map I (qT q 0) }] : List Blk) = X0
 have hXl : X0.length = H.length + 4:=by rw [← hX0];simp
 have hX2 : X0[H.length + 2]? = some ⟨0,tyAr,1,[I q,nilS,nilS,nilS,AV.nm (H.length + 3) 0 0 q]⟩:=by rw [← hX0,qV (by omega),show H.length + 2 - H.length = 2 by omega];rfl
 have hXf : X0[H.length]? = some ⟨0,tyFd,1,[I P,I K,ilS poly]⟩:=by rw [← hX0,qV (by omega),wS];rfl
 have hXi : X0[H.length + 3]? = some (rowI (qT q 0)):=by rw [← hX0,qV (by omega),show H.length + 3 - H.length = 3 by omega];rfl
 have hXH : ∀ j,j < H.length → X0[j]? = H[j]?:=fun j hj=>by rw [← hX0,qN hj]
 refine wJ (fun E0 H0 m E' H'=>∃ (a : Nat) (v1 v2 v3 : AV) (r1 r2 r3 : List Nat),a ≤ q ∧ m = q - a ∧ E' = aput E0 4 (I a) ∧ r1.length = a ∧ r2.length = a ∧ r3.length = a ∧
   ArP (X0.set (H.length + 3) (rowI (rowG (fun a=>invB (F3 a) q) q a))) H' (H.length + 4) (H.length + 2) q (AV.nm (H.length + 3) 0 0 q) v1 v2 v3 r1 r2 r3 (tabG F1 q a) (tabG F2 q a) (tabG F3 q a)) q
  ⟨0,nilS,nilS,nilS,[],[],[],by omega,by omega,rfl,rfl,rfl,rfl,⟨hX2,⟨by omega,by omega⟩,fun j _ _=>by
   by_cases hj : j = H.length + 3
   ·subst hj;rw [qY (by omega),hXi];rfl
   ·rw [qR (fun e=>hj e.symm)],.inl ⟨rfl,rfl⟩,.inl ⟨rfl,rfl⟩,.inl ⟨rfl,rfl⟩,(fun t h=>by cases h),(fun t h=>by cases h),(fun t h=>by cases h),⟨rfl,fun i r h=>by simp at h⟩,⟨rfl,fun i r h=>by simp at h⟩,⟨rfl,fun i r h=>by simp at h⟩⟩⟩ ?_
 rintro m E' X ⟨a,v1,v2,v3,r1,r2,r3,ha,rfl,rfl,hr1,hr2,hr3,hM⟩
 have hpa:=fun o=>pc_alive (off:=o) hM.box
 have hpl:=fun o=>pc_ld (off:=o) hM.box
 simp (maxSteps:=1000000) (disch:=(first|omega|(simp only [go_sem];try omega))) only [go_sem,Nat.reduceAdd,Nat.reduceEqDiff,Nat.reduceLeDiff,Nat.reduceMul,Nat.reduceLT,reduceIte,Int.reduceToNat,w64_id,cast_succ]
 repeat (first|(with_reducible first|refine SW.seq ?_|refine q8 ?_|refine SW.rowC ?_|refine SW.skip ?_|refine SW.exit ?_|intro _|refine And.intro (by omega) ?_)|simp (maxSteps:=1000000) (disch:=(first|omega|(simp only [go_sem];try omega))) only [go_sem,Nat.reduceAdd,Nat.reduceEqDiff,Nat.reduceLeDiff,Nat.reduceMul,Nat.reduceLT,reduceIte,Int.reduceToNat,w64_id,cast_succ,hpa,hpl])
 (first|refine wK rfl (fun h2=>?_) (fun h2=>?_)|refine wL rfl (fun h2=>?_) (fun h2=>?_)|refine wF rfl (fun h2=>?_) (fun h2=>?_)|refine wH rfl (fun h2=>?_) (fun h2=>?_))
 ·have haq : a < q:=by omega
  have hSx : ∀ ext,(X ++ ext)[H.length + 2]? = some ⟨0,tyAr,1,[I q,v1,v2,v3,AV.nm (H.length + 3) 0 0 q]⟩:=fun ext=>get_appU hM.box ext
  have hpa1:=fun o ext=>pc_alive (off:=o) (hSx ext)
  have hpl1:=fun o ext=>pc_ld (off:=o) (hSx ext)
  repeat (first|(with_reducible first|refine SW.seq ?_|refine q8 ?_|refine SW.rowC ?_|refine SW.skip ?_|refine SW.exit ?_|intro _|refine And.intro (by omega) ?_)|simp (maxSteps:=1000000) (disch:=(first|omega|(simp only [go_sem];try omega))) only [go_sem,Nat.reduceAdd,Nat.reduceEqDiff,Nat.reduceLeDiff,Nat.reduceMul,Nat.reduceLT,reduceIte,Int.reduceToNat,w64_id,cast_succ])
  refine SW.mixR (fun E2 H2=>∃ ra rb rc : Nat,keep [1,2,3,4,5,6,7] E2 = [(1,AV.pc H.length 0 0),(2,AV.pc (H.length + 1) 0 0),(3,AV.pc (H.length + 2) 0 0),(4,I a),(5,.nm ra 0 0 q),(6,.nm rb 0 0 q),(7,.nm rc 0 0 q)] ∧ H2 = X ++ [rowI (qT q 0),rowI (qT q 0),rowI (qT q 0)] ∧ (X.length ≤ ra ∧ ra < X.length + 3) ∧ (X.length ≤ rb ∧ rb < X.length + 3) ∧ (X.length ≤ rc ∧ rc < X.length + 3) ∧ ra ≠ rb ∧ ra ≠ rc ∧ rb ≠ rc) ?_ ?_
  ·simp (maxSteps:=1000000) (disch:=(first|omega|(simp only [go_sem];try omega))) only [go_sem,Nat.reduceAdd,Nat.reduceEqDiff,Nat.reduceLeDiff,Nat.reduceMul,Nat.reduceLT,reduceIte,Int.reduceToNat,w64_id,cast_succ,hpa,hpl,hpa1,hpl1]
   repeat' (with_reducible refine And.intro ?_ ?_)
   all_goals first|omega|exact ⟨_,_,_,rfl,by omega,by omega,by omega,by omega,by omega,by omega⟩
  ·rintro E2 H2 ⟨ra,rb,rc,hk2,rfl,hra,hrb,hrc,nab,nac,nbc⟩
   rw [hk2]
   have hXf2 : X[H.length]? = some ⟨0,tyFd,1,[I P,I K,ilS poly]⟩:=by rw [hM.fr H.length (by omega) (by omega),qR (by omega)];exact hXf
   have hXi2 : X[H.length + 3]? = some (rowI (rowG (fun a=>invB (F3 a) q) q a)):=by rw [hM.fr _ (by omega) (by omega),qY (by omega)]
   have hlX : H.length + 4 ≤ X.length:=hM.pL.2
   generalize hX1 : X ++ [rowI (qT q 0),rowI (qT q 0),rowI (qT q 0)] = X1
   have hX1l : X1.length = X.length + 3:=by rw [← hX1];simp
   have hX1o : ∀ j,j < X.length → X1[j]? = X[j]?:=fun j hj=>by rw [← hX1,qN hj]
   have hX1n : ∀ r,X.length ≤ r → r < X.length + 3 → X1[r]? = some (rowI (qT q 0)):=fun r h1 h2=>by
    rw [← hX1,qV h1]
    match hr : r - X.length with
    | 0=>rfl
    | 1=>rfl
    | 2=>rfl
    | k + 3=>omega
   have hB0 : RowB q X1 X1 (H.length + 3) ra rb rc ((rowG (fun a=>invB (F3 a) q) q a).set a (invB (F3 a) 0)) (rowG (F1 a) q 0) (rowG (F2 a) q 0) (rowG (F3 a) q 0):=by
    refine ⟨?_,hX1n ra hra.1 hra.2,hX1n rb hrb.1 hrb.2,hX1n rc hrc.1 hrc.2,fun _ _ _ _ _=>rfl,rfl,by rw [w6,rowG_len _ ha],rowG_len _ (by omega),rowG_len _ (by omega),rowG_len _ (by omega),by omega,by omega,by omega,nab,nac,nbc⟩
    rw [hX1o _ (by omega),hXi2]
    congr 2
    refine xU fun i=>?_
    rw [xR]
    split
    ·rename_i e
     subst e
     rw [if_pos (by rw [rowG_len _ ha];exact haq)]
     unfold rowG
     rw [qV (by simp),w8,xJ,wS,List.getElem?_replicate,if_pos (by omega)]
     rfl
    ·rfl
   repeat (first|(with_reducible first|refine SW.seq ?_|refine q8 ?_|refine SW.rowC ?_|refine SW.skip ?_|refine SW.exit ?_|intro _|refine And.intro (by omega) ?_)|simp (maxSteps:=1000000) (disch:=(first|omega|(simp only [go_sem];try omega))) only [go_sem,Nat.reduceAdd,Nat.reduceEqDiff,Nat.reduceLeDiff,Nat.reduceMul,Nat.reduceLT,reduceIte,Int.reduceToNat,w64_id,cast_succ])
   refine wJ (fun E0 H0 m E' H'=>∃ j : Nat,j ≤ q ∧ m = q - j ∧ E' = aput E0 8 (I j) ∧ RowB q X1 H' (H.length + 3) ra rb rc ((rowG (fun a=>invB (F3 a) q) q a).set a (invB (F3 a) j)) (rowG (F1 a) q j) (rowG (F2 a) q j) (rowG (F3 a) q j)) q ⟨0,by omega,by omega,rfl,hB0⟩ ?_
   rintro m E' Y ⟨j,hj,rfl,rfl,hY⟩
   have box : ∀ {Y : List Blk} {xi xa xb xc : List Int},RowB q X1 Y (H.length + 3) ra rb rc xi xa xb xc → Y[H.length + 2]? = some ⟨0,tyAr,1,[I q,v1,v2,v3,AV.nm (H.length + 3) 0 0 q]⟩:=fun h=>by
    rw [h.fr _ (by omega) (by omega) (by omega) (by omega),hX1o _ (by omega)];exact hM.box
   have hya:=fun o=>pc_alive (off:=o) (box hY)
   have hyl:=fun o=>pc_ld (off:=o) (box hY)
   have hyf : Y[H.length]? = some ⟨0,tyFd,1,[I P,I K,ilS poly]⟩:=by
    rw [hY.fr _ (by omega) (by omega) (by omega) (by omega),hX1o _ (by omega)];exact hXf2
   have hyd:=pc_lds (off:=0) (n:=3) hyf (by simp)
   have hyfa:=fun o=>pc_alive (off:=o) hyf
   simp (maxSteps:=1000000) (disch:=(first|omega|(simp only [go_sem];try omega))) only [go_sem,Nat.reduceAdd,Nat.reduceEqDiff,Nat.reduceLeDiff,Nat.reduceMul,Nat.reduceLT,reduceIte,Int.reduceToNat,w64_id,cast_succ]
   repeat (first|(with_reducible first|refine SW.seq ?_|refine q8 ?_|refine SW.rowC ?_|refine SW.skip ?_|refine SW.exit ?_|intro _|refine And.intro (by omega) ?_)|simp (maxSteps:=1000000) (disch:=(first|omega|(simp only [go_sem];try omega))) only [go_sem,Nat.reduceAdd,Nat.reduceEqDiff,Nat.reduceLeDiff,Nat.reduceMul,Nat.reduceLT,reduceIte,Int.reduceToNat,w64_id,cast_succ,hya,hyl])
   (first|refine wK rfl (fun h3=>?_) (fun h3=>?_)|refine wL rfl (fun h3=>?_) (fun h3=>?_)|refine wF rfl (fun h3=>?_) (fun h3=>?_)|refine wH rfl (fun h3=>?_) (fun h3=>?_))
   ·have hjq : j < q:=by omega
    obtain ⟨Y1,s1,hY1⟩:=hY.stA hjq (F1 a j)
    obtain ⟨Y2,s2,hY2⟩:=hY1.stB hjq (F2 a j)
    obtain ⟨Y3,s3,hY3⟩:=hY2.stC hjq (F3 a j)
    rw [rowG_set _ hjq,rowG_set _ hjq,rowG_set _ hjq] at hY3
    have c1:=f1 a j haq hjq
    have c2:=f2 a j haq hjq
    have c3:=f3 a j haq hjq
    have w1:=view_row hY.la hY.na
    have w2:=view_row hY1.lb hY1.nb
    have w3:=view_row hY2.lc hY2.nc
    have w4:=view_row hY3.lc hY3.nc
    have hy3a:=fun o=>pc_alive (off:=o) (box hY3)
    have hy3l:=fun o=>pc_ld (off:=o) (box hY3)
    have hv:=rowG_get (F3 a) hjq
    repeat (first|(with_reducible first|refine SW.seq ?_|refine q8 ?_|refine SW.rowC ?_|refine SW.skip ?_|refine SW.exit ?_|refine PFn.use (c1) ?_|refine PFn.useq (c1) ?_|refine PFn.use (c2) ?_|refine PFn.useq (c2) ?_|refine PFn.use (c3) ?_|refine PFn.useq (c3) ?_|intro _|refine And.intro (by omega) ?_)|simp (maxSteps:=1000000) (disch:=(first|omega|(simp only [go_sem];try omega))) only [go_sem,Nat.reduceAdd,Nat.reduceEqDiff,Nat.reduceLeDiff,Nat.reduceMul,Nat.reduceLT,reduceIte,Int.reduceToNat,w64_id,cast_succ,hyd,hyfa,s1,s2,s3,w1,w2,w3])
    repeat (first|(with_reducible first|refine SW.seq ?_|refine q8 ?_|refine SW.rowC ?_|refine SW.skip ?_|refine SW.exit ?_|intro _|refine And.intro (by omega) ?_)|simp (maxSteps:=1000000) (disch:=(first|omega|(simp only [go_sem];try omega))) only [go_sem,Nat.reduceAdd,Nat.reduceEqDiff,Nat.reduceLeDiff,Nat.reduceMul,Nat.reduceLT,reduceIte,Int.reduceToNat,w64_id,cast_succ,w4,hv])
    (first|refine wK rfl (fun h4=>?_) (fun h4=>?_)|refine wL rfl (fun h4=>?_) (fun h4=>?_)|refine wF rfl (fun h4=>?_) (fun h4=>?_)|refine wH rfl (fun h4=>?_) (fun h4=>?_))
    ·obtain ⟨Y4,s4,hY4⟩:=hY3.stI haq (j : Int)
     have w5:=view_row hY3.li hY3.ni
     repeat (first|(with_reducible first|refine SW.seq ?_|refine q8 ?_|refine SW.rowC ?_|refine SW.skip ?_|refine SW.exit ?_|intro _|refine And.intro (by omega) ?_)|simp (maxSteps:=1000000) (disch:=(first|omega|(simp only [go_sem];try omega))) only [go_sem,Nat.reduceAdd,Nat.reduceEqDiff,Nat.reduceLeDiff,Nat.reduceMul,Nat.reduceLT,reduceIte,Int.reduceToNat,w64_id,cast_succ,hy3a,hy3l,w5,s4])
     refine wB (q - (j + 1)) (by omega) ⟨j + 1,by omega,rfl,by simp [go_sem],?_⟩
     rw [yB] at hY4
     have e : invB (F3 a) (j + 1) = j:=by rw [invB,if_pos h4]
     rw [e]
     exact hY4
    ·repeat (first|(with_reducible first|refine SW.seq ?_|refine q8 ?_|refine SW.rowC ?_|refine SW.skip ?_|refine SW.exit ?_|intro _|refine And.intro (by omega) ?_)|simp (maxSteps:=1000000) (disch:=(first|omega|(simp only [go_sem];try omega))) only [go_sem,Nat.reduceAdd,Nat.reduceEqDiff,Nat.reduceLeDiff,Nat.reduceMul,Nat.reduceLT,reduceIte,Int.reduceToNat,w64_id,cast_succ])
     refine wB (q - (j + 1)) (by omega) ⟨j + 1,by omega,rfl,by simp [go_sem],?_⟩
     have e : invB (F3 a) (j + 1) = invB (F3 a) j:=by rw [invB,if_neg h4]
     rw [e]
     exact hY3
   ·have hjq : j = q:=by omega
    subst hjq
    have z1:=rowG_all (F1 a) j
    have z2:=rowG_all (F2 a) j
    have z3:=rowG_all (F3 a) j
    rw [z1,z2,z3] at hY
    have hM2 : ArP (X0.set (H.length + 3) (rowI (rowG (fun a=>invB (F3 a) j) j (a + 1)))) Y (H.length + 4) (H.length + 2) j (AV.nm (H.length + 3) 0 0 j) v1 v2 v3 r1 r2 r3 (tabG F1 j a) (tabG F2 j a) (tabG F3 j a):=by
     have keepY : ∀ (t : Nat),H.length + 4 ≤ t → t < X.length → Y[t]? = X[t]?:=fun t h1 h2=>by
      rw [hY.fr t (by omega) (by omega) (by omega) (by omega),hX1o t h2]
     have kg : ∀ {v : AV} {r : List Nat},GrQ X (H.length + 4) v j r → GrQ Y (H.length + 4) v j r:=fun h=>h.same fun t b ht hb=>by
      have:=h.lt ht
      rw [keepY t this.1 this.2.1];exact hb
     have kr : ∀ {r : List Nat} {x : List (List Int)},RowsQ X (H.length + 4) j r x → RowsQ Y (H.length + 4) j r x:=fun h=>h.same fun r b hr hb _=>by
      rw [keepY r hr (qC.1 hb).1];exact hb
     refine ⟨box hY,⟨by omega,by rw [hY.len];omega⟩,fun k hk hkp=>?_,kg hM.g1,kg hM.g2,kg hM.g3,hM.n12,hM.n13,hM.n23,kr hM.q1,kr hM.q2,kr hM.q3⟩
     by_cases hk3 : k = H.length + 3
     ·subst hk3
      rw [hY.li,qY (by omega),rowG_set (fun a=>invB (F3 a) j) haq]
     ·rw [hY.fr k hk3 (by omega) (by omega) (by omega),hX1o k (by omega),hM.fr k hk hkp,qR (by omega),qR (by omega)]
    have hha : H.length + 4 ≤ ra ∧ ((w7 j).map (F1 a)).length = j ∧ Y[ra]? = some (rowI ((w7 j).map (F1 a))):=⟨by omega,by simp,hY.la⟩
    have hhb : H.length + 4 ≤ rb ∧ ((w7 j).map (F2 a)).length = j ∧ Y[rb]? = some (rowI ((w7 j).map (F2 a))):=⟨by omega,by simp,hY.lb⟩
    have hhc : H.length + 4 ≤ rc ∧ ((w7 j).map (F3 a)).length = j ∧ Y[rc]? = some (rowI ((w7 j).map (F3 a))):=⟨by omega,by simp,hY.lc⟩
    clear hY hyf hyd hyfa hya hyl hB0 hX1o hX1n hX1 hM
    clear hSx hpa1 hpl1 hpa hpl
    have hpa:=fun o=>pc_alive (off:=o) hM2.box
    have hpl:=fun o=>pc_ld (off:=o) hM2.box
    repeat (first|(with_reducible first|refine SW.seq ?_|refine q8 ?_|refine SW.rowC ?_|refine SW.skip ?_|refine SW.exit ?_|intro _|refine And.intro (by omega) ?_)|simp (maxSteps:=1000000) (disch:=(first|omega|(simp only [go_sem];try omega))) only [go_sem,Nat.reduceAdd,Nat.reduceEqDiff,Nat.reduceLeDiff,Nat.reduceMul,Nat.reduceLT,reduceIte,Int.reduceToNat,w64_id,cast_succ])
    refine SW.mixU (fun Z=>Z[H.length + 2]? = some ⟨0,tyAr,1,[I j,v1,v2,v3,AV.nm (H.length + 3) 0 0 j]⟩) (fun E' Z=>keep [1,2,3,4] E' = [(1,AV.pc H.length 0 0),(2,AV.pc (H.length + 1) 0 0),(3,AV.pc (H.length + 2) 0 0),(4,I a)] ∧ ∃ w1 w2 w3,ArP (X0.set (H.length + 3) (rowI (rowG (fun a=>invB (F3 a) j) j (a + 1)))) Z (H.length + 4) (H.length + 2) j (AV.nm (H.length + 3) 0 0 j) w1 w2 w3 (r1 ++ [ra]) (r2 ++ [rb]) (r3 ++ [rc]) (tabG F1 j (a + 1)) (tabG F2 j (a + 1)) (tabG F3 j (a + 1))) hM2.box ?_ ?_
    ·rw [tabG_succ,tabG_succ,tabG_succ]
     simp (maxSteps:=1000000) (disch:=(first|omega|(simp only [go_sem];try omega))) only [go_sem,Nat.reduceAdd,Nat.reduceEqDiff,Nat.reduceLeDiff,Nat.reduceMul,Nat.reduceLT,reduceIte,Int.reduceToNat,w64_id,cast_succ]
     repeat (apply swpU_semI;intro Z hZ;have za:=fun o=>pc_alive (off:=o) hZ;have zl:=fun o=>pc_ld (off:=o) hZ;(try simp (maxSteps:=1000000) (disch:=(first|omega|(simp only [go_sem];try omega))) only [go_sem,Nat.reduceAdd,Nat.reduceEqDiff,Nat.reduceLeDiff,Nat.reduceMul,Nat.reduceLT,reduceIte,Int.reduceToNat,w64_id,cast_succ,za,zl]);exact rfl;(try simp (maxSteps:=1000000) (disch:=(first|omega|(simp only [go_sem];try omega))) only [go_sem,Nat.reduceAdd,Nat.reduceEqDiff,Nat.reduceLeDiff,Nat.reduceMul,Nat.reduceLT,reduceIte,Int.reduceToNat,w64_id,cast_succ]))
     have hSx : ∀ ext,(Y ++ ext)[H.length + 2]? = some ⟨0,tyAr,1,[I j,v1,v2,v3,AV.nm (H.length + 3) 0 0 j]⟩:=fun ext=>get_appU hM2.box ext
     (try simp (maxSteps:=1000000) (disch:=(first|omega|(simp only [go_sem];try omega))) only [go_sem,Nat.reduceAdd,Nat.reduceEqDiff,Nat.reduceLeDiff,Nat.reduceMul,Nat.reduceLT,reduceIte,Int.reduceToNat,w64_id,cast_succ,j0,zN,w6,wV,y7,xZ,wN,w6,xG,zH,acell1_own,acell1_own0,alive_own,alive_own0,acells_own,acells_own0,astore_own,astore_own0,aview_own,aview_own0,PcL_some,PcV_some,PcG_some,PcS_some,NmV_some,setMany_nil,setMany_cons,partsOf_agg,cell1_nm,cell1_nil,cell1_il,cell1_Bv,cell1_pc,partsOf_nm,partsOf_il,partsOf_nil,partsOf_Bv,afill_nil,afill_cons,x8,zB,qI,qO,zX,and_self,qZ])
     repeat' (with_reducible refine And.intro ?_ ?_)
     all_goals first|omega|(intro _ _;exact hSx _)|skip
     all_goals
      have hpY:=hM2.pL.2
      refine hM2.g1.app (by simp;omega) (by omega) (fun t b _ h=>get_appU h _) ?_
      intro u1 Z1 hp1 hl1 hf1 hg1 hi1
      have hn1:=new_get hf1 (fun t e=>(hM2.g1.lt e).2.1)
      have hn2:=new_getZ hf1 (fun t e=>(hM2.g1.lt e).2.1)
      have hb1:=hf1 _ _ (fun e=>by have:=(hM2.g1.lt e).1;omega) (get_appU hM2.box _)
      have hb1':=fun ext=>get_appU hb1 ext
      have hs2:=hM2.s2 (fun j b h=>get_appU h _) hf1
      simp (maxSteps:=1000000) (disch:=(first|omega|(simp only [go_sem];try omega))) only [go_sem,Nat.reduceAdd,Nat.reduceEqDiff,Nat.reduceLeDiff,Nat.reduceMul,Nat.reduceLT,reduceIte,Int.reduceToNat,w64_id,cast_succ]
      refine ⟨fun _ _=>hb1,?_⟩
      apply swpU_semI
      ·intro Z hZ
       have za:=fun o=>pc_alive (off:=o) hZ
       have zl:=fun o=>pc_ld (off:=o) hZ
       simp (maxSteps:=1000000) (disch:=(first|omega|(simp only [go_sem];try omega))) only [go_sem,Nat.reduceAdd,Nat.reduceEqDiff,Nat.reduceLeDiff,Nat.reduceMul,Nat.reduceLT,reduceIte,Int.reduceToNat,w64_id,cast_succ,za,zl]
       exact rfl
      have hn0 : ∀ e,(Z1 ++ e)[Y.length]? = _:=hn1 0 (by simp)
      have hn3 : Z1[Y.length]? = _:=hn2 0 (by simp)
      simp (maxSteps:=1000000) (disch:=(first|omega|(simp only [go_sem];try omega))) only [go_sem,Nat.reduceAdd,Nat.reduceEqDiff,Nat.reduceLeDiff,Nat.reduceMul,Nat.reduceLT,reduceIte,Int.reduceToNat,w64_id,cast_succ,j0,zN,w6,wV,y7,xZ,wN,w6,xG,zH,acell1_own,acell1_own0,alive_own,alive_own0,acells_own,acells_own0,astore_own,astore_own0,aview_own,aview_own0,PcL_some,PcV_some,PcG_some,PcS_some,NmV_some,setMany_nil,setMany_cons,partsOf_agg,cell1_nm,cell1_nil,cell1_il,cell1_Bv,cell1_pc,partsOf_nm,partsOf_il,partsOf_nil,partsOf_Bv,afill_nil,afill_cons,x8,zB,qI,qO,zX,and_self,qZ,aview_nmV,hn1,hn2,hn0,hn3]
      repeat' (with_reducible refine And.intro ?_ ?_)
      all_goals first|omega|(intro _ _;first|exact hb1' _|exact hb1)|skip
      all_goals
       refine hs2.app (by simp at hl1;(try simp);omega) (by omega) (fun t b _ h=>by first|exact h|exact get_appU h _) ?_
       intro u2 Z2 hp2 hl2 hf2 hg2 hi2
       have hlt2 : ∀ t,tI v2 = some t → t < Y.length:=fun t e=>(hM2.g2.lt e).2.1
       have hb2 : Z2[H.length + 2]? = _:=hf2 _ _ (fun e=>by have:=(hM2.g2.lt e).1;omega) (by first|exact hb1|exact hb1' _)
       have hb2':=fun ext=>get_appU hb2 ext
       have hs3:=hM2.s3 (fun j b h=>get_appU h _) hf1 (fun j b h=>by first|exact h|exact get_appU h _) hf2
       have hm1 : ∀ (i : Nat) (b : Blk),Z1[Y.length + i]? = some b → Z2[Y.length + i]? = some b:=fun i b h=>hf2 _ _ (fun e=>by have:=hlt2 _ e;omega) (by first|exact h|exact get_appU h _)
       have ha0:=trivial
       have ha1:=trivial
       have ha2:=trivial
       have hc0:=trivial
       have hc1:=trivial
       have hc2:=trivial
       have hd0:=trivial
       have hd1:=trivial
       try
        have ha0 : Z2[Y.length]? = _:=hm1 0 _ (hn2 0 (by simp))
        have hc0:=fun ext=>get_appU ha0 ext
       try
        have ha1:=hm1 1 _ (hn2 1 (by simp))
        have hc1:=fun ext=>get_appU ha1 ext
       try
        have ha2:=hm1 2 _ (hn2 2 (by simp))
        have hc2:=fun ext=>get_appU ha2 ext
       try have hd0 : Z2[Z1.length]? = some _:=new_getZ hf2 (fun t e=>by have:=hlt2 _ e;simp at hl1;omega) 0 (by simp)
       try have hd1 : Z2[Z1.length + 1]? = some _:=new_getZ hf2 (fun t e=>by have:=hlt2 _ e;simp at hl1;omega) 1 (by simp)
       simp (maxSteps:=1000000) (disch:=(first|omega|(simp only [go_sem];try omega))) only [go_sem,Nat.reduceAdd,Nat.reduceEqDiff,Nat.reduceLeDiff,Nat.reduceMul,Nat.reduceLT,reduceIte,Int.reduceToNat,w64_id,cast_succ,j0,zN,w6,wV,y7,xZ,wN,w6,xG,zH,acell1_own,acell1_own0,alive_own,alive_own0,acells_own,acells_own0,astore_own,astore_own0,aview_own,aview_own0,PcL_some,PcV_some,PcG_some,PcS_some,NmV_some,setMany_nil,setMany_cons,partsOf_agg,cell1_nm,cell1_nil,cell1_il,cell1_Bv,cell1_pc,partsOf_nm,partsOf_il,partsOf_nil,partsOf_Bv,afill_nil,afill_cons,x8,zB,qI,qO,zX,and_self,qZ,aview_nmV,ha0,ha1,ha2,hc0,hc1,hc2,hd0,hd1]
       repeat' (with_reducible refine And.intro ?_ ?_)
       all_goals first|omega|(intro _ _;first|exact hb2' _|exact hb2)|skip
       all_goals
        refine hs3.app (by simp at hl1 hl2;(try simp);omega) (by omega) (fun t b _ h=>by first|exact h|exact get_appU h _) ?_
        intro u3 Z3 hp3 hl3 hf3 hg3 hi3
        have hb3 : Z3[H.length + 2]? = _:=hf3 _ _ (fun e=>by have:=(hM2.g3.lt e).1;omega) (by first|exact hb2|exact hb2' _)
        have hpl3:=(qC.1 hb3).1
        have za:=fun o=>pc_alive (off:=o) hb3
        have zl:=fun o=>pc_ld (off:=o) hb3
        have k1 : astore Z3 [u1] (.pc (H.length + 2) 0 1) = some (Z3.set (H.length + 2) ⟨0,tyAr,1,[I j,u1,v2,v3,AV.nm (H.length + 3) 0 0 j]⟩):=by rw [pc_st hb3 (by simp)];rfl
        have hb4 : (Z3.set (H.length + 2) ⟨0,tyAr,1,[I j,u1,v2,v3,AV.nm (H.length + 3) 0 0 j]⟩)[H.length + 2]? = some ⟨0,tyAr,1,[I j,u1,v2,v3,AV.nm (H.length + 3) 0 0 j]⟩:=qY hpl3
        have za4:=fun o=>pc_alive (off:=o) hb4
        have k2 : astore (Z3.set (H.length + 2) ⟨0,tyAr,1,[I j,u1,v2,v3,AV.nm (H.length + 3) 0 0 j]⟩) [u2] (.pc (H.length + 2) 0 2) = some (Z3.set (H.length + 2) ⟨0,tyAr,1,[I j,u1,u2,v3,AV.nm (H.length + 3) 0 0 j]⟩):=by rw [pc_st hb4 (by simp),yB];rfl
        have hb5 : (Z3.set (H.length + 2) ⟨0,tyAr,1,[I j,u1,u2,v3,AV.nm (H.length + 3) 0 0 j]⟩)[H.length + 2]? = some ⟨0,tyAr,1,[I j,u1,u2,v3,AV.nm (H.length + 3) 0 0 j]⟩:=qY hpl3
        have za5:=fun o=>pc_alive (off:=o) hb5
        have k3 : astore (Z3.set (H.length + 2) ⟨0,tyAr,1,[I j,u1,u2,v3,AV.nm (H.length + 3) 0 0 j]⟩) [u3] (.pc (H.length + 2) 0 3) = some (Z3.set (H.length + 2) ⟨0,tyAr,1,[I j,u1,u2,u3,AV.nm (H.length + 3) 0 0 j]⟩):=by rw [pc_st hb5 (by simp),yB];rfl
        simp (maxSteps:=1000000) (disch:=(first|omega|(simp only [go_sem];try omega))) only [go_sem,Nat.reduceAdd,Nat.reduceEqDiff,Nat.reduceLeDiff,Nat.reduceMul,Nat.reduceLT,reduceIte,Int.reduceToNat,w64_id,cast_succ,za,zl,za4,za5,k1,k2,k3,hp1.1,hp1.2,hp2.1,hp2.2,hp3.1,hp3.2]
        repeat' (with_reducible refine And.intro ?_ ?_)
        rotate_right
        ·refine ⟨u1,u2,u3,hM2.leaf (by simp) (fun j b h=>get_appU h _) hl1 hf1 hg1 hi1 ?_ (fun j b h=>by first|exact h|exact get_appU h _) hl2 hf2 hg2 hi2 ?_ (fun j b h=>by first|exact h|exact get_appU h _) hl3 hf3 hg3 hi3 hha hhb hhc⟩
         ·first|exact qZ _|simp
         ·first|exact qZ _|simp
        all_goals first|rfl|(intro e h;first|exact h|exact hb3|exact Bool.noConfusion e)
    ·rintro E2 Z ⟨hk2,w1,w2,w3,hM3⟩
     rw [hk2]
     repeat (first|(with_reducible first|refine SW.seq ?_|refine q8 ?_|refine SW.rowC ?_|refine SW.skip ?_|refine SW.exit ?_|intro _|refine And.intro (by omega) ?_)|simp (maxSteps:=1000000) (disch:=(first|omega|(simp only [go_sem];try omega))) only [go_sem,Nat.reduceAdd,Nat.reduceEqDiff,Nat.reduceLeDiff,Nat.reduceMul,Nat.reduceLT,reduceIte,Int.reduceToNat,w64_id,cast_succ])
     exact wB (j - (a + 1)) (by omega) ⟨a + 1,w1,w2,w3,_,_,_,by omega,rfl,by simp [go_sem],by simp [hr1],by simp [hr2],by simp [hr3],hM3⟩
 ·have haq : a = q:=by omega
  subst haq
  have hpre:=prefix_of (H:=H) (H':=X) (by have:=hM.pL.2;omega) (fun j hj=>by rw [hM.fr j (by omega) (by omega),qR (by omega),hXH j hj])
  have hp5:=pc_lds (off:=0) (n:=5) hM.box (by simp)
  obtain ⟨ext,rfl⟩:=hpre
  have hp1 : (H ++ ext)[H.length + 1]? = some ⟨0,tyAr,1,[I 0,nilS,nilS,nilS,nilS]⟩:=by
   rw [hM.fr _ (by omega) (by omega),qR (by omega),← hX0,qV (by omega),show H.length + 1 - H.length = 1 by omega];rfl
  have hst : astore (H ++ ext) [I a,v1,v2,v3,AV.nm (H.length + 3) 0 0 a] (.pc (H.length + 1) 0 0) = some ((H ++ ext).set (H.length + 1) ⟨0,tyAr,1,[I a,v1,v2,v3,AV.nm (H.length + 3) 0 0 a]⟩):=by
   rw [pc_st hp1 (by simp)];rfl
  have hle : H.length + 1 < (H ++ ext).length:=(qC.1 hp1).1
  have hZ1 : ((H ++ ext).set (H.length + 1) ⟨0,tyAr,1,[I a,v1,v2,v3,AV.nm (H.length + 3) 0 0 a]⟩)[H.length + 1]? = some ⟨0,tyAr,1,[I a,v1,v2,v3,AV.nm (H.length + 3) 0 0 a]⟩:=qY hle
  have hZo : ∀ j,j ≠ H.length + 1 → ((H ++ ext).set (H.length + 1) ⟨0,tyAr,1,[I a,v1,v2,v3,AV.nm (H.length + 3) 0 0 a]⟩)[j]? = (H ++ ext)[j]?:=fun j hj=>qR (Ne.symm hj)
  have hc1 : (v1.cell1 && (v2.cell1 && v3.cell1)) = true:=by rw [hM.g1.parts.1,hM.g2.parts.1,hM.g3.parts.1];rfl
  have hZe : (H ++ ext).set (H.length + 1) ⟨0,tyAr,1,[I a,v1,v2,v3,AV.nm (H.length + 3) 0 0 a]⟩ = H ++ ext.set 1 ⟨0,tyAr,1,[I a,v1,v2,v3,AV.nm (H.length + 3) 0 0 a]⟩:=by
   rw [x6 _ _ (by omega),show H.length + 1 - H.length = 1 by omega]
  have hfi:=froz_rowI (b:=H.length) (r:=H.length + 3) (by omega) (show ((H ++ ext).set (H.length + 1) ⟨0,tyAr,1,[I a,v1,v2,v3,AV.nm (H.length + 3) 0 0 a]⟩)[H.length + 3]? = some (rowI (rowG (fun b=>invB (F3 b) a) a a)) by rw [hZo _ (by omega),hM.fr _ (by omega) (by omega),qY (by omega)])
  rw [rowG_len _ (qZ _),rowG_all] at hfi
  have kg : ∀ {v : AV} {r : List Nat},GrQ (H ++ ext) (H.length + 4) v a r → GrQ ((H ++ ext).set (H.length + 1) ⟨0,tyAr,1,[I a,v1,v2,v3,AV.nm (H.length + 3) 0 0 a]⟩) (H.length + 4) v a r:=fun h=>h.same fun t b ht hb=>by
   rw [hZo t (by have:=(h.lt ht).1;omega)];exact hb
  have kr : ∀ {r : List Nat} {x : List (List Int)},RowsQ (H ++ ext) (H.length + 4) a r x → RowsQ ((H ++ ext).set (H.length + 1) ⟨0,tyAr,1,[I a,v1,v2,v3,AV.nm (H.length + 3) 0 0 a]⟩) (H.length + 4) a r x:=fun h=>h.same fun r b hr hb _=>by
   rw [hZo r (by omega)];exact hb
  have hfz:=froz_agg5 (froz_I' (H:=(H ++ ext).set (H.length + 1) ⟨0,tyAr,1,[I a,v1,v2,v3,AV.nm (H.length + 3) 0 0 a]⟩) (b:=H.length) (a : Int)) ((kg hM.g1).froz (kr hM.q1) (b:=H.length) (by omega)) ((kg hM.g2).froz (kr hM.q2) (b:=H.length) (by omega)) ((kg hM.g3).froz (kr hM.q3) (b:=H.length) (by omega)) hfi
  have hz5:=pc_lds (off:=0) (n:=5) hZ1 (by simp)
  rw [hZe] at *
  repeat (first|(with_reducible first|refine SW.seq ?_|refine q8 ?_|refine SW.rowC ?_|refine SW.skip ?_|refine SW.exit ?_|intro _|refine And.intro (by omega) ?_)|simp (maxSteps:=1000000) (disch:=(first|omega|(simp only [go_sem];try omega))) only [go_sem,Nat.reduceAdd,Nat.reduceEqDiff,Nat.reduceLeDiff,Nat.reduceMul,Nat.reduceLT,reduceIte,Int.reduceToNat,w64_id,cast_succ,hpa,hpl,hp5,hc1,hst])
  exact SW.ret (FunPost.cell (cs:=[I a,v1,v2,v3,AV.nm (H.length + 3) 0 0 a]) (by simp [go_sem,hz5]) (GR.froz hfz ⟨rfl,rfl⟩))
end Go.Proofs.YtclfmfabcnbbpaaGreat
namespace Go.Proofs.YtclfmfabcnbbpaaGreat
open Go.Av
abbrev f_impl_arithmetic_addTimes : Nat:=72
def c_impl_arithmetic_addTimes : SC :=
 .seq (.reg [⟨s' 4,.box 76 (t' 0),n'⟩] [1,2,3,4]) (.seq (.reg [⟨s' 10,.mv (t' 2),n'⟩,⟨s' 11,.len (t' 10),n'⟩,⟨s' 12,.mv (.const (.int .i64 0)),n'⟩] [1,3,4,10,11,12])
 (.block 0 (.loop [1,3,4,10,11,12] (.seq (.reg [⟨s' 13,.bin .lss (t' 12) (t' 11),n'⟩] [1,3,4,10,11,12,13]) (.seq (.cond (t' 13) (.skip) (.exit 0)) (.seq (.block 1 (.seq (.reg [
 ⟨s' 14,.mv (t' 12),n'⟩,⟨s' 15,.iaddr 1 (t' 10) (t' 12),n'⟩,⟨s' 16,.load 1 false (t' 15),n'⟩,⟨s' 8,.mv (t' 14),n'⟩,⟨s' 9,.mv (t' 16),n'⟩] [1,3,4,8,9,10,11,12]) (.reg [
 ⟨s' 17,.mv (t' 1),n'⟩,⟨s' 18,.mv (t' 8),n'⟩,⟨s' 19,.faddr 1 (t' 4),n'⟩,⟨s' 20,.load 1 false (t' 19),n'⟩,⟨s' 21,.mv (t' 1),n'⟩,⟨s' 22,.mv (t' 8),n'⟩,
 ⟨s' 23,.iaddr 1 (t' 21) (t' 22),n'⟩,⟨s' 24,.load 1 false (t' 23),n'⟩,⟨s' 25,.iaddr 1 (t' 20) (t' 24),n'⟩,⟨s' 26,.load 1 false (t' 25),n'⟩,⟨s' 27,.faddr 3 (t' 4),n'⟩,
 ⟨s' 28,.load 1 false (t' 27),n'⟩,⟨s' 29,.mv (t' 3),n'⟩,⟨s' 30,.iaddr 1 (t' 28) (t' 29),n'⟩,⟨s' 31,.load 1 false (t' 30),n'⟩,⟨s' 32,.mv (t' 9),n'⟩,
 ⟨s' 33,.iaddr 1 (t' 31) (t' 32),n'⟩,⟨s' 34,.load 1 false (t' 33),n'⟩,⟨s' 35,.iaddr 1 (t' 26) (t' 34),n'⟩,⟨s' 36,.load 1 false (t' 35),n'⟩,⟨s' 37,.iaddr 1 (t' 17) (t' 18),n'⟩,
 ⟨n',.store 1 (t' 37) (t' 36),n'⟩] [1,3,4,10,11,12]))) (.reg [⟨s' 38,.bin .add (t' 12) (.const (.int .i64 1)),n'⟩,⟨s' 12,.mv (t' 38),n'⟩] [1,3,4,10,11,12])))))))
theorem s_impl_arithmetic_addTimes : stripF Tryz.prog 72 [[1,2,3,4],[1,3,4,10,11,12],[1,3,4,10,11,12],[1,3,4,10,11,12,13],[1,3,4,8,9,10,11,12],[1,3,4,10,11,12],[1,3,4,10,11,12]] = some (c_impl_arithmetic_addTimes,[],39):=by kernel_rfl
def arT (q : Nat) (F1 F2 F3 : Nat → Nat → Int) : AV:=.agg [I q,ilSS (tabG F1 q q),ilSS (tabG F2 q q),ilSS (tabG F3 q q),ilS (invL F3 q)]
theorem tabG_get (F : Nat → Nat → Int) {q a : Nat} (h : a < q) : ((tabG F q q).map ilS)[a]? = some (ilS ((w7 q).map (F a))):=by
 unfold tabG
 rw [qX,qX,xK h];rfl
theorem rowF_get (f : Nat → Int) {q b : Nat} (h : b < q) : (((w7 q).map f).map I)[b]? = some (I (f b)):=by
 rw [qX,qX,xK h];rfl
theorem tabG_len (F : Nat → Nat → Int) (q j : Nat) : (tabG F q j).length = j:=by simp [tabG]
def adX (F1 F3 : Nat → Nat → Int) (f : Nat) (xs ys : List Int) (k : Nat) : Int:=F1 (xs.getD k 0).toNat (F3 f (ys.getD k 0).toNat).toNat
def adT (F1 F3 : Nat → Nat → Int) (f : Nat) (xs ys : List Int) (j : Nat) : List Int:=(w7 j).map (adX F1 F3 f xs ys) ++ xs.drop j
theorem adT_len (F1 F3 : Nat → Nat → Int) (f : Nat) (xs ys : List Int) {j : Nat} (h : j ≤ xs.length) : (adT F1 F3 f xs ys j).length = xs.length:=by unfold adT;simp;omega
theorem adT_get (F1 F3 : Nat → Nat → Int) (f : Nat) (xs ys : List Int) {j : Nat} (h : j < xs.length) : ((adT F1 F3 f xs ys j).map I)[j]? = some (I (xs.getD j 0)):=by
 unfold adT
 rw [qX,qV (by simp),w8,xJ,wS,List.getElem?_drop,Nat.add_zero,qE,qB h];rfl
theorem adT_set (F1 F3 : Nat → Nat → Int) (f : Nat) (xs ys : List Int) {j : Nat} (h : j < xs.length) : (adT F1 F3 f xs ys j).set j (adX F1 F3 f xs ys j) = adT F1 F3 f xs ys (j + 1):=by
 unfold adT
 rw [x6 _ _ (by simp),w8,xJ,wS,xD,xB,wV,List.drop_eq_getElem_cons h]
 rfl
theorem addTimes_ok (H : List Blk) (q : Nat) (F1 F2 F3 : Nat → Nat → Int) (hq : 1 ≤ q ∧ q ≤ 64) (r ver ty w : Nat) (c : AV) (xs ys : List Int) (f : Nat) (hr : H[r]? = some ⟨ver,ty,1,xs.map I⟩) (hx : xs.length = w) (hy : ys.length = w) (hw : w ≤ 100) (hf : f < q)
  (hc : ∀ b,RdS (H.set r b) c ys) (hxb : ∀ x ∈ xs,0 ≤ x ∧ x < (q : Int)) (hyb : ∀ x ∈ ys,0 ≤ x ∧ x < (q : Int)) (h3 : ∀ a b,a < q → b < q → 0 ≤ F3 a b ∧ F3 a b < (q : Int)) :
  ACalls Tryz.prog f_impl_arithmetic_addTimes [arT q F1 F2 F3,.nm r ver 0 w,c,I f] H (fun v H'=>∃ ext,H' = H.set r ⟨ver,ty,1,(adT F1 F3 f xs ys w).map I⟩ ++ ext):=by
 have hrl:=(qC.1 hr).1
 have hA0 : adT F1 F3 f xs ys 0 = xs:=by unfold adT;simp
 have hH0 : H = H.set r ⟨ver,ty,1,(adT F1 F3 f xs ys 0).map I⟩:=by
  rw [hA0]
  refine xU fun i=>?_
  rw [xR]
  by_cases e : r = i
  ·subst e
   rw [if_pos rfl,if_pos hrl,hr]
  ·rw [if_neg e]
 have hlc : ∀ b ext,aview (H.set r b ++ ext) c = some (w,ys.map I):=fun b ext=>by
  have:=(hc b).append ext
  unfold RdS at this
  rwa [hy] at this
 unfold arT
 refine ACalls.introB s_impl_arithmetic_addTimes (by simp) ?_;intro hB hA;unfold c_impl_arithmetic_addTimes;simp (disch:=(first|omega|(simp only [go_sem];try omega))) only [go_sem,Nat.reduceAdd,Nat.reduceEqDiff,Nat.reduceLeDiff,reduceIte,w64_id,cast_succ]
 have hla : ∀ ext,aview (H ++ ext) c = some (w,ys.map I):=fun ext=>by rw [hH0];exact hlc _ ext
 repeat (first|(with_reducible first|refine SW.seq ?_|refine q8 ?_|refine SW.rowC ?_|refine SW.skip ?_|refine SW.exit ?_|intro _|refine And.intro (by omega) ?_)|simp (disch:=(first|omega|(simp only [go_sem];try omega))) only [go_sem,Nat.reduceAdd,Nat.reduceEqDiff,Nat.reduceLeDiff,reduceIte,w64_id,cast_succ,hla])
 generalize hbx : (⟨0,tyAr,1,[I q,ilSS (tabG F1 q q),ilSS (tabG F2 q q),ilSS (tabG F3 q q),ilS (invL F3 q)]⟩ : Blk) = bx
 refine wJ (fun E0 H0 m E' H'=>∃ j : Nat,j ≤ w ∧ m = w - j ∧ E' = aput E0 12 (I j) ∧ H' = H.set r ⟨ver,ty,1,(adT F1 F3 f xs ys j).map I⟩ ++ [bx]) w ⟨0,by omega,by omega,rfl,by rw [← hH0]⟩ ?_
 rintro m E' Z ⟨j,hj,rfl,rfl,hZ⟩
 simp (disch:=(first|omega|(simp only [go_sem];try omega))) only [go_sem,Nat.reduceAdd,Nat.reduceEqDiff,Nat.reduceLeDiff,reduceIte,w64_id,cast_succ]
 repeat (first|(with_reducible first|refine SW.seq ?_|refine q8 ?_|refine SW.rowC ?_|refine SW.skip ?_|refine SW.exit ?_|intro _|refine And.intro (by omega) ?_)|simp (disch:=(first|omega|(simp only [go_sem];try omega))) only [go_sem,Nat.reduceAdd,Nat.reduceEqDiff,Nat.reduceLeDiff,reduceIte,w64_id,cast_succ])
 (first|refine wK rfl (fun h2=>?_) (fun h2=>?_)|refine wL rfl (fun h2=>?_) (fun h2=>?_)|refine wF rfl (fun h2=>?_) (fun h2=>?_)|refine wH rfl (fun h2=>?_) (fun h2=>?_))
 ·have hjw : j < w:=by omega
  have hxm:=hxb _ (show xs.getD j 0 ∈ xs by rw [qE,qB (by omega)];exact wQ _)
  have hym:=hyb _ (show ys.getD j 0 ∈ ys by rw [qE,qB (by omega)];exact wQ _)
  have hgx:=adT_get F1 F3 f xs ys (j:=j) (by omega)
  have hgy : (ys.map I)[j]? = some (I (ys.getD j 0)):=by
   rw [qX,qE,qB (by omega)];rfl
  have hst:=adT_set F1 F3 f xs ys (j:=j) (by omega)
  unfold adX at hst
  obtain ⟨a,ha⟩:=wC hxm.1
  obtain ⟨b,hb⟩:=wC hym.1
  rw [ha] at hgx hst hxm
  rw [hb] at hgy hst hym
  rw [wA,wA] at hst
  have h3b:=h3 f b hf (by omega)
  have g2:=rowF_get (F3 f) (q:=q) (b:=b) (by omega)
  obtain ⟨e,he⟩:=wC h3b.1
  rw [he] at hst g2 h3b
  rw [wA] at hst
  have t1:=tabG_get F1 (q:=q) (a:=a) (by omega)
  have t3:=tabG_get F3 (q:=q) (a:=f) hf
  have g1:=rowF_get (F1 a) (q:=q) (b:=e) (by omega)
  have l1:=tabG_len F1 q q
  have l3:=tabG_len F3 q q
  have hzr : Z[r]? = some ⟨ver,ty,1,(adT F1 F3 f xs ys j).map I⟩:=by rw [hZ,qN (by rw [w6];exact hrl),qY hrl]
  have hzb : Z[H.length]? = some bx:=by rw [hZ,qV (by rw [w6];exact qZ _),w6,wS];rfl
  rw [← hbx] at hzb
  have hza:=fun o=>pc_alive (off:=o) hzb
  have hzl:=fun o=>pc_ld (off:=o) hzb
  have hzv : aview Z (.nm r ver 0 w) = some (w,(adT F1 F3 f xs ys j).map I):=view_nm hzr (by rw [w8,adT_len _ _ _ _ _ (by omega),hx])
  have hzc : aview Z c = some (w,ys.map I):=by rw [hZ];exact hlc _ _
  have hzs : astore Z [I (F1 a e)] (.el (.nm r ver 0 w) j) = some (H.set r ⟨ver,ty,1,(adT F1 F3 f xs ys (j + 1)).map I⟩ ++ [bx]):=by
   rw [store_nm hzr (by rw [w8,adT_len _ _ _ _ _ (by omega)];omega),hZ,List.set_append_left _ _ (by rw [w6];exact hrl),yB,← hst,xL]
  clear hZ hst hc hlc hla
  repeat (first|(with_reducible first|refine SW.seq ?_|refine q8 ?_|refine SW.rowC ?_|refine SW.skip ?_|refine SW.exit ?_|intro _|refine And.intro (by omega) ?_)|simp (disch:=(first|omega|(simp only [go_sem];try omega))) only [go_sem,Nat.reduceAdd,Nat.reduceEqDiff,Nat.reduceLeDiff,reduceIte,w64_id,cast_succ,hza,hzl,hzv,hzc,hgx,hgy,t1,t3,g1,g2,l1,l3,hzs,xJ])
  exact wB (w - (j + 1)) (by omega) ⟨j + 1,by omega,rfl,by simp [go_sem],rfl⟩
 ·have hjw : j = w:=by omega
  subst hjw
  repeat (first|(with_reducible first|refine SW.seq ?_|refine q8 ?_|refine SW.rowC ?_|refine SW.skip ?_|refine SW.exit ?_|intro _|refine And.intro (by omega) ?_)|simp (disch:=(first|omega|(simp only [go_sem];try omega))) only [go_sem,Nat.reduceAdd,Nat.reduceEqDiff,Nat.reduceLeDiff,reduceIte,w64_id,cast_succ])
  refine ⟨_,rfl,GR.of ?_⟩
  rw [hZ]
  exact ⟨[bx],rfl⟩
end Go.Proofs.YtclfmfabcnbbpaaGreat