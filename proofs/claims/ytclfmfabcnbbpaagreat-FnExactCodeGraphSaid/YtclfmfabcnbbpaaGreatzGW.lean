/- Tables whose rows lie anywhere. -/
import Derived.Test.YtclfmfabcnbbpaaGreatzOW
import Derived.Test.YtclfmfabcnbbpaaGreatzK19
import Derived.Test.YtclfmfabcnbbpaaGreatzK2
import Derived.Test.YtclfmfabcnbbpaaGreatzL1
import Derived.Test.YtclfmfabcnbbpaaGreatzM2
import Derived.Test.YtclfmfabcnbbpaaGreatzU1
set_option linter.unusedSimpArgs false
set_option linter.unusedVariables false
set_option maxHeartbeats 4000000
set_option maxRecDepth 100000
open List renaming getElem?_eq_some_iff→qC,take_of_length_le→qW,getElem?_eq_getElem→qB,nil_append→xZ,getElem?_append_left→qN,getElem?_set_ne→qR,length_set→w6,length_append→wN,getElem?_set_self→qY,getElem?_append_right→qV
namespace Go.Proofs.YtclfmfabcnbbpaaGreat
open Go.Av
def RowF (H : List Blk) (N : Nat → Prop) (c : AV) (xs : List Int) : Prop:=c = ilS xs ∨ (xs = [] ∧ c = nilS) ∨ ∃ r ver,c = .nm r ver 0 xs.length ∧ N r ∧ H[r]? = some ⟨ver,2,1,xs.map I⟩
def TabF (H : List Blk) (N : Nat → Prop) (v : AV) (xss : List (List Int)) : Prop :=
 (v = nilS ∧ xss = []) ∨ ∃ t ver cells,v = .nm t ver 0 xss.length ∧ N t ∧ H[t]? = some ⟨ver,tyLL,1,cells⟩ ∧ cells.length = xss.length ∧ ∀ (j : Nat) (c : AV) (xs : List Int),cells[j]? = some c → xss[j]? = some xs → RowF H N c xs
theorem RowF.one {H : List Blk} {N : Nat → Prop} {c : AV} {xs : List Int} (h : RowF H N c xs) : c.cell1 = true ∧ partsOf c = [c]:=by
 rcases h with rfl|⟨_,rfl⟩|⟨r,ver,rfl,_⟩ <;> exact ⟨rfl,rfl⟩
theorem RowF.same {H H' : List Blk} {N N' : Nat → Prop} {c : AV} {xs : List Int} (h : RowF H N c xs) (hN : ∀ r,N r → r < H.length → N' r) (hs : ∀ (j : Nat) (b : Blk),N j → H[j]? = some b → b.ty = 2 → H'[j]? = some b) : RowF H' N' c xs:=by
 rcases h with h|h|⟨r,ver,h1,h2,h3⟩
 ·exact .inl h
 ·exact .inr (.inl h)
 ·exact .inr (.inr ⟨r,ver,h1,hN r h2 (qC.1 h3).1,hs r _ h2 h3 rfl⟩)
theorem TabF.one {H : List Blk} {N : Nat → Prop} {v : AV} {xss : List (List Int)} (h : TabF H N v xss) : v.cell1 = true ∧ partsOf v = [v]:=by
 rcases h with ⟨rfl,_⟩|⟨t,ver,cells,rfl,_⟩ <;> exact ⟨rfl,rfl⟩
theorem TabF.same {H H' : List Blk} {N N' : Nat → Prop} {v : AV} {xss : List (List Int)} (h : TabF H N v xss) (hN : ∀ r,N r → r < H.length → N' r) (hs : ∀ (j : Nat) (b : Blk),N j → H[j]? = some b → H'[j]? = some b) : TabF H' N' v xss:=by
 rcases h with h|⟨t,ver,cells,h1,h2,h3,h4,h5⟩
 ·exact .inl h
 ·exact .inr ⟨t,ver,cells,h1,hN t h2 (qC.1 h3).1,hs t _ h2 h3,h4,fun j c xs g1 g2=>(h5 j c xs g1 g2).same hN (fun j b q hb _=>hs j b q hb)⟩
theorem RowF.froz {H : List Blk} {N : Nat → Prop} {b : Nat} {c : AV} {xs : List Int} (h : RowF H N c xs) (hN : ∀ r,N r → b ≤ r) : Froz H b c (ilS xs):=by
 rcases h with rfl|⟨rfl,rfl⟩|⟨r,ver,rfl,h1,h2⟩
 ·exact .old _ (by rw [Bel_ilS];trivial)
 ·exact .nil
 ·exact froz_rowI (hN r h1) h2
theorem TabF.froz {H : List Blk} {N : Nat → Prop} {b : Nat} {v : AV} {xss : List (List Int)} (h : TabF H N v xss) (hN : ∀ r,N r → b ≤ r) : Froz H b v (ilSS xss):=by
 rcases h with ⟨rfl,rfl⟩|⟨t,ver,cells,rfl,h2,h3,h4,h5⟩
 ·exact .nil
 ·have hc : (cells.drop 0).take (xss.length * 1) = cells:=by rw [List.drop_zero,Nat.mul_one];exact qW (by omega)
  refine .nm t ver 0 xss.length _ _ (hN t h2) h3 rfl (by simp only [hc,List.length_map];exact h4.symm) ?_
  intro j c c' g1 g2
  simp only [hc] at g1
  rw [List.getElem?_map] at g2
  cases hx : xss[j]? with
  | none=>rw [hx] at g2;simp at g2
  | some x=>rw [hx] at g2;simp at g2;rw [← g2];exact (h5 j c x g1 hx).froz hN
theorem TabF.app {Y : List Blk} {N : Nat → Prop} {v : AV} {xss yss : List (List Int)} {cs : List AV} (h : TabF Y N v xss) (hl : cs.length = yss.length) (hrow : ∀ (j : Nat) (c : AV) (ys : List Int),cs[j]? = some c → yss[j]? = some ys → RowF Y N c ys) (hN : N Y.length) (hlen : xss.length + yss.length ≤ 100000)
  {K : AV → List Blk → Prop} (hk : ∀ v' Z,v'.cell1 = true ∧ partsOf v' = [v'] → Y.length ≤ Z.length → TabF Z N v' (xss ++ yss) → (∀ (j : Nat) (bl : Blk),Y[j]? = some bl → bl.ty ≠ tyLL → Z[j]? = some bl) → (∀ j,¬ N j → j < Y.length → Z[j]? = Y[j]?) → K v' Z) : AppX tyLL 1 24 Y v K (some (cs.length,cs)):=by
 have hci : cs.all AV.cell1 = true:=List.all_eq_true.2 fun c hc=>by
  obtain ⟨j,hj,rfl⟩:=List.getElem_of_mem hc
  exact (hrow j _ _ (qB hj) (qB (by omega))).one.1
 rcases h with ⟨rfl,rfl⟩|⟨t,ver,cells,rfl,h2,h3,h4,h5⟩
 ·rw [AppX_nil (h1:=by omega) (h2:=hci) (h3:=by simp at hlen;omega) (h4:=by simp at hlen;omega)]
  refine hk _ _ ⟨rfl,rfl⟩ (by simp) (.inr ⟨Y.length,1,cs,by rw [xZ,hl],hN,by simp,by rw [xZ,hl],fun j c xs g1 g2=>?_⟩) (fun j bl hj _=>get_appU hj _) fun j _ hj=>qN hj
  exact (hrow j c xs g1 (by rwa [xZ] at g2)).same (fun r hr _=>hr) fun j b _ hb _=>get_appU hb _
 ·have hlt:=(qC.1 h3).1
  have hfr : ∀ (j : Nat) (bl : Blk),Y[j]? = some bl → bl.ty ≠ tyLL → (Y.set t ⟨ver + 1,tyLL,1,cells ++ cs⟩)[j]? = some bl:=fun j bl hj hty=>by
   rw [qR (fun e=>by subst e;rw [h3] at hj;cases hj;exact hty rfl)];exact hj
  have hrf : ∀ {c : AV} {xs : List Int},RowF Y N c xs → RowF (Y.set t ⟨ver + 1,tyLL,1,cells ++ cs⟩) N c xs:=fun h=>h.same (fun r hr _=>hr) fun j b _ hb hty=>hfr j b hb (by rw [hty];decide)
  rw [AppX_nm (h1:=by omega) (h2:=hci),h3,AppN_in (h1:=by omega) (h2:=by omega) (h3:=by omega),qW (by omega)]
  refine hk _ _ ⟨rfl,rfl⟩ (by rw [w6];exact Nat.le_refl _) (.inr ⟨t,ver + 1,cells ++ cs,by rw [wN,hl],h2,qY hlt,by rw [wN,wN];omega,fun j c xs g1 g2=>?_⟩) hfr (fun j hj _=>qR (fun e=>by subst e;exact hj h2))
  by_cases hj : j < cells.length
  ·rw [qN hj] at g1
   rw [qN (by omega)] at g2
   exact hrf (h5 j c xs g1 g2)
  ·rw [qV (by omega)] at g1
   rw [qV (by omega),← h4] at g2
   exact hrf (hrow _ c xs g1 g2)
theorem TabF.view {H : List Blk} {N : Nat → Prop} {v : AV} {xss : List (List Int)} (h : TabF H N v xss) : ∃ cells,aview H v = some (xss.length,cells):=by
 rcases h with ⟨rfl,rfl⟩|⟨t,ver,cells,rfl,_,h3,h4,_⟩
 ·exact ⟨[],rfl⟩
 ·exact ⟨cells,view_nm h3 h4⟩
theorem RowF.rd {H : List Blk} {N : Nat → Prop} {c : AV} {xs : List Int} (h : RowF H N c xs) : RdS H c xs:=by
 rcases h with rfl|⟨rfl,rfl⟩|⟨r,ver,rfl,_,h⟩
 ·exact rd_ilS _ _
 ·rfl
 ·exact view_nm h (by simp)
theorem TabF.cell {X : List Blk} {N : Nat → Prop} {v : AV} {xss : List (List Int)} (h : TabF X N v xss) {j : Nat} (hj : j < xss.length) : ∃ c cells,aview X v = some (xss.length,cells) ∧ cells[j]? = some c ∧ RowF X N c (xss.getD j []):=by
 rcases h with ⟨rfl,rfl⟩|⟨t,ver,cells,rfl,h2,h3,h4,h5⟩
 ·simp at hj
 ·refine ⟨cells[j],cells,view_nm h3 h4,qB (by omega),?_⟩
  refine h5 j _ _ (qB (by omega)) ?_
  rw [List.getD_eq_getElem?_getD,qB hj];rfl
theorem TabF.put {X : List Blk} {N : Nat → Prop} {v c : AV} {xss : List (List Int)} {ys : List Int} (h : TabF X N v xss) {j : Nat} (hj : j < xss.length) (hc : RowF X N c ys) :
  ∃ X',astore X [c] (.el v j) = some X' ∧ X'.length = X.length ∧ TabF X' N v (xss.set j ys) ∧ (∀ (i : Nat) (b : Blk),X[i]? = some b → b.ty ≠ tyLL → X'[i]? = some b) ∧ (∀ i,¬ N i → X'[i]? = X[i]?):=by
 rcases h with ⟨rfl,rfl⟩|⟨t,ver,cells,rfl,h2,h3,h4,h5⟩
 ·simp at hj
 ·have hlt:=(qC.1 h3).1
  have hfr : ∀ (i : Nat) (b : Blk),X[i]? = some b → b.ty ≠ tyLL → (X.set t ⟨ver,tyLL,1,cells.set j c⟩)[i]? = some b:=fun i b hi hty=>by
   rw [qR (fun e=>by subst e;rw [h3] at hi;cases hi;exact hty rfl)];exact hi
  have hrf : ∀ {c : AV} {xs : List Int},RowF X N c xs → RowF (X.set t ⟨ver,tyLL,1,cells.set j c⟩) N c xs:=fun h=>h.same (fun r hr _=>hr) fun i b _ hb hty=>by
   rw [qR (fun e=>by subst e;rw [h3] at hb;cases hb;exact absurd hty (show ¬ tyLL = 2 by decide))];exact hb
  refine ⟨X.set t ⟨ver,tyLL,1,cells.set j c⟩,store_nm h3 (by omega),w6,.inr ⟨t,ver,cells.set j c,by rw [w6],h2,qY hlt,by rw [w6,w6];exact h4,fun q c' xs g1 g2=>?_⟩,hfr,fun i hi=>?_⟩
  ·have rf : ∀ {c' : AV} {xs : List Int},RowF X N c' xs → RowF (X.set t ⟨ver,tyLL,1,cells.set j c⟩) N c' xs:=fun h=>h.same (fun r hr _=>hr) fun i b _ hb hty=>by
    rw [qR (fun e=>by subst e;rw [h3] at hb;cases hb;exact absurd hty (show ¬ tyLL = 2 by decide))];exact hb
   by_cases hq : q = j
   ·subst hq
    rw [qY (by omega)] at g1 g2
    cases g1;cases g2
    exact rf hc
   ·rw [qR (Ne.symm hq)] at g1 g2
    exact rf (h5 q c' xs g1 g2)
  ·rw [qR (by rintro rfl;exact hi h2)]
end Go.Proofs.YtclfmfabcnbbpaaGreat