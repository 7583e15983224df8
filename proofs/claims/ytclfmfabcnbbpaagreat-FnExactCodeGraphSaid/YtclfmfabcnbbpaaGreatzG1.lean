/- Lists of rows that grow by rows grown elsewhere; what every memory holds. -/
import Derived.Test.YtclfmfabcnbbpaaGreatzK1
import Derived.Test.YtclfmfabcnbbpaaGreatzL2
set_option linter.unusedSimpArgs false
set_option linter.unusedVariables false
set_option maxHeartbeats 4000000
set_option maxRecDepth 100000
open List renaming getElem?_eq_some_iff→qC,getElem?_append_left→qN,getElem?_set_ne→qR,getElem?_append_right→qV
namespace Go.Proofs.YtclfmfabcnbbpaaGreat
open Go.Av
theorem SW.hb {P : Program} {n k0 : Nat} {Q : SX → Env → List Blk → Prop} {E : Env} {H : List Blk} {c : SC} (h : HB H → SW P n k0 c Q E H) : SW P n k0 c Q E H :=
 fun code hc cx F m a w hn h0 hs=>h hs.sim.bel code hc cx F m a w hn h0 hs
theorem GrowSS.appG {H1 H : List Blk} {base ty rty r rv len : Nat} {v : AV} {xss : List (List Int)} {xs : List Int} (hlen : len = xs.length) (h : GrowSS H1 base ty v xss) (hb : base ≤ H1.length) (hr : H1.length ≤ r) (hl : (xss.length + 1) * 24 ≤ 140737488355328)
  (hs : ∀ j b,base ≤ j → H1[j]? = some b → H[j]? = some b) (hrow : H[r]? = some ⟨rv,rty,1,xs.map I⟩)
  {K : AV → List Blk → Prop} (hk : ∀ v' H',GrowSS H' base ty v' (xss ++ [xs]) → H.length ≤ H'.length → (∀ j,j < base → H'[j]? = H[j]?) → K v' H') :
  AppX ty 1 24 H v K (some (1,[.nm r rv 0 len])):=by
 subst hlen
 have hrl : r < H.length:=(qC.1 hrow).1
 have hrow' : ∀ H' : List Blk,H'[r]? = some ⟨rv,rty,1,xs.map I⟩ → ∀ t,t ≠ r → OwnS H' (Fr base) t (.nm r rv 0 xs.length) xs:=fun H' h t ht=>.inl ⟨r,rv,rty,rfl,show base ≤ r by omega,fun e=>ht e.symm,h⟩
 rcases h with ⟨rfl,rfl⟩|⟨t,ver,cells,rfl,hc⟩
 ·simp only [AppX,nilS]
  refine ⟨rfl,by simp [AV.cell1],by omega,by omega,hk _ _ (.inr ⟨H.length,1,[.nm r rv 0 xs.length],by simp,?_⟩) (by simp) (fun j hj=>?_)⟩
  ·refine ⟨show base ≤ H.length by omega,by simp,rfl,?_,?_⟩
   ·intro j c ys g1 g2
    cases j with
    | zero =>
     simp at g1 g2;subst g1;subst g2
     exact hrow' _ (by rw [qN hrl];exact hrow) _ (by omega)
    | succ j=>simp at g1
   ·intro i j r v o l v' o' l' hij g1 g2
    cases i <;> cases j <;> simp at g1 g2 hij
  ·rw [qN (by omega)]
 ·obtain ⟨h1,h2,h3,h4,h5⟩:=id hc
  have htl:=(qC.1 h2).1
  have h1' : base ≤ t:=h1
  have h2':=hs t _ h1' h2
  have htl':=(qC.1 h2').1
  simp only [AppX,h2']
  refine ⟨rfl,by simp [AV.cell1],trivial,trivial,trivial,by omega,by omega,by omega,hk _ _ (.inr ⟨t,ver + 1,cells ++ [.nm r rv 0 xs.length],by simp,?_⟩) (by simp) (fun j hj=>?_)⟩
  ·refine ⟨h1,?_,by simp [h3],?_,?_⟩
   ·rw [List.getElem?_set_self htl']
    simp [← h3]
   ·intro j c ys g1 g2
    by_cases hj : j < cells.length
    ·rw [qN hj] at g1
     rw [qN (by omega)] at g2
     refine (h4 j c ys g1 g2).same ?_
     intro q b q1 q2 q3
     rw [qR (Ne.symm q2)];exact hs q b q1 q3
    ·rw [qV (by omega)] at g1 g2
     have hj' : j = cells.length:=by
      have:=(qC.1 g1).1
      simp at this;omega
     subst hj'
     rw [Nat.sub_self] at g1
     rw [h3,Nat.sub_self] at g2
     simp at g1 g2;subst g1;subst g2
     refine hrow' _ ?_ _ (by omega)
     rw [qR (by omega)];exact hrow
   ·intro i j r' v o l v' o' l' hij g1 g2
    by_cases hi : i < cells.length
    ·rw [qN hi] at g1
     have hr:=hc.nm_lt g1
     by_cases hj : j < cells.length
     ·rw [qN hj] at g2
      exact h5 i j r' v o l v' o' l' hij g1 g2
     ·rw [qV (by omega)] at g2
      have hj' : j = cells.length:=by
       have:=(qC.1 g2).1
       simp at this;omega
      subst hj'
      simp at g2
      omega
    ·rw [qV (by omega)] at g1
     have hi' : i = cells.length:=by
      have:=(qC.1 g1).1
      simp at this;omega
     subst hi'
     simp at g1
     by_cases hj : j < cells.length
     ·rw [qN hj] at g2
      have hr:=hc.nm_lt g2
      omega
     ·rw [qV (by omega)] at g2
      have:=(qC.1 g2).1
      simp at this;omega
  ·rw [qR (by omega)]
end Go.Proofs.YtclfmfabcnbbpaaGreat