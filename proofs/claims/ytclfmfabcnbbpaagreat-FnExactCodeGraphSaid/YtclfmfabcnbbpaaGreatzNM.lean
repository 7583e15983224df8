/- A slice cut short. -/
import Derived.Test.YtclfmfabcnbbpaaGreatzK1
set_option linter.unusedSimpArgs false
set_option linter.unusedVariables false
set_option maxHeartbeats 4000000
set_option maxRecDepth 100000
namespace Go.Proofs.YtclfmfabcnbbpaaGreat
open Go.Av
theorem SlcG_nm {H : List Blk} {K : AV → Prop} {r v l n : Nat} {y : Int} {cells : List AV} (hs : (H[r]?).map Blk.sz = some 1) (h0 : 0 ≤ y) (h1 : y ≤ n) : SlcG 1 (.nm r v 0 l) 0 y H K (some (n,cells)) = K (.nm r v 0 y.toNat):=by
 simp only [SlcG,if_true]
 refine propext ⟨fun h=>h.2.2.2.2,fun h=>⟨by omega,h0,h1,?_,h⟩⟩
 intro i ver off len he
 cases he
 exact hs
end Go.Proofs.YtclfmfabcnbbpaaGreat
namespace Go.Av
theorem Sim.trunc {B : Nat} {W0 : World} {F : Fz} {m : List Ent} {H : List Blk} {w : World} (h : Sim B W0 F m H w) {i ver ty : Nat} {cells : List AV} (hk : H[i]? = some ⟨ver,ty,1,cells⟩) (n : Nat) : Sim B W0 F m (H.set i ⟨ver,ty,1,cells.take n⟩) w:=by
 refine ⟨by simp [h.len],h.below,h.base,h.fz,h.apart,h.dist,fun j e k he hkk=>?_⟩
 have hlt:=(List.getElem?_eq_some_iff.1 hk).1
 by_cases hij : i = j
 ·subst hij
  rw [List.getElem?_set_self hlt] at hkk
  cases hkk
  obtain ⟨g1,g2,g3,g4,g5⟩:=h.blk i e _ he hk
  refine ⟨g1,g2,g3,fun hn=>⟨?_,(g4 hn).2⟩,fun b hb=>?_⟩
  ·have:=(g4 hn).1
   simp only at this
   simp [this]
  ·obtain ⟨o1,⟨o0,arr,o2,o3,o4,o5,o6⟩|⟨o0,_⟩⟩:=g5 b hb
   ·refine ⟨o1,.inl ⟨o0,arr,o2,o3,?_,fun q c v hc hv=>?_,o6⟩⟩
    ·simp only [List.length_take] at o4 ⊢;omega
    ·simp only [List.getElem?_take] at hc
     split at hc
     ·exact o5 q c v hc hv
     ·simp at hc
   ·rw [g3] at o0;simp at o0
 ·rw [List.getElem?_set_ne hij] at hkk
  exact h.blk j e k he hkk
theorem GR.trunc {H0 : List Blk} {R : AV → List Blk → Prop} {r : AV} {H : List Blk} {i ver ty : Nat} {cells : List AV} (n : Nat) (hk : H[i]? = some ⟨ver,ty,1,cells⟩) (h : GR H0 R r (H.set i ⟨ver,ty,1,cells.take n⟩)) : GR H0 R r H :=
 fun B W0 F0 m0 w0 F m w v hs0 hF hm hr hs=>h B W0 F0 m0 w0 F m w v hs0 hF hm hr (hs.trunc hk n)
end Go.Av