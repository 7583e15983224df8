/- What holds in every field (plain). -/
import Derived.Test.YtclfmfabcnbbpaaGreatzPC
import Derived.Test.YtclfmfabcnbbpaaGreatzFW
import Derived.Test.YtclfmfabcnbbpaaGreatzGU
set_option linter.unusedSimpArgs false
set_option linter.unusedVariables false
set_option maxHeartbeats 4000000
set_option maxRecDepth 100000
open Int renaming add_zero→zY,tmod_eq_emod_of_nonneg→wY,eq_ofNat_of_zero_le→wC,toNat_natCast→wA,one_mul→zL
open List renaming getD_eq_getElem?_getD→qE,getElem?_eq_none→wZ,replicate→qT,getElem?_replicate→y5,getElem?_eq_getElem→qB,append_nil→wX,length_replicate→xT,all_eq_true→w9,mem_range→wP
open Nat renaming le_refl→qZ,add_comm→zZ,mod_eq_of_lt→zQ
namespace Go.Proofs.YtclfmfabcnbbpaaGreat
open Go.Av
def sumR (f : Nat → Int) : Nat → Int
 | 0=>0
 | n + 1=>sumR f n + f n
theorem sumR_congr {f g : Nat → Int} : ∀ n,(∀ i,i < n → f i = g i) → sumR f n = sumR g n
 | 0,_=>rfl
 | n + 1,h=>by rw [sumR,sumR,sumR_congr n (fun i hi=>h i (by omega)),h n (by omega)]
theorem sumR_first (f : Nat → Int) : ∀ n,sumR f (n + 1) = f 0 + sumR (fun i=>f (i + 1)) n
 | 0=>by simp [sumR]
 | n + 1=>by rw [sumR,sumR_first f n,sumR,Int.add_assoc]
theorem sumR_rev (f : Nat → Int) : ∀ n,sumR f (n + 1) = sumR (fun i=>f (n - i)) (n + 1)
 | 0=>by simp [sumR]
 | n + 1=>by
  rw [sumR,sumR_rev f n,sumR_first (fun i=>f (n + 1 - i)) (n + 1),Int.add_comm]
  congr 1
  exact sumR_congr _ fun i _=>by rw [show n + 1 - (i + 1) = n - i by omega]
theorem sumR_zero {f : Nat → Int} {n : Nat} (h : ∀ i,n ≤ i → f i = 0) : ∀ k,sumR f (n + k) = sumR f n
 | 0=>rfl
 | k + 1=>by rw [show n + (k + 1) = (n + k) + 1 by omega,sumR,sumR_zero h k,h _ (by omega),zY]
def convR (x y : List Int) (s : Nat) : Int:=sumR (fun i=>x.getD i 0 * y.getD (s - i) 0) (s + 1)
theorem convR_comm (x y : List Int) (s : Nat) : convR x y s = convR y x s:=by
 unfold convR
 rw [sumR_rev]
 refine sumR_congr _ fun i hi=>?_
 rw [show s - (s - i) = i by omega,Int.mul_comm]
theorem getD_set (z : List Int) (t s : Nat) (v : Int) : (z.set t v).getD s 0 = if s = t ∧ t < z.length then v else z.getD s 0:=by
 rw [qE,List.getElem?_set,qE]
 by_cases h : t = s
 ·subst h
  rw [if_pos rfl]
  by_cases h2 : t < z.length
  ·rw [if_pos h2,if_pos ⟨rfl,h2⟩];rfl
  ·rw [if_neg h2,if_neg (by omega),wZ (by omega)]
 ·rw [if_neg h,if_neg (by omega)]
theorem mulI_get {p c : Int} {y : List Int} {i : Nat} : ∀ (m : Nat) (z : List Int) (s : Nat),m ≤ y.length →
  (mulI p c y i m z).getD s 0 = if i + (y.length - m) ≤ s ∧ s < i + y.length ∧ s < z.length then (z.getD s 0 + c * y.getD (s - i) 0).tmod p else z.getD s 0
 | 0,z,s,_=>by rw [mulI,if_neg (by omega)]
 | m + 1,z,s,hm=>by
  rw [mulI,mulI_get m _ s (by omega),List.length_set,getD_set]
  by_cases h1 : s = i + (y.length - (m + 1))
  ·subst h1
   by_cases h2 : i + (y.length - (m + 1)) < z.length
   ·rw [if_neg (by omega),if_pos ⟨rfl,h2⟩,if_pos ⟨qZ _,by omega,h2⟩,show i + (y.length - (m + 1)) - i = y.length - (m + 1) by omega]
   ·rw [if_neg (by omega),if_neg (by omega),if_neg (by omega)]
  ·rw [if_neg (show ¬ (s = i + (y.length - (m + 1)) ∧ _) from fun h=>h1 h.1)]
   by_cases h3 : i + (y.length - m) ≤ s ∧ s < i + y.length ∧ s < z.length
   ·rw [if_pos h3,if_pos (by omega)]
   ·rw [if_neg h3,if_neg (by omega)]
def parR (x y : List Int) (s j : Nat) : Int:=sumR (fun i=>if i ≤ s then x.getD i 0 * y.getD (s - i) 0 else 0) j
theorem mulO_get {p : Int} {x y : List Int} (hp : 0 < p ∧ p ≤ 64) (hx : OkD p x) (hy : OkD p y) : ∀ (m : Nat) (z : List Int),m ≤ x.length → OkD p z → (∀ s,s < z.length → z.getD s 0 = (parR x y s (x.length - m)) % p) → ∀ s,s < z.length → (mulO p x y m z).getD s 0 = (parR x y s x.length) % p
 | 0,z,_,_,h,s,hs=>by rw [mulO,h s hs,Nat.sub_zero]
 | m + 1,z,hm,hz,h,s,hs=>by
  have hx1:=hx.getD hp.1 (x.length - (m + 1))
  have hok:=mulI_ok (i:=x.length - (m + 1)) hp hx1 hy y.length z hz
  rw [mulO]
  refine mulO_get hp hx hy m _ (by omega) hok.1 ?_ s (by rw [hok.2];exact hs)
  intro u hu
  rw [hok.2] at hu
  have e : parR x y u (x.length - m) = parR x y u (x.length - (m + 1)) + (if x.length - (m + 1) ≤ u then x.getD (x.length - (m + 1)) 0 * y.getD (u - (x.length - (m + 1))) 0 else 0):=by
   unfold parR
   rw [show x.length - m = (x.length - (m + 1)) + 1 by omega,sumR]
  have hzu:=hz.getD hp.1 u
  rw [mulI_get y.length z u (qZ _),e]
  have hu0:=h u hu
  by_cases h1 : x.length - (m + 1) ≤ u
  ·rw [if_pos h1]
   have hy1:=hy.getD hp.1 (u - (x.length - (m + 1)))
   have hpr : 0 ≤ x.getD (x.length - (m + 1)) 0 * y.getD (u - (x.length - (m + 1))) 0:=Int.mul_nonneg hx1.1 hy1.1
   have key : (z.getD u 0 + x.getD (x.length - (m + 1)) 0 * y.getD (u - (x.length - (m + 1))) 0).tmod p = (parR x y u (x.length - (m + 1)) + x.getD (x.length - (m + 1)) 0 * y.getD (u - (x.length - (m + 1))) 0) % p:=by
    rw [wY (by omega),hu0,Int.emod_add_emod]
   by_cases h2 : u < x.length - (m + 1) + y.length
   ·rw [if_pos ⟨by omega,h2,hu⟩,key]
   ·have hy0 : y.getD (u - (x.length - (m + 1))) 0 = 0:=by rw [qE,wZ (by omega)];rfl
    rw [if_neg (by omega),hy0,Int.mul_zero,zY,hu0]
  ·rw [if_neg (by omega),if_neg h1,zY,hu0]
theorem parR_all (x y : List Int) (s : Nat) : parR x y s x.length = convR x y s:=by
 unfold parR convR
 have h1 : ∀ i,x.length ≤ i → (if i ≤ s then x.getD i 0 * y.getD (s - i) 0 else 0) = 0:=fun i hi=>by
  have : x.getD i 0 = 0:=by rw [qE,wZ hi];rfl
  rw [this,Int.zero_mul,ite_self]
 have h2 : ∀ i,s + 1 ≤ i → (if i ≤ s then x.getD i 0 * y.getD (s - i) 0 else 0) = 0:=fun i hi=>if_neg (by omega)
 have e1:=sumR_zero h1 (s + 1)
 have e2:=sumR_zero h2 x.length
 rw [show s + 1 + x.length = x.length + (s + 1) by omega,e1] at e2
 rw [e2]
 exact sumR_congr _ fun i hi=>if_pos (by omega)
theorem mulO_conv {p : Int} {x y : List Int} {n : Nat} (hp : 0 < p ∧ p ≤ 64) (hx : OkD p x) (hy : OkD p y) (s : Nat) (hs : s < n) : (mulO p x y x.length (qT n 0)).getD s 0 = (convR x y s) % p:=by
 rw [← parR_all]
 refine mulO_get hp hx hy x.length _ (qZ _) (rep_ok hp.1 n) (fun u hu=>?_) s (by simpa using hs)
 rw [Nat.sub_self]
 have : (qT n (0 : Int)).getD u 0 = 0:=by
  rw [qE,y5];split <;> rfl
 rw [this]
 rfl
theorem list_ext0 {a b : List Int} (hl : a.length = b.length) (h : ∀ s,s < a.length → a.getD s 0 = b.getD s 0) : a = b:=by
 refine List.ext_getElem hl fun s h1 h2=>?_
 have:=h s h1
 rw [qE,qE,qB h1,qB h2] at this
 exact this
theorem numL_digL {p : Nat} (hp : 1 ≤ p) : ∀ (n a : Nat),a < p ^ n → numL p (digL p n a) = a
 | 0,a,h=>by simp at h;simp [digL,numL,h]
 | n + 1,a,h=>by
  have h1 : a / p < p ^ n:=Nat.div_lt_of_lt_mul (by rw [Nat.mul_comm,← Nat.pow_succ];exact h)
  rw [digL,show numL p (((a % p : Nat) : Int) :: digL p n (a / p)) = numL p (digL p n (a / p)) * p + ((a % p : Nat) : Int) from rfl,numL_digL hp n _ h1]
  have:=Nat.div_add_mod a p
  rw [Nat.mul_comm] at this
  exact_mod_cast this
theorem digL_numL {p : Nat} (hp : 1 ≤ p) : ∀ (xs : List Int),OkD p xs → digL p xs.length (numL p xs).toNat = xs
 | [],_=>rfl
 | x :: xs,h=>by
  have hx:=h x List.mem_cons_self
  have hxs : OkD p xs:=fun z hz=>h z (List.mem_cons_of_mem _ hz)
  have hN:=(numL_bd hp xs hxs).1
  obtain ⟨N,hNe⟩:=wC hN
  obtain ⟨u,rfl⟩:=wC hx.1
  have e : (numL p ((u : Int) :: xs)).toNat = N * p + u:=by
   rw [show numL p ((u : Int) :: xs) = numL p xs * p + u from rfl,hNe]
   have : ((N : Int) * p + u) = ((N * p + u : Nat) : Int):=by simp
   rw [this,wA]
  have hup : u < p:=by omega
  have ih:=digL_numL hp xs hxs
  rw [hNe,wA] at ih
  rw [e,List.length_cons,digL,show (N * p + u) % p = u by rw [zZ,Nat.add_mul_mod_self_right,zQ hup],show (N * p + u) / p = N by rw [zZ,Nat.add_mul_div_right _ _ (by omega),Nat.div_eq_of_lt hup,Nat.zero_add],ih]
theorem digL_zero (p : Nat) : ∀ n,digL p n 0 = qT n 0
 | 0=>rfl
 | n + 1=>by rw [digL,Nat.zero_div,digL_zero p n,Nat.zero_mod];rfl
theorem digL_one {p : Nat} (hp : 2 ≤ p) (n : Nat) : digL p (n + 1) 1 = 1 :: qT n 0:=by
 rw [digL,Nat.div_eq_of_lt (show 1 < p by omega),digL_zero,zQ (show 1 < p by omega)];rfl
theorem numL_rep (p : Int) : ∀ n,numL p (qT n 0) = 0
 | 0=>rfl
 | n + 1=>by rw [List.replicate_succ,show numL p (0 :: qT n 0) = numL p (qT n 0) * p + 0 from rfl,numL_rep p n];simp
theorem restL_app {p : Int} {y by' : List Int} (hp : 0 < p) (hb : OkD p by') (hb1 : 1 ≤ by'.length) (hy : OkD p y) (hl : by'.length = y.length + 1) : ∀ m,restL (y ++ qT m 0) by' p = y
 | 0=>by
  rw [List.replicate_zero,wX]
  unfold restL
  rw [show y.length + 1 - by'.length = 0 by omega,rstO,show by'.length - 1 = y.length by omega,List.take_length]
 | m + 1=>by
  rw [List.replicate_succ',← List.append_assoc,restL_app0 hp hb hb1 (fun z hz=>?_) (by rw [List.length_append,xT];omega)]
  ·exact restL_app hp hb hb1 hy hl m
  ·rcases List.mem_append.1 hz with h|h
   ·exact hy z h
   ·rw [(List.mem_replicate.1 h).2];omega
section
variable {P K : Nat} {L : List Int}
theorem mulG_of (h2 : 2 ≤ P) (h6 : P ≤ 64) (hK : 1 ≤ K) (hL : OkD P L ∧ L.length = K + 1) {a b : Nat} {y : List Int} (hy : OkD P y) (hyl : y.length = K) (h : ∀ s,s < 2 * K - 1 → (convR (digL P K a) (digL P K b) s) % (P : Int) = y.getD s 0) : mulG P K L a b = numL P y:=by
 have hxo:=digL_ok (p:=P) (by omega) K a
 have hyo:=digL_ok (p:=P) (by omega) K b
 have hm:=mulO_ok (p:=(P : Int)) (by omega) hxo hyo K (qT (2 * K - 1) 0) (rep_ok (by omega) _)
 have e : mulO P (digL P K a) (digL P K b) K (qT (2 * K - 1) 0) = y ++ qT (K - 1) 0:=by
  refine list_ext0 (by rw [hm.2];simp;omega) fun s hs=>?_
  rw [hm.2,xT] at hs
  have:=mulO_conv (p:=(P : Int)) (n:=2 * K - 1) (by omega) hxo hyo s hs
  rw [digL_len] at this
  rw [this,h s hs]
  by_cases h1 : s < y.length
  ·rw [getD_app h1]
  ·rw [qE,wZ (by omega),qE,List.getElem?_append_right (by omega),y5]
   split <;> rfl
 unfold mulG
 rw [e,restL_app (by omega) hL.1 (by omega) hy (by omega)]
theorem mulG_com (h2 : 2 ≤ P) (h6 : P ≤ 64) (a b : Nat) : mulG P K L a b = mulG P K L b a:=by
 have hxo:=digL_ok (p:=P) (by omega) K a
 have hyo:=digL_ok (p:=P) (by omega) K b
 have hm:=mulO_ok (p:=(P : Int)) (by omega) hxo hyo K (qT (2 * K - 1) 0) (rep_ok (by omega) _)
 have hm2:=mulO_ok (p:=(P : Int)) (by omega) hyo hxo K (qT (2 * K - 1) 0) (rep_ok (by omega) _)
 have e : mulO P (digL P K a) (digL P K b) K (qT (2 * K - 1) 0) = mulO P (digL P K b) (digL P K a) K (qT (2 * K - 1) 0):=by
  refine list_ext0 (by rw [hm.2,hm2.2]) fun s hs=>?_
  rw [hm.2,xT] at hs
  have h1:=mulO_conv (p:=(P : Int)) (n:=2 * K - 1) (by omega) hxo hyo s hs
  have h2:=mulO_conv (p:=(P : Int)) (n:=2 * K - 1) (by omega) hyo hxo s hs
  rw [digL_len] at h1 h2
  rw [h1,h2,convR_comm]
 unfold mulG
 rw [e]
theorem convR_zero (y : List Int) (n s : Nat) : convR (qT n 0) y s = 0:=by
 unfold convR
 have:=sumR_zero (f:=fun i=>(qT n (0 : Int)).getD i 0 * y.getD (s - i) 0) (n:=0) (fun i _=>by
  have : (qT n (0 : Int)).getD i 0 = 0:=by rw [qE,y5];split <;> rfl
  rw [this,Int.zero_mul]) (s + 1)
 rw [Nat.zero_add] at this
 exact this
theorem convR_one (y : List Int) (n s : Nat) : convR (1 :: qT n 0) y s = y.getD s 0:=by
 unfold convR
 have:=sumR_zero (f:=fun i=>((1 : Int) :: qT n 0).getD i 0 * y.getD (s - i) 0) (n:=1) (fun i hi=>by
  obtain ⟨j,rfl⟩ : ∃ j,i = j + 1:=⟨i - 1,by omega⟩
  have : ((1 : Int) :: qT n 0).getD (j + 1) 0 = 0:=by rw [qE,List.getElem?_cons_succ,y5];split <;> rfl
  rw [this,Int.zero_mul]) s
 rw [zZ 1 s] at this
 rw [this]
 simp [sumR]
theorem mulG_zero (h2 : 2 ≤ P) (h6 : P ≤ 64) (hK : 1 ≤ K) (hL : OkD P L ∧ L.length = K + 1) (b : Nat) : mulG P K L 0 b = 0:=by
 rw [mulG_of h2 h6 hK hL (y:=qT K 0) (rep_ok (by omega) K) (by simp) (fun s hs=>?_),numL_rep]
 rw [digL_zero,convR_zero,qE,y5]
 split <;> simp
theorem mulG_one (h2 : 2 ≤ P) (h6 : P ≤ 64) (hK : 1 ≤ K) (hL : OkD P L ∧ L.length = K + 1) (a : Nat) (ha : a < P ^ K) : mulG P K L 1 a = a:=by
 have hyo:=digL_ok (p:=P) (by omega) K a
 rw [mulG_of h2 h6 hK hL (y:=digL P K a) hyo (digL_len P K a) (fun s hs=>?_),numL_digL (by omega) K a ha]
 obtain ⟨k,rfl⟩ : ∃ k,K = k + 1:=⟨K - 1,by omega⟩
 rw [digL_one h2,convR_one]
 have:=hyo.getD (show (0 : Int) < P by omega) s
 exact Int.emod_eq_of_lt this.1 this.2
end
end Go.Proofs.YtclfmfabcnbbpaaGreat
namespace Go.Proofs.YtclfmfabcnbbpaaGreat
open Go.Av
theorem sumT_all (p k : Int) (x y : List Int) {s : Nat} (hs : s < x.length) : (sumT p k x y x.length).getD s 0 = sumX p k x y s:=by
 unfold sumT
 rw [List.drop_length,wX,qE,List.getElem?_map,List.getElem?_range hs]
 rfl
theorem sumX_mod {p k : Int} {x y : List Int} (hp : 0 < p ∧ p ≤ 64) (hk : 0 ≤ k ∧ k ≤ 100) (hx : OkD p x) (hy : OkD p y) (i : Nat) : sumX p k x y i = (x.getD i 0 + k * y.getD i 0) % p:=by
 have h1:=hx.getD hp.1 i
 have h2:=sumX_bd hp hk hx hy i
 unfold sumX
 rw [wY (by omega)]
section
variable {P K : Nat} {L : List Int}
theorem sumG_of (h2 : 2 ≤ P) (h6 : P ≤ 64) {a b k : Nat} (hk : k ≤ 100) {y : List Int} (hyl : y.length = K) (h : ∀ s,s < K → ((digL P K a).getD s 0 + (k : Int) * (digL P K b).getD s 0) % (P : Int) = y.getD s 0) : sumG P K a b k = numL P y:=by
 have e : sumT P k (digL P K a) (digL P K b) K = y:=by
  refine list_ext0 (by rw [sumT_len _ _ _ _ (by rw [digL_len];exact qZ _),digL_len,hyl]) fun s hs=>?_
  rw [sumT_len _ _ _ _ (by rw [digL_len];exact qZ _),digL_len] at hs
  have:=sumT_all P k (digL P K a) (digL P K b) (s:=s) (by rw [digL_len];exact hs)
  rw [digL_len] at this
  rw [this,sumX_mod (by omega) (by omega) (digL_ok (p:=P) (by omega) K a) (digL_ok (p:=P) (by omega) K b),h s hs]
 unfold sumG
 rw [e]
theorem rep_get (n s : Nat) : (qT n (0 : Int)).getD s 0 = 0:=by rw [qE,y5];split <;> rfl
theorem sumG_s0 (h2 : 2 ≤ P) (h6 : P ≤ 64) {a k : Nat} (hk : k ≤ 100) (ha : a < P ^ K) : sumG P K a 0 k = a:=by
 rw [sumG_of h2 h6 hk (digL_len P K a) (fun s hs=>?_),numL_digL (by omega) K a ha]
 have:=(digL_ok (p:=P) (by omega) K a).getD (show (0 : Int) < P by omega) s
 rw [digL_zero,rep_get,Int.mul_zero,zY,Int.emod_eq_of_lt this.1 this.2]
theorem sumG_s1 (h2 : 2 ≤ P) (h6 : P ≤ 64) {a : Nat} : sumG P K a a (P - 1) = 0:=by
 rw [sumG_of h2 h6 (by omega) (y:=qT K 0) (by simp) (fun s hs=>?_),numL_rep]
 rw [rep_get,show (digL P K a).getD s 0 + ((P - 1 : Nat) : Int) * (digL P K a).getD s 0 = (P : Int) * (digL P K a).getD s 0 by
  rw [show ((P - 1 : Nat) : Int) = (P : Int) - 1 by omega,Int.sub_mul,zL];omega]
 exact Int.mul_emod_right _ _
theorem sumG_s2 (h2 : 2 ≤ P) (h6 : P ≤ 64) {a : Nat} : sumG P K a (sumG P K 0 a (P - 1)).toNat 1 = 0:=by
 have hx:=digL_ok (p:=P) (by omega) K a
 have h0:=digL_ok (p:=P) (by omega) K 0
 have hu:=sumT_ok (p:=(P : Int)) (k:=((P - 1 : Nat) : Int)) (by omega) (by omega) h0 hx K
 have hul : (sumT P ((P - 1 : Nat) : Int) (digL P K 0) (digL P K a) K).length = K:=by rw [sumT_len _ _ _ _ (by rw [digL_len];exact qZ _),digL_len]
 have hd:=digL_numL (p:=P) (by omega) _ hu
 rw [hul] at hd
 rw [sumG_of h2 h6 (by omega) (y:=qT K 0) (by simp) (fun s hs=>?_),numL_rep]
 have e : digL P K (sumG P K 0 a (P - 1)).toNat = sumT P ((P - 1 : Nat) : Int) (digL P K 0) (digL P K a) K:=hd
 have hg:=sumT_all P ((P - 1 : Nat) : Int) (digL P K 0) (digL P K a) (s:=s) (by rw [digL_len];exact hs)
 rw [digL_len] at hg
 rw [e,hg,sumX_mod (by omega) (by omega) h0 hx,rep_get,digL_zero,rep_get,Int.zero_add]
 rw [show ((1 : Nat) : Int) = 1 from rfl,zL,Int.add_emod_emod]
 rw [show (digL P K a).getD s 0 + ((P - 1 : Nat) : Int) * (digL P K a).getD s 0 = (P : Int) * (digL P K a).getD s 0 by
  rw [show ((P - 1 : Nat) : Int) = (P : Int) - 1 by omega,Int.sub_mul,zL];omega]
 exact Int.mul_emod_right _ _
theorem mulG_1 (h2 : 2 ≤ P) (h6 : P ≤ 64) (hL : OkD P L ∧ L.length = 1 + 1) (a b : Nat) (ha : a < P) (hb : b < P) : mulG P 1 L a b = ((a * b % P : Nat) : Int):=by
 have hlt : a * b % P < P:=Nat.mod_lt _ (by omega)
 rw [mulG_of h2 h6 (qZ 1) hL (y:=[((a * b % P : Nat) : Int)]) (fun z hz=>by rw [List.mem_singleton] at hz;omega) rfl (fun s hs=>?_)]
 ·simp [numL]
 ·obtain rfl : s = 0:=by omega
  simp [convR,sumR,digL,zQ ha,zQ hb]
theorem inv_1 (h2 : 2 ≤ P) (h6 : P ≤ 64) (hL : OkD P L ∧ L.length = 1 + 1) (hs : splV (P ^ 1) = P) (a : Nat) (ha0 : 0 < a) (ha : a < P) : ∃ b,1 ≤ b ∧ b < P ^ 1 ∧ mulG P 1 L a b = 1:=by
 have h:=w9.1 wit_one P (wP.2 (by omega))
 rw [Bool.or_eq_true,Bool.or_eq_true,decide_eq_true_eq,decide_eq_true_eq] at h
 rcases h with (h|h)|h
 ·omega
 ·exact absurd hs h
 ·have h:=w9.1 h a (wP.2 ha)
  rw [Bool.or_eq_true] at h
  rcases h with h|h
  ·rw [beq_iff_eq] at h;omega
  ·obtain ⟨b,hb,he⟩:=List.any_eq_true.1 h
   rw [beq_iff_eq] at he
   rw [wP] at hb
   refine ⟨b,?_,by rw [Nat.pow_one];exact hb,by rw [mulG_1 h2 h6 hL a b ha hb,he];rfl⟩
   rcases Nat.eq_zero_or_pos b with e|e
   ·rw [e,Nat.mul_zero,Nat.zero_mod] at he;omega
   ·exact e
theorem poly_is (hL : OkD P L ∧ L.length = K + 1) (h2 : 2 ≤ P) (h1 : L.getD K 0 = 1) : ∃ n,n < P ^ K ∧ L = digL P K n ++ [1]:=by
 have ho : OkD P (L.take K):=fun z hz=>hL.1 z (List.mem_of_mem_take hz)
 have hl : (L.take K).length = K:=by rw [List.length_take];omega
 have hd:=digL_numL (p:=P) (by omega) _ ho
 have hb:=numL_bd (p:=P) (by omega) _ ho
 rw [hl] at hd hb
 refine ⟨(numL P (L.take K)).toNat,by omega,?_⟩
 ·rw [hd]
  rw [qE,qB (by omega),Option.getD_some] at h1
  have:=List.take_append_drop K L
  rw [List.drop_eq_getElem_cons (by omega),h1,List.drop_eq_nil_of_le (by omega)] at this
  exact this.symm
theorem inv_2 (h2 : 2 ≤ P) (h6 : P ≤ 64) (hk : 2 ≤ K ∧ K ≤ 6) (hq : P ^ K ≤ 64) (hL : OkD P L ∧ L.length = K + 1) (h1 : L.getD K 0 = 1) (hs : splV (P ^ K) = P) (hi : irrG L P = true) (a : Nat) (ha0 : 0 < a) (ha : a < P ^ K) : ∃ b,1 ≤ b ∧ b < P ^ K ∧ mulG P K L a b = 1:=by
 obtain ⟨n,hn,rfl⟩:=poly_is hL h2 h1
 have hp : (P,K) ∈ prK:=by
  have h:=w9.1 (w9.1 wit_pk P (wP.2 (by omega))) K (wP.2 (by omega))
  simp only [Bool.or_eq_true,decide_eq_true_eq] at h
  rcases h with (((h|h)|h)|h)|h
  ·omega
  ·omega
  ·omega
  ·exact absurd hs h
  ·exact List.contains_iff_mem.1 h
 have h:=w9.1 (w9.1 wit_irr _ hp) n (wP.2 hn)
 rw [Bool.or_eq_true,Bool.not_eq_true'] at h
 rcases h with h|h
 ·rw [hi] at h;cases h
 obtain ⟨⟨p',k',n',w⟩,hw,he⟩:=List.any_eq_true.1 h
 simp only [Bool.and_eq_true,beq_iff_eq] at he
 obtain ⟨⟨rfl,rfl⟩,rfl⟩:=he
 have h:=w9.1 (w9.1 wit_ok _ hw) a (wP.2 ha)
 simp only [Bool.or_eq_true,Bool.and_eq_true,beq_iff_eq,decide_eq_true_eq] at h
 rcases h with h|⟨⟨h,h'⟩,h''⟩
 ·omega
 ·exact ⟨_,h',h'',h⟩
end
theorem fld_ok {p d : Int} {poly : List Int} (h : fieldB p d poly = true) : FldR p.toNat d.toNat poly:=by
 obtain ⟨P,K,rfl,rfl,hpb,hkb,hLb,hq,h1,hs,hi⟩:=fieldB_facts h
 rw [wA,wA]
 have hm1:=fun a=>mulG_one (P:=P) (K:=K) (L:=poly) hpb.1 hpb.2 hkb.1 hLb a
 have hm0:=fun b=>mulG_zero (P:=P) (K:=K) (L:=poly) hpb.1 hpb.2 hkb.1 hLb b
 have hc:=fun a b=>mulG_com (P:=P) (K:=K) (L:=poly) hpb.1 hpb.2 a b
 exact {
  m0:=fun b _=>hm0 b
  m0':=fun a _=>by rw [hc,hm0]
  m1:=hm1
  m1':=fun a ha=>by rw [hc,hm1 a ha]
  s0:=fun a k ha hk=>sumG_s0 hpb.1 hpb.2 (by omega) ha
  s1:=fun a ha=>sumG_s1 hpb.1 hpb.2
  s2:=fun a ha=>sumG_s2 hpb.1 hpb.2
  inv:=fun a ha0 ha=>by
   by_cases hK : K = 1
   ·subst hK
    exact inv_1 hpb.1 hpb.2 hLb hs a ha0 (by rwa [Nat.pow_one] at ha)
   ·exact inv_2 hpb.1 hpb.2 (by omega) hq hLb h1 hs hi a ha0 ha
  com:=fun a b _ _=>hc a b }
end Go.Proofs.YtclfmfabcnbbpaaGreat