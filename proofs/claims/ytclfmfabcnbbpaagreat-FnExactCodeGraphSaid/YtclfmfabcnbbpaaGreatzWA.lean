/- Words of binary codes. -/
import Derived.Test.YtclfmfabcnbbpaaGreatzGQ
import Derived.Test.YtclfmfabcnbbpaaGreatzK6
import Derived.Test.YtclfmfabcnbbpaaGreatzT0
set_option linter.unusedSimpArgs false
set_option linter.unusedVariables false
set_option maxHeartbeats 4000000
set_option maxRecDepth 100000
open List renaming range→w7,replicate→qT,mem_map→wG,getD_eq_getElem?_getD→qE,range_succ→xD,map_append→xB,mem_filter→zT,getElem?_map→qX,getElem?_eq_getElem→qB
open Int renaming eq_ofNat_of_zero_le→wC,toNat_natCast→wA
namespace Go.Proofs.YtclfmfabcnbbpaaGreat
open Go.Av
def addV (v r : List Int) : List Int:=(w7 v.length).map fun i=>(v.getD i 0 + r.getD i 0) % 2
def stV (v r : List Int) (d : Nat) : List Int:=if d = 0 then v else addV v r
def wR (w : Nat) : List (List Int) → Nat → List Int
 | [],_=>qT w 0
 | r :: rs,n=>stV (wR w rs (n / 2)) r (n % 2)
def wds (w : Nat) (m : List (List Int)) : List (List Int):=(w7 (2 ^ m.length)).map (wR w m.reverse)
def suppF (v : List Int) (j : Nat) : List Int:=((w7 j).filter fun i=>v.getD i 0 != 0).map fun (i : Nat)=>(i : Int)
def supp (v : List Int) : List Int:=suppF v v.length
theorem stV_len (v r : List Int) (d : Nat) : (stV v r d).length = v.length:=by
 unfold stV addV;split <;> simp
theorem wR_len (w : Nat) : ∀ (rs : List (List Int)) (n : Nat),(wR w rs n).length = w
 | [],_=>by simp [wR]
 | r :: rs,n=>by rw [wR,stV_len,wR_len w rs]
def Bit (v : List Int) : Prop:=∀ x ∈ v,0 ≤ x ∧ x < 2
theorem addV_bit (v r : List Int) : Bit (addV v r):=fun x hx=>by
 unfold addV at hx
 obtain ⟨i,_,rfl⟩:=wG.1 hx
 omega
theorem stV_bit {v : List Int} (hv : Bit v) (r : List Int) (d : Nat) : Bit (stV v r d):=by
 unfold stV;split
 ·exact hv
 ·exact addV_bit v r
theorem wR_bit (w : Nat) : ∀ (rs : List (List Int)) (n : Nat),Bit (wR w rs n)
 | [],_=>fun x hx=>by
  rw [wR] at hx
  rw [(List.mem_replicate.1 hx).2];omega
 | r :: rs,n=>by rw [wR];exact stV_bit (wR_bit w rs _) r _
theorem Bit.getD {v : List Int} (h : Bit v) (i : Nat) : 0 ≤ v.getD i 0 ∧ v.getD i 0 < 2:=by
 rw [qE]
 cases e : v[i]? with
 | none=>exact ⟨by simp,by simp⟩
 | some x=>exact h x (List.mem_of_getElem? e)
theorem wds_len (w : Nat) (m : List (List Int)) : (wds w m).length = 2 ^ m.length:=by simp [wds]
theorem range_two {α : Type} (f : Nat → α) : ∀ k,(w7 (2 * k)).map f = (w7 k).flatMap fun i=>[f (2 * i),f (2 * i + 1)]
 | 0=>rfl
 | k + 1=>by
  rw [show 2 * (k + 1) = 2 * k + 1 + 1 by omega,xD,xD,xD,List.flatMap_append,xB,xB,range_two f k]
  simp
theorem wds_snoc (w : Nat) (m : List (List Int)) (r : List Int) : wds w (m ++ [r]) = (wds w m).flatMap fun v=>[stV v r 0,stV v r 1]:=by
 unfold wds
 rw [List.length_append,List.length_singleton,Nat.pow_succ,Nat.mul_comm,range_two,List.flatMap_map]
 congr 1
 funext i
 rw [List.reverse_append,List.reverse_singleton,List.singleton_append,wR,wR,show 2 * i / 2 = i by omega,show (2 * i + 1) / 2 = i by omega,show 2 * i % 2 = 0 by omega,show (2 * i + 1) % 2 = 1 by omega]
theorem wds_nil (w : Nat) : wds w [] = [qT w 0]:=rfl
theorem wds_mem {w : Nat} {m : List (List Int)} {v : List Int} (h : v ∈ wds w m) : v.length = w ∧ Bit v:=by
 unfold wds at h
 obtain ⟨n,_,rfl⟩:=wG.1 h
 exact ⟨wR_len _ _ _,wR_bit _ _ _⟩
theorem asc_up : ∀ {xs : List Int} {lo hi hi' : Int},asc lo hi xs = true → hi ≤ hi' → asc lo hi' xs = true
 | [],_,_,_,_,_=>rfl
 | x :: r,lo,hi,hi',h,hh=>by
  simp only [asc,Bool.and_eq_true,decide_eq_true_eq] at h ⊢
  exact ⟨⟨h.1.1,by omega⟩,asc_up h.2 hh⟩
theorem asc_app : ∀ {xs : List Int} {lo hi y : Int},asc lo (y - 1) xs = true → lo ≤ y → y ≤ hi → asc lo hi (xs ++ [y]) = true
 | [],_,_,_,_,h1,h2=>by simp [asc,h1,h2]
 | x :: r,lo,hi,y,h,h1,h2=>by
  simp only [asc,Bool.and_eq_true,decide_eq_true_eq,List.cons_append] at h ⊢
  exact ⟨⟨h.1.1,by omega⟩,asc_app h.2 (by omega) h2⟩
theorem suppF_succ (v : List Int) (j : Nat) : suppF v (j + 1) = suppF v j ++ (if v.getD j 0 = 0 then [] else [(j : Int)]):=by
 unfold suppF
 rw [xD,List.filter_append,xB]
 congr 1
 by_cases h : v.getD j 0 = 0
 ·rw [if_pos h,List.filter_cons_of_neg (by simp only [h];decide)];rfl
 ·rw [if_neg h,List.filter_cons_of_pos (by simpa using h)];rfl
theorem suppF_asc (v : List Int) : ∀ j : Nat,asc 0 ((j : Int) - 1) (suppF v j) = true
 | 0=>rfl
 | j + 1=>by
  rw [suppF_succ]
  split
  ·rw [List.append_nil];exact asc_up (suppF_asc v j) (by omega)
  ·exact asc_app (suppF_asc v j) (by omega) (by omega)
theorem suppF_len (v : List Int) (j : Nat) : (suppF v j).length ≤ j:=by
 unfold suppF;rw [List.length_map];exact Nat.le_trans (List.length_filter_le _ _) (by simp)
theorem supp_has {v : List Int} (x : Nat) : (supp v).contains (x : Int) = decide (v.getD x 0 ≠ 0):=by
 rw [Bool.eq_iff_iff,List.contains_iff_mem,decide_eq_true_eq]
 unfold supp suppF
 rw [wG]
 constructor
 ·rintro ⟨i,hi,he⟩
  have e : i = x:=by omega
  subst e
  simpa using (zT.1 hi).2
 ·intro h
  refine ⟨x,zT.2 ⟨List.mem_range.2 ?_,by simpa using h⟩,rfl⟩
  rcases Nat.lt_or_ge x v.length with h1|h1
  ·exact h1
  ·exact absurd (by rw [qE,List.getElem?_eq_none h1];rfl) h
def supps (w : Nat) (m : List (List Int)) : List (List Int):=((wds w m).drop 1).map supp
theorem supps_len (w : Nat) (m : List (List Int)) : (supps w m).length = 2 ^ m.length - 1:=by simp [supps,wds_len]
theorem supps_asc {w : Nat} {m : List (List Int)} : ∀ xs ∈ supps w m,asc 0 ((w : Int) - 1) xs = true:=fun xs h=>by
 obtain ⟨v,hv,rfl⟩:=wG.1 h
 have h1:=suppF_asc v v.length
 have h2 : v.length = w:=(wds_mem (List.mem_of_mem_drop hv)).1
 unfold supp
 rw [h2] at h1 ⊢
 exact h1
theorem supps_has (w : Nat) (m : List (List Int)) (i x : Nat) (hi : i + 1 < 2 ^ m.length) : ((supps w m).getD i []).contains (x : Int) = decide (((wds w m).getD (i + 1) []).getD x 0 = 1):=by
 have hl:=wds_len w m
 have e1 : (supps w m).getD i [] = supp ((wds w m).getD (i + 1) []):=by
  unfold supps
  rw [qE,qX,List.getElem?_drop,Nat.add_comm 1 i,qE,qB (by omega)];rfl
 rw [e1,supp_has]
 have hb : Bit ((wds w m).getD (i + 1) []):=by
  rw [qE,qB (by omega)]
  exact (wds_mem (List.getElem_mem _)).2
 have:=hb.getD x
 congr 1
 exact propext ⟨fun h=>by omega,fun h=>by omega⟩
theorem two_of {L : List Int} (hL : OkD (2 : Nat) L ∧ L.length = 1 + 1) (h1 : L.getD 1 0 = 1) : L = [0,1] ∨ L = [1,1]:=by
 obtain ⟨h,hl⟩:=hL
 match L,hl with
 | [a,b],_ =>
  have e : b = 1:=h1
  have:=h a (by simp)
  subst e
  have : a = 0 ∨ a = 1:=by omega
  rcases this with rfl|rfl
  ·exact .inl rfl
  ·exact .inr rfl
theorem lt_two {a : Nat} (h : a < 2) : a = 0 ∨ a = 1:=by omega
theorem sum_two {a b : Nat} (ha : a < 2) (hb : b < 2) : sumG 2 1 a b 1 = ((a + b : Nat) : Int) % 2:=by
 rcases lt_two ha with rfl|rfl <;> rcases lt_two hb with rfl|rfl <;> decide +kernel
theorem mul_two {L : List Int} (hL : OkD (2 : Nat) L ∧ L.length = 1 + 1) (h1 : L.getD 1 0 = 1) {a b : Nat} (ha : a < 2) (hb : b < 2) : mulG 2 1 L a b = ((a * b : Nat) : Int):=by
 rcases two_of hL h1 with rfl|rfl <;> rcases lt_two ha with rfl|rfl <;> rcases lt_two hb with rfl|rfl <;> decide +kernel
theorem getD_extW {v r : List Int} (hl : v.length = r.length) (h : ∀ i,i < v.length → v.getD i 0 = r.getD i 0) : v = r:=by
 refine List.ext_getElem hl fun i h1 h2=>?_
 have:=h i h1
 rwa [qE,qB h1,qE,qB h2] at this
theorem map_range_getD (f : Nat → Int) {n i : Nat} (h : i < n) : ((w7 n).map f).getD i 0 = f i:=by
 rw [qE,qX,List.getElem?_range h];rfl
def plV (P K : Nat) (v r : List Int) (j : Nat) : List Int:=(w7 j).map fun i=>if r.getD i 0 = 0 then v.getD i 0 else sumG P K (v.getD i 0).toNat (r.getD i 0).toNat 1
theorem plV_two {v r : List Int} (hv : Bit v) (hr : Bit r) : plV 2 1 v r v.length = addV v r:=by
 unfold plV addV
 refine List.map_congr_left fun i _=>?_
 have h1:=hv.getD i
 have h2:=hr.getD i
 obtain ⟨a,ha⟩:=wC h1.1
 obtain ⟨b,hb⟩:=wC h2.1
 rw [ha] at h1 ⊢
 rw [hb] at h2 ⊢
 rw [wA,wA,sum_two (by omega) (by omega)]
 split
 ·rename_i e;rw [e];omega
 ·omega
theorem addV_zero {v r : List Int} (hv : Bit v) (hr : ∀ i,r.getD i 0 = 0) : addV v r = v:=by
 refine getD_extW (by simp [addV]) fun i hi=>?_
 have hi' : i < v.length:=by simpa [addV] using hi
 unfold addV
 rw [map_range_getD _ hi',hr i]
 have:=hv.getD i
 omega
end Go.Proofs.YtclfmfabcnbbpaaGreat