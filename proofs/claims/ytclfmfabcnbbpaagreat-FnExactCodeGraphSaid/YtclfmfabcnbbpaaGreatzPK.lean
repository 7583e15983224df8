/- Rows of the call's own, as an elimination turns them. -/
import Derived.Test.YtclfmfabcnbbpaaGreatzPI
import Derived.Test.YtclfmfabcnbbpaaGreatzC1
import Derived.Test.YtclfmfabcnbbpaaGreatzGU
import Derived.Test.YtclfmfabcnbbpaaGreatProg
import Derived.KernelRfl
set_option linter.unusedSimpArgs false
set_option linter.unusedVariables false
set_option maxHeartbeats 4000000
set_option maxRecDepth 100000
open Go.Operand renaming tmp→t'
open Option renaming none→n',some→s'
open List renaming getElem?_eq_getElem→qB,getElem?_map→qX,getElem?_eq_some_iff→qC,nodup_cons→zC,mem_map→wG,mem_of_getElem?→wD,length_map→w8,getElem_map→yA,length_set→w6,getElem?_set_ne→qR,getElem?_set_self→qY,getElem?_set→xR,getElem?_of_mem→wU,pairwise_iff_getElem→yT,getD_eq_getElem?_getD→qE,map_map→xX,ext_getElem?→xU,take_succ_cons→qI,take_zero→qO,append_nil→wX,getElem?_append_left→qN,set_set→yB,getElem?_eq_none→wZ,take_of_length_le→qW,getElem?_append_right→qV,getElem?_drop→xF,getElem?_range→xK,range'→yJ,map_set→xL,length_range→xJ,getElem_mem→wQ
open Option renaming some→qU,map_some→wO,map_none→yK
open Go.Av.SW renaming block→q8,loopE→wJ,condD→wK,condN→wL,condNB→wF,condB→wH,condF→wE,condT→wM
open Go.Av.FunPost renaming one→qP,two→qS,three→qQ
open Go.Av.SLoop renaming next→wB
open Nat renaming sub_self→wS,one_mul→yC
open Int renaming toNat_natCast→wA,eq_ofNat_of_zero_le→wC
namespace Go.Proofs.YtclfmfabcnbbpaaGreat
open Go.Av
structure TabO (X : List Blk) (b0 tb ver : Nat) (rs : List (Nat × Nat × Nat)) (w : Nat) (xss : List (List Int)) : Prop where
 lo : b0 ≤ tb ∧ ∀ p ∈ rs,b0 ≤ p.1
 top : X[tb]? = some ⟨ver,tyLL,1,rs.map fun p=>AV.nm p.1 p.2.1 0 w⟩
 len : rs.length = xss.length
 row : ∀ (i : Nat) (p : Nat × Nat × Nat),rs[i]? = some p → (xss.getD i []).length = w ∧ X[p.1]? = some ⟨p.2.1,p.2.2,1,(xss.getD i []).map I⟩
 nd : (tb :: rs.map (·.1)).Nodup
section
variable {X Y : List Blk} {b0 tb ver w : Nat} {rs : List (Nat × Nat × Nat)} {xss : List (List Int)}
theorem TabO.at (h : TabO X b0 tb ver rs w xss) {i : Nat} (hi : i < xss.length) : ∃ p,rs[i]? = some p ∧ (rs.map fun p=>AV.nm p.1 p.2.1 0 w)[i]? = some (AV.nm p.1 p.2.1 0 w):=by
 have hl : i < rs.length:=by rw [h.len];exact hi
 exact ⟨rs[i],qB hl,by rw [qX,qB hl];rfl⟩
theorem TabO.lt (h : TabO X b0 tb ver rs w xss) {i : Nat} {p : Nat × Nat × Nat} (hp : rs[i]? = some p) : p.1 < X.length:=(qC.1 (h.row i p hp).2).1
theorem TabO.ltop (h : TabO X b0 tb ver rs w xss) : tb < X.length:=(qC.1 h.top).1
theorem TabO.ne (h : TabO X b0 tb ver rs w xss) {i : Nat} {p : Nat × Nat × Nat} (hp : rs[i]? = some p) : tb ≠ p.1:=fun e=>by
 have:=(zC.1 h.nd).1
 exact this (wG.2 ⟨p,wD hp,e.symm⟩)
theorem TabO.inj (h : TabO X b0 tb ver rs w xss) {i j : Nat} {p q : Nat × Nat × Nat} (hp : rs[i]? = some p) (hq : rs[j]? = some q) (e : p.1 = q.1) : i = j:=by
 have hn:=(zC.1 h.nd).2
 obtain ⟨hi,e1⟩:=qC.1 hp
 obtain ⟨hj,e2⟩:=qC.1 hq
 have:=(List.getElem_inj (i:=i) (j:=j) (h₀:=by rw [w8];exact hi) (h₁:=by rw [w8];exact hj) hn).1 (by rw [yA,yA,e1,e2];exact e)
 exact this
theorem TabO.view (h : TabO X b0 tb ver rs w xss) : aview X (.nm tb ver 0 xss.length) = some (xss.length,rs.map fun p=>AV.nm p.1 p.2.1 0 w):=view_nm h.top (by rw [w8,h.len])
theorem TabO.rview (h : TabO X b0 tb ver rs w xss) {i : Nat} {p : Nat × Nat × Nat} (hp : rs[i]? = some p) : aview X (.nm p.1 p.2.1 0 w) = some (w,(xss.getD i []).map I):=view_nm (h.row i p hp).2 (by rw [w8];exact (h.row i p hp).1)
theorem TabO.same (h : TabO X b0 tb ver rs w xss) (hs : ∀ (j : Nat) (b : Blk),(j = tb ∨ j ∈ rs.map (·.1)) → X[j]? = some b → Y[j]? = some b) : TabO Y b0 tb ver rs w xss :=
 ⟨h.lo,hs _ _ (.inl rfl) h.top,h.len,fun i p hp=>⟨(h.row i p hp).1,hs _ _ (.inr (wG.2 ⟨p,wD hp,rfl⟩)) (h.row i p hp).2⟩,h.nd⟩
theorem TabO.app (h : TabO X b0 tb ver rs w xss) (ext : List Blk) : TabO (X ++ ext) b0 tb ver rs w xss:=h.same fun j b _ hb=>get_appU hb ext
theorem TabO.put (h : TabO X b0 tb ver rs w xss) {i : Nat} {p : Nat × Nat × Nat} (hp : rs[i]? = some p) {ys : List Int} (hy : ys.length = w) : TabO (X.set p.1 ⟨p.2.1,p.2.2,1,ys.map I⟩) b0 tb ver rs w (xss.set i ys):=by
 have hne:=h.ne hp
 have hil : i < xss.length:=by rw [← h.len];exact (qC.1 hp).1
 refine ⟨h.lo,?_,by rw [w6];exact h.len,fun j q hq=>?_,h.nd⟩
 ·rw [qR (Ne.symm hne)];exact h.top
 ·have hj : j < xss.length:=by rw [← h.len];exact (qC.1 hq).1
  rw [getD_set' hj]
  by_cases e : j = i
  ·subst e
   rw [hp] at hq;cases hq
   rw [if_pos rfl,qY (h.lt hp)]
   exact ⟨hy,rfl⟩
  ·rw [if_neg e,qR (fun e2=>e (h.inj hq hp e2.symm))]
   exact h.row j q hq
theorem TabO.swap (h : TabO X b0 tb ver rs w xss) {i t : Nat} {p q : Nat × Nat × Nat} (hp : rs[i]? = some p) (hq : rs[t]? = some q) : TabO (X.set tb ⟨ver,tyLL,1,((rs.set t p).set i q).map fun p=>AV.nm p.1 p.2.1 0 w⟩) b0 tb ver ((rs.set t p).set i q) w ((xss.set t (xss.getD i [])).set i (xss.getD t [])):=by
 have hi:=(qC.1 hp).1
 have ht:=(qC.1 hq).1
 have hget : ∀ (j : Nat) (s : Nat × Nat × Nat),((rs.set t p).set i q)[j]? = some s → (j = i ∧ s = q) ∨ (j ≠ i ∧ j = t ∧ s = p) ∨ (j ≠ i ∧ j ≠ t ∧ rs[j]? = some s):=fun j s hs=>by
  rw [xR] at hs
  by_cases e : i = j
  ·rw [if_pos e,if_pos (by rw [w6];omega)] at hs
   exact .inl ⟨e.symm,(qU.inj hs).symm⟩
  ·rw [if_neg e,xR] at hs
   by_cases e2 : t = j
   ·rw [if_pos e2,if_pos (by omega)] at hs
    exact .inr (.inl ⟨Ne.symm e,e2.symm,(qU.inj hs).symm⟩)
   ·rw [if_neg e2] at hs
    exact .inr (.inr ⟨Ne.symm e,Ne.symm e2,hs⟩)
 have hold : ∀ (j : Nat) (s : Nat × Nat × Nat),((rs.set t p).set i q)[j]? = some s → ∃ j',rs[j']? = some s ∧ (j = i → j' = t) ∧ (j ≠ i → j = t → j' = i) ∧ (j ≠ i → j ≠ t → j' = j):=fun j s hs=>by
  rcases hget j s hs with ⟨e,rfl⟩|⟨e,e2,rfl⟩|⟨e,e2,hs⟩
  ·exact ⟨t,hq,fun _=>rfl,fun g=>absurd e g,fun g=>absurd e g⟩
  ·exact ⟨i,hp,fun g=>absurd g e,fun _ _=>rfl,fun _ g=>absurd e2 g⟩
  ·exact ⟨j,hs,fun g=>absurd g e,fun _ g=>absurd g e2,fun _ _=>rfl⟩
 refine ⟨⟨h.lo.1,fun s hs=>?_⟩,qY h.ltop,by rw [w6,w6,w6,w6];exact h.len,fun j s hs=>?_,?_⟩
 ·obtain ⟨j,hj⟩:=wU hs
  obtain ⟨j',h1,-⟩:=hold j s hj
  exact h.lo.2 s (wD h1)
 ·obtain ⟨j',h1,h2,h3,h4⟩:=hold j s hs
  have hj : j < xss.length:=by
   have:=(qC.1 hs).1
   rw [w6,w6,h.len] at this;exact this
  rw [qR (h.ne h1),getD_set' (by rw [w6];exact hj),getD_set' hj]
  have hr:=h.row j' s h1
  by_cases e : j = i
  ·rw [if_pos e,← h2 e];exact hr
  ·rw [if_neg e]
   by_cases e2 : j = t
   ·rw [if_pos e2,← h3 e e2];exact hr
   ·rw [if_neg e2,← h4 e e2];exact hr
 ·rw [zC]
  refine ⟨fun hm=>?_,?_⟩
  ·obtain ⟨s,hs,e⟩:=wG.1 hm
   obtain ⟨j,hj⟩:=wU hs
   obtain ⟨j',h1,-⟩:=hold j s hj
   exact h.ne h1 e.symm
  ·unfold List.Nodup
   rw [yT]
   intro a b ha hb hab e
   rw [w8] at ha hb
   rw [yA,yA] at e
   obtain ⟨a',g1,g2,g3,g4⟩:=hold a _ (qB ha)
   obtain ⟨b',k1,k2,k3,k4⟩:=hold b _ (qB hb)
   have:=h.inj g1 k1 e
   by_cases a1 : a = i <;> by_cases b1 : b = i
   ·omega
   ·have:=g2 a1
    by_cases b2 : b = t
    ·have:=k3 b1 b2;omega
    ·have:=k4 b1 b2;omega
   ·have:=k2 b1
    by_cases a2 : a = t
    ·have:=g3 a1 a2;omega
    ·have:=g4 a1 a2;omega
   ·by_cases a2 : a = t <;> by_cases b2 : b = t
    ·omega
    ·have:=g3 a1 a2;have:=k4 b1 b2;omega
    ·have:=g4 a1 a2;have:=k3 b1 b2;omega
    ·have:=g4 a1 a2;have:=k4 b1 b2;omega
end
def cellP (X : List Blk) : AV → Nat × Nat × Nat
 | .nm r v _ _=>(r,v,((X[r]?).map Blk.ty).getD 0)
 | _=>(0,0,0)
theorem TabO.of {X : List Blk} {b w : Nat} {v : AV} {xss : List (List Int)} (h : GrowSS X b tyLL v xss) (hn : 1 ≤ xss.length) (hw : 1 ≤ w) (hx : ∀ x ∈ xss,x.length = w) : ∃ tb ver rs,v = .nm tb ver 0 xss.length ∧ TabO X b tb ver rs w xss:=by
 rcases h with ⟨rfl,rfl⟩|⟨t,ver,cells,rfl,h1,h2,h3,h4,h5⟩
 ·simp at hn
 have hc : ∀ (i : Nat) (c : AV),cells[i]? = some c → (xss.getD i []).length = w ∧ ∃ r ver ty,c = .nm r ver 0 w ∧ b ≤ r ∧ r ≠ t ∧ X[r]? = some ⟨ver,ty,1,(xss.getD i []).map I⟩:=fun i c hi=>by
  have hil : i < xss.length:=by rw [← h3];exact (qC.1 hi).1
  have hxi : xss[i]? = some (xss.getD i []):=by rw [qE,qB hil];rfl
  have hl:=hx _ (wD hxi)
  refine ⟨hl,?_⟩
  rcases h4 i c _ hi hxi with ⟨r,v,ty,rfl,g1,g2,g3⟩|⟨g1,-⟩
  ·exact ⟨r,v,ty,by rw [hl],g1,g2,g3⟩
  ·rw [g1] at hl;simp at hl;omega
 have hcp : ∀ (i : Nat) (c : AV),cells[i]? = some c → c = .nm (cellP X c).1 (cellP X c).2.1 0 w ∧ b ≤ (cellP X c).1 ∧ (cellP X c).1 ≠ t ∧ X[(cellP X c).1]? = some ⟨(cellP X c).2.1,(cellP X c).2.2,1,(xss.getD i []).map I⟩:=fun i c hi=>by
  obtain ⟨-,r,v,ty,rfl,g1,g2,g3⟩:=hc i c hi
  refine ⟨rfl,g1,g2,?_⟩
  show X[r]? = some ⟨v,((X[r]?).map Blk.ty).getD 0,1,_⟩
  rw [g3];rfl
 refine ⟨t,ver,cells.map (cellP X),rfl,⟨h1,fun p hp=>?_⟩,?_,by rw [w8,h3],fun i p hp=>?_,?_⟩
 ·obtain ⟨c,hcm,rfl⟩:=wG.1 hp
  obtain ⟨i,hi⟩:=wU hcm
  exact (hcp i c hi).2.1
 ·rw [h2,xX]
  congr 2
  refine xU fun i=>?_
  rw [qX]
  cases hi : cells[i]? with
  | none=>rfl
  | some c=>exact congrArg some (hcp i c hi).1
 ·rw [qX] at hp
  cases hi : cells[i]? with
  | none=>rw [hi] at hp;cases hp
  | some c =>
   rw [hi] at hp
   cases hp
   exact ⟨(hc i c hi).1,(hcp i c hi).2.2.2⟩
 ·rw [zC]
  refine ⟨fun hm=>?_,?_⟩
  ·rw [xX] at hm
   obtain ⟨c,hcm,e⟩:=wG.1 hm
   obtain ⟨i,hi⟩:=wU hcm
   exact (hcp i c hi).2.2.1 e
  ·unfold List.Nodup
   rw [xX,yT]
   intro i j ha hb hij e
   rw [w8] at ha hb
   rw [yA,yA] at e
   have a1:=(hcp i _ (qB ha)).1
   have b1:=(hcp j _ (qB hb)).1
   have e2 : (cellP X cells[i]).1 = (cellP X cells[j]).1:=e
   rw [e2] at a1
   exact h5 i j _ _ _ _ _ _ _ (by omega) ((qB ha).trans (congrArg some a1)) ((qB hb).trans (congrArg some b1))
end Go.Proofs.YtclfmfabcnbbpaaGreat
namespace Go.Proofs.YtclfmfabcnbbpaaGreat
open Go.Av
abbrev f_impl_arithmetic_reduce_c1 : Nat:=71
def c_impl_arithmetic_reduce_c1 : SC :=
 .seq (.reg [⟨s' 3,.mv (.const (.bool false)),n'⟩] [0,1]) (.seq (.reg [⟨s' 4,.mv (t' 0),n'⟩,⟨s' 5,.load 1 false (t' 1),n'⟩,⟨s' 6,.iaddr 1 (t' 4) (t' 5),n'⟩,
 ⟨s' 7,.load 1 false (t' 6),n'⟩,⟨s' 8,.bin .neq (t' 7) (.const (.int .i64 0)),n'⟩,⟨s' 3,.mv (t' 8),n'⟩] [3]) (.ret))
theorem s_impl_arithmetic_reduce_c1 : stripF Tryz.prog 71 [[0,1],[3]] = some (c_impl_arithmetic_reduce_c1,[.tmp 3],9):=by kernel_rfl
theorem idxAt_ok {f : Nat} {anns : List (List Nat)} (hs : stripF Tryz.prog f anns = some (c_slices_IndexFunc_LLint64_Lint64,[.tmp 4],19)) {α : Type} (enc : α → AV) (H : List Blk) (a : AV) (xs : List α) (ha : aview H a = some (xs.length,xs.map enc))
  (g : Nat) (cs : List AV) (hg : callable Tryz.prog g = true) (p : α → Bool) (hp : ∀ x ∈ xs,ACalls Tryz.prog g (enc x :: cs) H (fun r H'=>r = Bv (p x) ∧ H' = H)) :
  ACalls Tryz.prog f [a,.fn g cs] H (fun r H'=>((∃ (pre post : List α) (x : α),xs = pre ++ x :: post ∧ p x = true ∧ (∀ y ∈ pre,p y = false) ∧ r = I pre.length) ∨ ((∀ x ∈ xs,p x = false) ∧ r = I (-1))) ∧ H' = H):=by
 refine ACalls.introB hs (by simp) ?_;intro hB hA;unfold c_slices_IndexFunc_LLint64_Lint64;simp (disch:=(first|omega|(simp only [go_sem];try omega))) only [go_sem,Nat.reduceAdd,Nat.reduceEqDiff,Nat.reduceLeDiff,reduceIte,w64_id,cast_succ]
 repeat (first|(with_reducible first|refine SW.seq ?_|refine q8 ?_|refine SW.rowC ?_|refine SW.skip ?_|refine SW.exit ?_|intro _|refine And.intro (by omega) ?_)|simp (disch:=(first|omega|(simp only [go_sem];try omega))) only [go_sem,Nat.reduceAdd,Nat.reduceEqDiff,Nat.reduceLeDiff,reduceIte,w64_id,cast_succ,ha])
 refine wJ (fun E0 H0 q E' H'=>∃ (pre post : List α),xs = pre ++ post ∧ q = post.length ∧ E' = aput E0 8 (I pre.length) ∧ H' = H0 ∧ ∀ x ∈ pre,p x = false) xs.length ⟨[],xs,rfl,rfl,rfl,rfl,by simp⟩ ?_
 rintro q E' H' ⟨pre,post,hpp,rfl,rfl,rfl,hn⟩
 simp (disch:=(first|omega|(simp only [go_sem];try omega))) only [go_sem,Nat.reduceAdd,Nat.reduceEqDiff,Nat.reduceLeDiff,reduceIte,w64_id,cast_succ]
 repeat (first|(with_reducible first|refine SW.seq ?_|refine q8 ?_|refine SW.rowC ?_|refine SW.skip ?_|refine SW.exit ?_|intro _|refine And.intro (by omega) ?_)|simp (disch:=(first|omega|(simp only [go_sem];try omega))) only [go_sem,Nat.reduceAdd,Nat.reduceEqDiff,Nat.reduceLeDiff,reduceIte,w64_id,cast_succ])
 (first|refine wK rfl (fun h=>?_) (fun h=>?_)|refine wL rfl (fun h=>?_) (fun h=>?_)|refine wF rfl (fun h=>?_) (fun h=>?_)|refine wH rfl (fun h=>?_) (fun h=>?_))
 ·cases post with
  | nil=>exfalso;simp at hpp;subst hpp;omega
  | cons x post =>
   have hgx : (xs.map enc)[pre.length]? = some (enc x):=by subst hpp;simp
   repeat (first|(with_reducible first|refine SW.seq ?_|refine q8 ?_|refine SW.rowC ?_|refine SW.skip ?_|refine SW.exit ?_|intro _|refine And.intro (by omega) ?_)|simp (disch:=(first|omega|(simp only [go_sem];try omega))) only [go_sem,Nat.reduceAdd,Nat.reduceEqDiff,Nat.reduceLeDiff,reduceIte,w64_id,cast_succ,ha,hgx,hg])
   refine ACalls.fn (hp x (by subst hpp;simp)) ?_
   repeat (first|(with_reducible first|refine SW.seq ?_|refine q8 ?_|refine SW.rowC ?_|refine SW.skip ?_|refine SW.exit ?_|intro _|refine And.intro (by omega) ?_)|simp (disch:=(first|omega|(simp only [go_sem];try omega))) only [go_sem,Nat.reduceAdd,Nat.reduceEqDiff,Nat.reduceLeDiff,reduceIte,w64_id,cast_succ])
   (first|refine wK rfl (fun h2=>?_) (fun h2=>?_)|refine wL rfl (fun h2=>?_) (fun h2=>?_)|refine wF rfl (fun h2=>?_) (fun h2=>?_)|refine wH rfl (fun h2=>?_) (fun h2=>?_))
   ·repeat (first|(with_reducible first|refine SW.seq ?_|refine q8 ?_|refine SW.rowC ?_|refine SW.skip ?_|refine SW.exit ?_|intro _|refine And.intro (by omega) ?_)|simp (disch:=(first|omega|(simp only [go_sem];try omega))) only [go_sem,Nat.reduceAdd,Nat.reduceEqDiff,Nat.reduceLeDiff,reduceIte,w64_id,cast_succ])
    refine SW.ret ?_;(try simp only [go_sem]);(first|refine qP ?_|refine qS ?_|refine qQ ?_);(try simp (disch:=(first|omega|(simp only [go_sem];try omega))) only [go_sem,Nat.reduceAdd,Nat.reduceEqDiff,Nat.reduceLeDiff,reduceIte,w64_id,cast_succ]);(first|(with_reducible refine GR.drop ?_ ?_;(simp only [go_sem,and_self,and_true,true_and,implies_true,qI,qO]))|refine GR.of ?_);refine ⟨?_,rfl⟩;(try with_reducible rfl)
    exact .inl ⟨pre,post,x,hpp,h2,hn,rfl⟩
   ·repeat (first|(with_reducible first|refine SW.seq ?_|refine q8 ?_|refine SW.rowC ?_|refine SW.skip ?_|refine SW.exit ?_|intro _|refine And.intro (by omega) ?_)|simp (disch:=(first|omega|(simp only [go_sem];try omega))) only [go_sem,Nat.reduceAdd,Nat.reduceEqDiff,Nat.reduceLeDiff,reduceIte,w64_id,cast_succ])
    refine wB post.length (by simp) ⟨pre ++ [x],post,by simp [hpp],rfl,?_,rfl,?_⟩
    ·simp [go_sem]
    ·intro y hy
     rcases List.mem_append.1 hy with h|h
     ·exact hn y h
     ·rw [List.mem_singleton.1 h]
      simpa using h2
 ·repeat (first|(with_reducible first|refine SW.seq ?_|refine q8 ?_|refine SW.rowC ?_|refine SW.skip ?_|refine SW.exit ?_|intro _|refine And.intro (by omega) ?_)|simp (disch:=(first|omega|(simp only [go_sem];try omega))) only [go_sem,Nat.reduceAdd,Nat.reduceEqDiff,Nat.reduceLeDiff,reduceIte,w64_id,cast_succ])
  refine SW.ret ?_;(try simp only [go_sem]);(first|refine qP ?_|refine qS ?_|refine qQ ?_);(try simp (disch:=(first|omega|(simp only [go_sem];try omega))) only [go_sem,Nat.reduceAdd,Nat.reduceEqDiff,Nat.reduceLeDiff,reduceIte,w64_id,cast_succ]);(first|(with_reducible refine GR.drop ?_ ?_;(simp only [go_sem,and_self,and_true,true_and,implies_true,qI,qO]))|refine GR.of ?_);refine ⟨?_,rfl⟩;(try with_reducible rfl)
  have : post = []:=by cases post with
   | nil=>rfl
   | cons x post=>exfalso;subst hpp;simp at h;omega
  subst this
  rw [wX] at hpp
  exact .inr ⟨fun x hx=>hn x (hpp ▸ hx),rfl⟩
theorem reduce_c1_ok (H : List Blk) (p ty k w : Nat) (c : AV) (xs : List Int) (hp : H[p]? = some ⟨0,ty,1,[I k]⟩) (hc : aview H c = some (w,xs.map I)) (hx : xs.length = w) (hk : k < w) : ACalls Tryz.prog f_impl_arithmetic_reduce_c1 [c,.pc p 0 0] H (fun r H'=>r = Bv (decide (xs.getD k 0 ≠ 0)) ∧ H' = H):=by
 have xa:=fun o=>pc_alive (off:=o) hp
 have xl:=fun o=>pc_ld (off:=o) hp
 have hg : (xs.map I)[k]? = some (I (xs.getD k 0)):=by
  rw [qX,qE,qB (by omega)];rfl
 refine ACalls.introB s_impl_arithmetic_reduce_c1 (by simp) ?_;intro hB hA;unfold c_impl_arithmetic_reduce_c1;simp (disch:=(first|omega|(simp only [go_sem];try omega))) only [go_sem,Nat.reduceAdd,Nat.reduceEqDiff,Nat.reduceLeDiff,reduceIte,w64_id,cast_succ]
 repeat (first|(with_reducible first|refine SW.seq ?_|refine q8 ?_|refine SW.rowC ?_|refine SW.skip ?_|refine SW.exit ?_|intro _|refine And.intro (by omega) ?_)|simp (disch:=(first|omega|(simp only [go_sem];try omega))) only [go_sem,Nat.reduceAdd,Nat.reduceEqDiff,Nat.reduceLeDiff,reduceIte,w64_id,cast_succ,xa,xl,hc,hg])
 refine SW.ret ?_;(try simp only [go_sem]);(first|refine qP ?_|refine qS ?_|refine qQ ?_);(try simp (disch:=(first|omega|(simp only [go_sem];try omega))) only [go_sem,Nat.reduceAdd,Nat.reduceEqDiff,Nat.reduceLeDiff,reduceIte,w64_id,cast_succ])
 exact GR.of ⟨by simp,rfl⟩
end Go.Proofs.YtclfmfabcnbbpaaGreat
namespace Go.Proofs.YtclfmfabcnbbpaaGreat
open Go.Av
abbrev f_impl_arithmetic_reduce : Nat:=47
def c_impl_arithmetic_reduce : SC :=
 .seq (.reg [⟨s' 2,.box 76 (t' 0),n'⟩,⟨s' 4,.mv (.const (.slice none 0 0)),n'⟩,⟨s' 5,.mv (.const (.slice none 0 0)),n'⟩,⟨s' 6,.mv (.const (.int .i64 0)),n'⟩] [1,2]) (.seq (.reg [
 ⟨s' 18,.mv (t' 1),n'⟩,⟨s' 19,.call 69 [(t' 18)],n'⟩,⟨s' 7,.mv (t' 19),n'⟩] [2,7]) (.seq (.reg [⟨s' 8,.mv (.const (.slice none 0 0)),n'⟩] [2,7,8]) (.seq (.reg [
 ⟨s' 9,.mv (.const (.int .i64 1)),n'⟩] [2,7,8,9]) (.seq (.seq (.reg [⟨s' 10,.alloc 3 [(.int .i64 0)],n'⟩,⟨n',.store 1 (t' 10) (.const (.int .i64 0)),n'⟩] [2,7,8,9,10])
 (.block 0 (.loop [2,7,8,9,10] (.seq (.seq (.reg [⟨s' 20,.mv (t' 7),n'⟩,⟨s' 21,.qlen (t' 20),n'⟩,⟨s' 22,.bin .gtr (t' 21) (.const (.int .i64 0)),n'⟩,⟨s' 23,.mv (t' 22),n'⟩,
 ⟨s' 24,.load 1 false (t' 10),(some (23,true))⟩,⟨s' 25,.mv (t' 7),(some (23,true))⟩,⟨s' 26,.iaddr 1 (t' 25) (.const (.int .i64 0)),(some (23,true))⟩,
 ⟨s' 27,.load 1 false (t' 26),(some (23,true))⟩,⟨s' 28,.qlen (t' 27),(some (23,true))⟩,⟨s' 29,.bin .lss (t' 24) (t' 28),(some (23,true))⟩,
 ⟨s' 30,.pick (t' 23) (t' 29) (.const (.bool false)),n'⟩] [2,7,8,9,10,30]) (.cond (t' 30) (.skip) (.exit 0))) (.seq (.block 1 (.seq (.reg [⟨s' 33,.mv (t' 8),n'⟩,
 ⟨s' 34,.len (t' 33),n'⟩,⟨s' 11,.mv (t' 34),n'⟩] [2,7,8,9,10,11]) (.seq (.reg [⟨s' 35,.mv (t' 7),n'⟩,⟨s' 36,.mv (t' 11),n'⟩,⟨s' 37,.slc 1 (t' 35) (some (t' 36)) none,n'⟩,
 ⟨s' 38,.mkf 71 [(t' 10)],n'⟩,⟨s' 39,.call 70 [(t' 37),(t' 38)],n'⟩,⟨s' 12,.mv (t' 39),n'⟩] [2,7,8,9,10,11,12]) (.seq (.seq (.reg [⟨s' 40,.mv (t' 12),n'⟩,
 ⟨s' 41,.bin .lss (t' 40) (.const (.int .i64 0)),n'⟩] [2,7,8,9,10,11,12,41]) (.cond (t' 41) (.seq (.reg [⟨s' 9,.mv (.const (.int .i64 0)),n'⟩] [2,7,8,9,10]) (.exit 1)) (.skip)))
 (.seq (.seq (.reg [⟨s' 42,.mv (t' 12),n'⟩,⟨s' 43,.bin .gtr (t' 42) (.const (.int .i64 0)),n'⟩] [2,7,8,9,10,11,12,43]) (.cond (t' 43) (.seq (.reg [⟨s' 44,.mv (t' 7),n'⟩,
 ⟨s' 45,.mv (t' 11),n'⟩,⟨s' 46,.mv (t' 7),n'⟩,⟨s' 47,.mv (t' 11),n'⟩,⟨s' 48,.mv (t' 12),n'⟩,⟨s' 49,.bin .add (t' 47) (t' 48),n'⟩,⟨s' 50,.mv (t' 7),n'⟩,⟨s' 51,.mv (t' 11),n'⟩,
 ⟨s' 52,.mv (t' 12),n'⟩,⟨s' 53,.bin .add (t' 51) (t' 52),n'⟩,⟨s' 54,.iaddr 1 (t' 50) (t' 53),n'⟩,⟨s' 55,.load 1 false (t' 54),n'⟩,⟨s' 56,.mv (t' 7),n'⟩,⟨s' 57,.mv (t' 11),n'⟩,
 ⟨s' 58,.iaddr 1 (t' 56) (t' 57),n'⟩,⟨s' 59,.load 1 false (t' 58),n'⟩,⟨s' 60,.iaddr 1 (t' 44) (t' 45),n'⟩,⟨n',.store 1 (t' 60) (t' 55),n'⟩,⟨s' 61,.iaddr 1 (t' 46) (t' 49),n'⟩,
 ⟨n',.store 1 (t' 61) (t' 59),n'⟩] [2,7,8,9,10,11]) (.reg [⟨s' 62,.faddr 2 (t' 2),n'⟩,⟨s' 63,.load 1 false (t' 62),n'⟩,⟨s' 64,.iaddr 1 (t' 63) (.const (.int .i64 0)),n'⟩,
 ⟨s' 65,.load 1 false (t' 64),n'⟩,⟨s' 66,.mv (t' 9),n'⟩,⟨s' 67,.iaddr 1 (t' 65) (t' 66),n'⟩,⟨s' 68,.load 1 false (t' 67),n'⟩,⟨s' 9,.mv (t' 68),n'⟩] [2,7,8,9,10,11])) (.skip)))
 (.seq (.reg [⟨s' 69,.mv (t' 7),n'⟩,⟨s' 70,.mv (t' 11),n'⟩,⟨s' 71,.iaddr 1 (t' 69) (t' 70),n'⟩,⟨s' 72,.load 1 false (t' 71),n'⟩,⟨s' 73,.load 1 false (t' 10),n'⟩,
 ⟨s' 74,.iaddr 1 (t' 72) (t' 73),n'⟩,⟨s' 75,.load 1 false (t' 74),n'⟩,⟨s' 13,.mv (t' 75),n'⟩] [2,7,8,9,10,11,13]) (.seq (.reg [⟨s' 76,.faddr 3 (t' 2),n'⟩,
 ⟨s' 77,.load 1 false (t' 76),n'⟩,⟨s' 78,.mv (t' 9),n'⟩,⟨s' 79,.iaddr 1 (t' 77) (t' 78),n'⟩,⟨s' 80,.load 1 false (t' 79),n'⟩,⟨s' 81,.mv (t' 13),n'⟩,
 ⟨s' 82,.iaddr 1 (t' 80) (t' 81),n'⟩,⟨s' 83,.load 1 false (t' 82),n'⟩,⟨s' 9,.mv (t' 83),n'⟩] [2,7,8,9,10,11,13]) (.seq (.seq (.reg [⟨s' 84,.mv (t' 7),n'⟩,⟨s' 85,.mv (t' 11),n'⟩,
 ⟨s' 86,.iaddr 1 (t' 84) (t' 85),n'⟩,⟨s' 87,.load 1 false (t' 86),n'⟩,⟨s' 88,.len (t' 87),n'⟩,⟨s' 89,.mv (.const (.int .i64 0)),n'⟩] [2,7,8,9,10,11,13,87,88,89])
 (.block 2 (.loop [2,7,8,9,10,11,13,87,88,89] (.seq (.reg [⟨s' 90,.bin .lss (t' 89) (t' 88),n'⟩] [2,7,8,9,10,11,13,87,88,89,90]) (.seq (.cond (t' 90) (.skip) (.exit 2))
 (.seq (.block 3 (.seq (.reg [⟨s' 91,.mv (t' 89),n'⟩,⟨s' 92,.iaddr 1 (t' 87) (t' 89),n'⟩,⟨s' 93,.load 1 false (t' 92),n'⟩,⟨s' 14,.mv (t' 91),n'⟩,
 ⟨s' 15,.mv (t' 93),n'⟩] [2,7,8,9,10,11,13,14,15,87,88,89]) (.reg [⟨s' 94,.mv (t' 7),n'⟩,⟨s' 95,.mv (t' 11),n'⟩,⟨s' 96,.iaddr 1 (t' 94) (t' 95),n'⟩,
 ⟨s' 97,.load 1 false (t' 96),n'⟩,⟨s' 98,.mv (t' 14),n'⟩,⟨s' 99,.faddr 3 (t' 2),n'⟩,⟨s' 100,.load 1 false (t' 99),n'⟩,⟨s' 101,.faddr 4 (t' 2),n'⟩,
 ⟨s' 102,.load 1 false (t' 101),n'⟩,⟨s' 103,.mv (t' 13),n'⟩,⟨s' 104,.iaddr 1 (t' 102) (t' 103),n'⟩,⟨s' 105,.load 1 false (t' 104),n'⟩,⟨s' 106,.iaddr 1 (t' 100) (t' 105),n'⟩,
 ⟨s' 107,.load 1 false (t' 106),n'⟩,⟨s' 108,.mv (t' 15),n'⟩,⟨s' 109,.iaddr 1 (t' 107) (t' 108),n'⟩,⟨s' 110,.load 1 false (t' 109),n'⟩,⟨s' 111,.iaddr 1 (t' 97) (t' 98),n'⟩,
 ⟨n',.store 1 (t' 111) (t' 110),n'⟩] [2,7,8,9,10,11,13,87,88,89]))) (.reg [⟨s' 112,.bin .add (t' 89) (.const (.int .i64 1)),n'⟩,
 ⟨s' 89,.mv (t' 112),n'⟩] [2,7,8,9,10,11,13,87,88,89]))))))) (.seq (.seq (.reg [⟨s' 113,.mv (t' 7),n'⟩,⟨s' 114,.len (t' 113),n'⟩,
 ⟨s' 115,.mv (.const (.int .i64 0)),n'⟩] [2,7,8,9,10,11,113,114,115]) (.block 4 (.loop [2,7,8,9,10,11,113,114,115] (.seq (.reg [
 ⟨s' 116,.bin .lss (t' 115) (t' 114),n'⟩] [2,7,8,9,10,11,113,114,115,116]) (.seq (.cond (t' 116) (.skip) (.exit 4)) (.seq (.block 5 (.seq (.reg [⟨s' 117,.mv (t' 115),n'⟩,
 ⟨s' 118,.iaddr 1 (t' 113) (t' 115),n'⟩,⟨s' 119,.load 1 false (t' 118),n'⟩,⟨s' 16,.mv (t' 117),n'⟩,⟨s' 17,.mv (t' 119),n'⟩] [2,7,8,9,10,11,16,17,113,114,115]) (.seq (.reg [
 ⟨s' 120,.mv (t' 16),n'⟩,⟨s' 121,.mv (t' 11),n'⟩,⟨s' 122,.bin .neq (t' 120) (t' 121),n'⟩,⟨s' 123,.mv (t' 122),n'⟩,⟨s' 124,.mv (t' 17),(some (123,true))⟩,
 ⟨s' 125,.load 1 false (t' 10),(some (123,true))⟩,⟨s' 126,.iaddr 1 (t' 124) (t' 125),(some (123,true))⟩,⟨s' 127,.load 1 false (t' 126),(some (123,true))⟩,
 ⟨s' 128,.bin .neq (t' 127) (.const (.int .i64 0)),(some (123,true))⟩,⟨s' 129,.pick (t' 123) (t' 128) (.const (.bool false)),n'⟩] [2,7,8,9,10,11,17,113,114,115,129])
 (.cond (t' 129) (.reg [⟨s' 130,.load 5 true (t' 2),n'⟩,⟨s' 131,.mv (t' 17),n'⟩,⟨s' 132,.mv (t' 7),n'⟩,⟨s' 133,.mv (t' 11),n'⟩,⟨s' 134,.iaddr 1 (t' 132) (t' 133),n'⟩,
 ⟨s' 135,.load 1 false (t' 134),n'⟩,⟨s' 136,.faddr 2 (t' 2),n'⟩,⟨s' 137,.load 1 false (t' 136),n'⟩,⟨s' 138,.iaddr 1 (t' 137) (.const (.int .i64 0)),n'⟩,
 ⟨s' 139,.load 1 false (t' 138),n'⟩,⟨s' 140,.mv (t' 17),n'⟩,⟨s' 141,.load 1 false (t' 10),n'⟩,⟨s' 142,.iaddr 1 (t' 140) (t' 141),n'⟩,⟨s' 143,.load 1 false (t' 142),n'⟩,
 ⟨s' 144,.iaddr 1 (t' 139) (t' 143),n'⟩,⟨s' 145,.load 1 false (t' 144),n'⟩,⟨s' 146,.call 72 [(t' 130),(t' 131),(t' 135),(t' 145)],n'⟩] [2,7,8,9,10,11,113,114,115]) (.skip)))))
 (.reg [⟨s' 147,.bin .add (t' 115) (.const (.int .i64 1)),n'⟩,⟨s' 115,.mv (t' 147),n'⟩] [2,7,8,9,10,11,113,114,115]))))))) (.seq (.reg [⟨s' 148,.mv (t' 8),n'⟩,
 ⟨s' 149,.load 1 false (t' 10),n'⟩,⟨s' 150,.bslice 2 1 1 [(.int .i64 0)] [(0,(t' 149))],n'⟩,⟨s' 151,.app 2 1 8 (t' 148) (t' 150),n'⟩,⟨s' 8,.mv (t' 151),n'⟩] [2,7,8,9,10])
 (.seq (.reg [⟨s' 152,.mv (t' 8),n'⟩,⟨s' 153,.len (t' 152),n'⟩,⟨s' 154,.mv (t' 7),n'⟩,⟨s' 155,.len (t' 154),n'⟩,⟨s' 156,.bin .eql (t' 153) (t' 155),n'⟩] [2,7,8,9,10,156])
 (.cond (t' 156) (.exit 0) (.skip))))))))))))) (.seq (.seq (.reg [⟨s' 157,.load 1 false (t' 10),n'⟩] [2,7,8,9,157]) (.reg [⟨s' 10,.alloc 3 [(.int .i64 0)],n'⟩,
 ⟨n',.store 1 (t' 10) (t' 157),n'⟩] [2,7,8,9,10])) (.reg [⟨s' 31,.load 1 false (t' 10),n'⟩,⟨s' 32,.bin .add (t' 31) (.const (.int .i64 1)),n'⟩,
 ⟨n',.store 1 (t' 10) (t' 32),n'⟩] [2,7,8,9,10]))))))) (.seq (.reg [⟨s' 158,.mv (t' 7),n'⟩,⟨s' 159,.mv (t' 8),n'⟩,⟨s' 160,.len (t' 159),n'⟩,
 ⟨s' 161,.slc 1 (t' 158) none (some (t' 160)),n'⟩,⟨s' 162,.mv (t' 8),n'⟩,⟨s' 163,.mv (t' 9),n'⟩,⟨s' 4,.mv (t' 161),n'⟩,⟨s' 5,.mv (t' 162),n'⟩,⟨s' 6,.mv (t' 163),n'⟩] [4,5,6])
 (.ret))))))
theorem s_impl_arithmetic_reduce : stripF Tryz.prog 47 [[1,2],[2,7],[2,7,8],[2,7,8,9],[2,7,8,9,10],[2,7,8,9,10],[2,7,8,9,10,30],[2,7,8,9,10,11],[2,7,8,9,10,11,12],[2,7,8,9,10,11,12,41],[2,7,8,9,10],[2,7,8,9,10,11,12,43],[2,7,8,9,10,11],[2,7,8,9,10,11],[2,7,8,9,10,11,13],[2,7,8,9,10,11,13],[2,7,8,9,10,11,13,87,88,89],[2,7,8,9,10,11,13,87,88,89],[2,7,8,9,10,11,13,87,88,89,90],[2,7,8,9,10,11,13,14,15,87,88,89],[2,7,8,9,10,11,13,87,88,89],[2,7,8,9,10,11,13,87,88,89],[2,7,8,9,10,11,113,114,115],[2,7,8,9,10,11,113,114,115],[2,7,8,9,10,11,113,114,115,116],[2,7,8,9,10,11,16,17,113,114,115],[2,7,8,9,10,11,17,113,114,115,129],[2,7,8,9,10,11,113,114,115,1000016],[2,7,8,9,10,11,113,114,115],[2,7,8,9,10],[2,7,8,9,10,156],[2,7,8,9,157],[2,7,8,9,10],[2,7,8,9,10],[4,5,6]] = some (c_impl_arithmetic_reduce,[.tmp 4,.tmp 5,.tmp 6],164):=by kernel_rfl
structure PSt (H0 X : List Blk) (tb ver : Nat) (rs : List (Nat × Nat × Nat)) (w : Nat) (xs : List (List Int)) (pv : AV) (t cr k : Nat) : Prop where
 tab : TabO X H0.length tb ver rs w xs
 fr : ∀ j,j < H0.length → X[j]? = H0[j]?
 piv : (t = 0 ∧ pv = nilS) ∨ ∃ (pp pvr : Nat) (ps : List Int),pv = .nm pp pvr 0 t ∧ ps.length = t ∧ X[pp]? = some ⟨pvr,2,1,ps.map I⟩ ∧ H0.length ≤ pp ∧ pp ≠ tb ∧ pp ∉ rs.map (·.1) ∧ pp ≠ cr
 cb : X[cr]? = some ⟨0,3,1,[I k]⟩ ∧ H0.length ≤ cr ∧ cr ≠ tb ∧ cr ∉ rs.map (·.1)
theorem PSt.pview {H0 X : List Blk} {tb ver w t cr k : Nat} {rs : List (Nat × Nat × Nat)} {xs : List (List Int)} {pv : AV} (h : PSt H0 X tb ver rs w xs pv t cr k) : ∃ cs,aview X pv = some (t,cs):=by
 rcases h.piv with ⟨rfl,rfl⟩|⟨pp,pvr,ps,rfl,h1,h2,-⟩
 ·exact ⟨[],rfl⟩
 ·exact ⟨_,view_nm h2 (by rw [w8];exact h1)⟩
theorem PSt.next {H0 X : List Blk} {tb ver w t cr k : Nat} {rs : List (Nat × Nat × Nat)} {xs : List (List Int)} {pv : AV} (h : PSt H0 X tb ver rs w xs pv t cr k) (k' : Nat) : PSt H0 (X ++ [⟨0,3,1,[I k']⟩]) tb ver rs w xs pv t X.length k':=by
 have hlt : ∀ {j : Nat} {b : Blk},X[j]? = some b → j < X.length:=fun hj=>(qC.1 hj).1
 have hH : H0.length ≤ X.length:=by have:=h.cb.2.1;have:=hlt h.cb.1;omega
 refine ⟨h.tab.app _,fun j hj=>by rw [qN (by omega)];exact h.fr j hj,?_,by simp,hH,fun e=>by have:=h.tab.ltop;omega,fun e=>?_⟩
 ·rcases h.piv with g|⟨pp,pvr,ps,h1,h2,h3,h4,h5,h6,h7⟩
  ·exact .inl g
  ·exact .inr ⟨pp,pvr,ps,h1,h2,get_appU h3 _,h4,h5,h6,by have:=hlt h3;omega⟩
 ·obtain ⟨p,hp,e⟩:=wG.1 e
  obtain ⟨i,hi⟩:=wU hp
  have:=h.tab.lt hi
  omega
theorem SW.thenM {P : Program} {n k0 : Nat} {Q : SX → Env → List Blk → Prop} {E : Env} {H : List Blk} {x y : SC} (M : Env → List Blk → Prop) (h1 : SW P n k0 x (fun s E' H'=>match s with|.nrm=>M E' H'|s=>Q s E' H') E H) (h2 : ∀ E' H',M E' H' → SW P n k0 y Q E' H') : SW P n k0 x (SThen P n k0 y Q) E H:=by
 refine SW.mono ?_ h1
 intro s E' H' h
 cases s with
 | nrm=>exact h2 _ _ h
 | ext id=>exact h
 | ret=>exact h
theorem PSt.swap {H0 X : List Blk} {tb ver w t cr k i : Nat} {rs : List (Nat × Nat × Nat)} {xs : List (List Int)} {pv : AV} {p r : Nat × Nat × Nat} (h : PSt H0 X tb ver rs w xs pv t cr k) (hp : rs[i]? = some p) (hq : rs[t]? = some r) :
  PSt H0 (X.set tb ⟨ver,tyLL,1,((rs.set t p).set i r).map fun p=>AV.nm p.1 p.2.1 0 w⟩) tb ver ((rs.set t p).set i r) w ((xs.set t (xs.getD i [])).set i (xs.getD t [])) pv t cr k:=by
 have hmem : ∀ a,a ∈ ((rs.set t p).set i r).map (·.1) → a ∈ rs.map (·.1):=fun a ha=>by
  obtain ⟨s,hs,rfl⟩:=wG.1 ha
  rcases List.mem_or_eq_of_mem_set hs with hs|rfl
  ·rcases List.mem_or_eq_of_mem_set hs with hs|rfl
   ·exact wG.2 ⟨s,hs,rfl⟩
   ·exact wG.2 ⟨s,wD hp,rfl⟩
  ·exact wG.2 ⟨s,wD hq,rfl⟩
 refine ⟨h.tab.swap hp hq,fun j hj=>by rw [qR (by have:=h.tab.lo.1;omega)];exact h.fr j hj,?_,by rw [qR (Ne.symm h.cb.2.2.1)];exact h.cb.1,h.cb.2.1,h.cb.2.2.1,fun e=>h.cb.2.2.2 (hmem _ e)⟩
 rcases h.piv with g|⟨pp,pvr,ps,h1,h2,h3,h4,h5,h6,h7⟩
 ·exact .inl g
 ·exact .inr ⟨pp,pvr,ps,h1,h2,by rw [qR (Ne.symm h5)];exact h3,h4,h5,fun e=>h6 (hmem _ e),h7⟩
theorem swap_self (xs : List (List Int)) (t : Nat) : (xs.set t (xs.getD t [])).set t (xs.getD t []) = xs:=by
 rw [yB]
 refine xU fun j=>?_
 rw [xR]
 by_cases e : t = j
 ·subst e
  by_cases h : t < xs.length
  ·rw [if_pos rfl,if_pos h,qE,qB h];rfl
  ·rw [if_pos rfl,if_neg h,wZ (by omega)]
 ·rw [if_neg e]
theorem invB_ok (f : Nat → Int) : ∀ (n b0 : Nat),b0 < n → f b0 = 1 → ∃ b : Nat,b < n ∧ invB f n = (b : Int) ∧ f b = 1
 | 0,b0,h,_=>by omega
 | n + 1,b0,h,h1=>by
  rw [invB]
  by_cases e : f n = 1
  ·exact ⟨n,by omega,by rw [if_pos e],e⟩
  ·obtain ⟨b,g1,g2,g3⟩:=invB_ok f n b0 (by
    rcases Nat.lt_or_eq_of_le (Nat.le_of_lt_succ h) with g|g
    ·exact g
    ·rw [g] at h1;exact absurd h1 e) h1
   exact ⟨b,by omega,by rw [if_neg e,g2],g3⟩
def scA (P K : Nat) (L v : List Int) (b j : Nat) : List Int:=(scL P K L v b).take j ++ v.drop j
theorem scA_len (P K : Nat) (L v : List Int) (b j : Nat) : (scA P K L v b j).length = v.length:=by
 unfold scA scL;simp;omega
theorem scA_zero (P K : Nat) (L v : List Int) (b : Nat) : scA P K L v b 0 = v:=by unfold scA;simp
theorem scA_all (P K : Nat) (L v : List Int) (b : Nat) : scA P K L v b v.length = scL P K L v b:=by
 unfold scA
 rw [List.drop_length,wX,qW (by unfold scL;simp)]
theorem scA_get (P K : Nat) (L v : List Int) (b j : Nat) (hj : j < v.length) : ((scA P K L v b j).map I)[j]? = some (I (v.getD j 0)):=by
 have hl : ((scL P K L v b).take j).length = j:=by unfold scL;simp;omega
 unfold scA
 rw [qX,qV (by omega),hl,wS,xF,Nat.add_zero,qE,qB hj];rfl
theorem scA_set (P K : Nat) (L v : List Int) (b j : Nat) (hj : j < v.length) : (scA P K L v b j).set j (mulG P K L (v.getD j 0).toNat b) = scA P K L v b (j + 1):=by
 have hl : ((scL P K L v b).take j).length = j:=by unfold scL;simp;omega
 have he : (scL P K L v b)[j]? = some (mulG P K L (v.getD j 0).toNat b):=by
  unfold scL
  rw [qX,qE,qB hj];rfl
 unfold scA
 rw [List.set_append_right _ _ (by omega),hl,wS,List.drop_eq_getElem_cons hj,List.set_cons_zero,List.take_add_one,he,List.append_assoc]
 rfl
theorem PSt.put {H0 X : List Blk} {tb ver w t cr k i : Nat} {rs : List (Nat × Nat × Nat)} {xs : List (List Int)} {pv : AV} {p : Nat × Nat × Nat} (h : PSt H0 X tb ver rs w xs pv t cr k) (hp : rs[i]? = some p) {ys : List Int} (hy : ys.length = w) :
  PSt H0 (X.set p.1 ⟨p.2.1,p.2.2,1,ys.map I⟩) tb ver rs w (xs.set i ys) pv t cr k:=by
 have hm : p.1 ∈ rs.map (·.1):=wG.2 ⟨p,wD hp,rfl⟩
 refine ⟨h.tab.put hp hy,fun j hj=>by rw [qR (by have:=h.tab.lo.2 p (wD hp);omega)];exact h.fr j hj,?_,by rw [qR (fun (e : p.1 = cr)=>h.cb.2.2.2 (by rw [← e];exact hm))];exact h.cb.1,h.cb.2⟩
 rcases h.piv with g|⟨pp,pvr,ps,h1,h2,h3,h4,h5,h6,h7⟩
 ·exact .inl g
 ·exact .inr ⟨pp,pvr,ps,h1,h2,by rw [qR (fun (e : p.1 = pp)=>h6 (by rw [← e];exact hm))];exact h3,h4,h5,h6,h7⟩
theorem PSt.app {H0 X : List Blk} {tb ver w t cr k : Nat} {rs : List (Nat × Nat × Nat)} {xs : List (List Int)} {pv : AV} (h : PSt H0 X tb ver rs w xs pv t cr k) (ext : List Blk) : PSt H0 (X ++ ext) tb ver rs w xs pv t cr k:=by
 have hlt : ∀ {j : Nat} {b : Blk},X[j]? = some b → j < X.length:=fun hj=>(qC.1 hj).1
 have hH : H0.length ≤ X.length:=by have:=h.cb.2.1;have:=hlt h.cb.1;omega
 refine ⟨h.tab.app _,fun j hj=>by rw [qN (by omega)];exact h.fr j hj,?_,get_appU h.cb.1 _,h.cb.2⟩
 rcases h.piv with g|⟨pp,pvr,ps,h1,h2,h3,h4⟩
 ·exact .inl g
 ·exact .inr ⟨pp,pvr,ps,h1,h2,get_appU h3 _,h4⟩
theorem PSt.push {H0 X : List Blk} {tb ver w t cr k : Nat} {rs : List (Nat × Nat × Nat)} {xs : List (List Int)} {pv : AV} (h : PSt H0 X tb ver rs w xs pv t cr k) (ht : t ≤ 1000) (ext : List Blk) {K : AV → List Blk → Prop}
  (hk : ∀ pv' X',pv'.cell1 = true ∧ partsOf pv' = [pv'] → PSt H0 X' tb ver rs w xs pv' (t + 1) cr k → K pv' X') : AppX 2 1 8 (X ++ ext) pv K (some (1,[I k])):=by
 have hE:=h.app ext
 have hH : H0.length ≤ (X ++ ext).length:=by have:=hE.cb.2.1;have:=(qC.1 hE.cb.1).1;omega
 rcases hE.piv with ⟨rfl,rfl⟩|⟨pp,pvr,ps,rfl,h2,h3,h4,h5,h6,h7⟩
 ·have hA:=hE.app [⟨1,2,1,[I k]⟩]
  rw [AppX_nil _ _ _ _ _ _ _ rfl rfl (by omega) (by omega)]
  refine hk _ _ ⟨rfl,rfl⟩ ⟨hA.tab,hA.fr,.inr ⟨_,1,[(k : Int)],rfl,rfl,by rw [qV (Nat.le_refl _),wS];rfl,hH,?_,?_,?_⟩,hA.cb⟩
  ·have:=hE.tab.ltop;omega
  ·intro e
   obtain ⟨p,hp,e⟩:=wG.1 e
   obtain ⟨i,hi⟩:=wU hp
   have:=hE.tab.lt hi;omega
  ·have:=(qC.1 hE.cb.1).1;omega
 ·have hlt:=(qC.1 h3).1
  have htk : (ps.map I).take (t * 1) = ps.map I:=qW (by simp [h2])
  rw [AppX_nm _ _ _ _ _ _ _ _ _ _ rfl rfl,h3,AppN_in _ _ _ _ _ _ _ _ _ _ _ (by simp [h2]) (by omega) (by omega),htk]
  refine hk _ _ ⟨rfl,rfl⟩ ⟨hE.tab.same fun j b hj hb=>?_,fun j hj=>?_,.inr ⟨pp,pvr + 1,ps ++ [(k : Int)],rfl,by simp [h2],by rw [qY hlt];simp,h4,h5,h6,h7⟩,by rw [qR h7];exact hE.cb.1,hE.cb.2⟩
  ·rw [qR (by rcases hj with rfl|hj;exact h5;exact fun e=>h6 (by rw [e];exact hj))];exact hb
  ·rw [qR (by omega)];exact hE.fr j hj
def midP (P K : Nat) (L : List Int) (xs : List (List Int)) (R : List Int) (t i k j : Nat) : List (List Int) :=
 (List.range xs.length).map fun a=>if a = t then R else if a < j then rowP P K L (oldR xs t i a) R k else oldR xs t i a
section
variable {P K : Nat} {L : List Int} {xs : List (List Int)} {R : List Int} {t i k j : Nat}
theorem midP_len : (midP P K L xs R t i k j).length = xs.length:=by simp [midP]
theorem midP_get {a : Nat} (ha : a < xs.length) : (midP P K L xs R t i k j).getD a [] = if a = t then R else if a < j then rowP P K L (oldR xs t i a) R k else oldR xs t i a:=by
 unfold midP
 rw [qE,qX,xK ha];rfl
theorem midP_zero (ht : t < xs.length) : ((xs.set t (xs.getD i [])).set i (xs.getD t [])).set t R = midP P K L xs R t i k 0:=by
 refine lists_ext (by rw [midP_len];simp) fun a ha=>?_
 simp only [w6] at ha
 rw [midP_get ha,getD_set' (by simpa using ha),getD_set' (by simpa using ha),getD_set' ha]
 by_cases h : a = t
 ·rw [if_pos h,if_pos h]
 ·rw [if_neg h,if_neg h,if_neg h,if_neg (show ¬ a < 0 by omega)]
  unfold oldR
  rfl
theorem midP_succ (hj : j < xs.length) (hjt : j ≠ t) : (midP P K L xs R t i k j).set j (rowP P K L (oldR xs t i j) R k) = midP P K L xs R t i k (j + 1):=by
 refine lists_ext (by rw [midP_len,w6,midP_len]) fun a ha=>?_
 rw [w6,midP_len] at ha
 rw [midP_get ha,getD_set' (by rw [midP_len];exact ha),midP_get ha]
 by_cases h : a = j
 ·rw [if_pos h,h,if_neg hjt,if_pos (by omega)]
 ·rw [if_neg h]
  by_cases h2 : a = t
  ·rw [if_pos h2,if_pos h2]
  ·rw [if_neg h2,if_neg h2]
   by_cases h3 : a < j
   ·rw [if_pos h3,if_pos (by omega)]
   ·rw [if_neg h3,if_neg (by omega)]
theorem midP_skip (hj : j < xs.length) (hjt : j = t ∨ (oldR xs t i j).getD k 0 = 0) : midP P K L xs R t i k j = midP P K L xs R t i k (j + 1):=by
 refine lists_ext (by rw [midP_len,midP_len]) fun a ha=>?_
 rw [midP_len] at ha
 rw [midP_get ha,midP_get ha]
 by_cases h2 : a = t
 ·rw [if_pos h2,if_pos h2]
 ·rw [if_neg h2,if_neg h2]
  by_cases h3 : a < j
  ·rw [if_pos h3,if_pos (by omega)]
  ·by_cases h4 : a = j
   ·subst h4
    rw [if_neg h3,if_pos (by omega)]
    unfold rowP
    rcases hjt with e|e
    ·exact absurd e h2
    ·rw [if_pos e]
   ·rw [if_neg h3,if_neg (by omega)]
theorem midP_end (b : Nat) : midP P K L xs (scL P K L (xs.getD i []) b) t i k xs.length = stepP P K L xs t i k b:=by
 unfold midP stepP
 refine List.map_congr_left fun a ha=>?_
 rw [if_pos (List.mem_range.1 ha)]
end
theorem slcT {H : List Blk} {K : AV → Prop} {tb ver n t : Nat} {cells : List AV} (ht : t < n) (hs : (H[tb]?).map Blk.sz = some 1) : SlcG 1 (.nm tb ver 0 n) (t : Int) (n : Int) H K (some (n,cells)) = K (.nm tb ver t (n - t)):=by
 simp only [SlcG]
 have h1 : (0 : Int) ≤ t:=by omega
 have h2 : (t : Int) ≤ n:=by omega
 have h3 : ¬ (t : Int) = n:=by omega
 have hall : ∀ (i v off len : Nat),AV.nm tb ver 0 n = AV.nm i v off len → (H[i]?).map Blk.sz = some 1:=fun i v off len e=>by cases e;exact hs
 by_cases h0 : (t : Int) = 0
 ·rw [if_pos h0]
  obtain rfl : t = 0:=by omega
  exact propext ⟨fun h=>by simpa using h.2.2.2.2,fun h=>⟨h1,h2,Int.le_refl _,hall,by simpa using h⟩⟩
 ·rw [if_neg h0,if_neg h3]
  exact propext ⟨fun h=>by simpa using h.2.2.2.2,fun h=>⟨h1,h2,Int.le_refl _,hall,by simpa using h⟩⟩
theorem first_row {X : List Blk} {b0 tb ver w t cr ty k : Nat} {rs : List (Nat × Nat × Nat)} {xs : List (List Int)} (h : TabO X b0 tb ver rs w xs) (ht : t < xs.length) (hcr : X[cr]? = some ⟨0,ty,1,[I k]⟩) (hk : k < w) :
  ACalls Tryz.prog f_slices_IndexFunc_LLint64_Lint64 [.nm tb ver t (xs.length - t),.fn f_impl_arithmetic_reduce_c1 [.pc cr 0 0]] X (fun r H'=>((∃ i,t ≤ i ∧ i < xs.length ∧ ent xs i k ≠ 0 ∧ (∀ i',t ≤ i' → i' < i → ent xs i' k = 0) ∧ r = I ((i - t : Nat) : Int)) ∨ ((∀ i',t ≤ i' → i' < xs.length → ent xs i' k = 0) ∧ r = I (-1))) ∧ H' = X):=by
 have hl:=h.len
 have hmap : ((rs.map fun p=>AV.nm p.1 p.2.1 0 w).drop t) = (yJ t (xs.length - t)).map (fun j=>(fun p : Nat × Nat × Nat=>AV.nm p.1 p.2.1 0 w) (rs.getD j (0,0,0))):=by
  refine xU fun i=>?_
  rw [xF,qX,qX]
  by_cases hi : i < xs.length - t
  ·rw [List.getElem?_range' hi,qB (by omega),yC,wO,wO,qE,qB (by omega)]
   rfl
  ·rw [wZ (by omega),wZ (by simp;omega)];rfl
 have hvw : aview X (.nm tb ver t (xs.length - t)) = some ((yJ t (xs.length - t)).length,(yJ t (xs.length - t)).map (fun j=>(fun p : Nat × Nat × Nat=>AV.nm p.1 p.2.1 0 w) (rs.getD j (0,0,0)))):=by
  rw [← hmap,List.length_range']
  simp only [aview,h.top,if_true,Nat.mul_one]
  rw [qW (by simp;omega)]
 refine (idxAt_ok s_slices_IndexFunc_LLint64_Lint64 (fun j=>(fun p : Nat × Nat × Nat=>AV.nm p.1 p.2.1 0 w) (rs.getD j (0,0,0))) X _ (yJ t (xs.length - t)) hvw _ _ (by kernel_rfl) (fun j=>decide (ent xs j k ≠ 0)) (fun j hj=>?_)).mono ?_
 ·have hj2 : j < xs.length:=by have:=List.mem_range'_1.1 hj;omega
  obtain ⟨p,hp,-⟩:=h.at hj2
  have hpd : rs.getD j (0,0,0) = p:=by rw [qE,hp];rfl
  (try simp only)
  rw [hpd]
  exact reduce_c1_ok X cr ty k w _ (xs.getD j []) hcr (h.rview hp) (h.row j p hp).1 hk
 ·rintro r H' ⟨h1,rfl⟩
  refine ⟨?_,rfl⟩
  rcases h1 with ⟨pre,post,x,e1,e2,e3,rfl⟩|⟨e1,rfl⟩
  ·have hgx : (yJ t (xs.length - t))[pre.length]? = some x:=by rw [e1];simp
   have hpl : pre.length < xs.length - t:=by
    have:=congrArg List.length e1
    rw [List.length_range',List.length_append,List.length_cons] at this;omega
   rw [List.getElem?_range' hpl,yC] at hgx
   have hxe : x = t + pre.length:=(qU.inj hgx).symm
   refine .inl ⟨x,by omega,by omega,of_decide_eq_true e2,fun i' g1 g2=>?_,by rw [hxe,Nat.add_sub_cancel_left]⟩
   have hmem : i' ∈ pre:=by
    have hg2 : (yJ t (xs.length - t))[i' - t]? = some i':=by rw [List.getElem?_range' (by omega),yC];congr 1;omega
    rw [e1,qN (by omega)] at hg2
    exact wD hg2
   have:=e3 i' hmem
   simpa using this
  ·refine .inr ⟨fun i' g1 g2=>?_,rfl⟩
   have:=e1 i' (List.mem_range'_1.2 ⟨g1,by omega⟩)
   simpa using this
theorem reduce_ok (H : List Blk) (P K : Nat) (L : List Int) (m : List (List Int)) (w : Nat) (hpb : 2 ≤ P ∧ P ≤ 64) (hkb : 1 ≤ K ∧ K ≤ 6) (hLb : OkD P L ∧ L.length = K + 1) (hF : FldR P K L) (hq : P ^ K ≤ 64) (hm : MatB (P ^ K) w m) (hn : 1 ≤ m.length ∧ m.length ≤ 32) (hw : 1 ≤ w ∧ w ≤ 32) :
  ACalls Tryz.prog f_impl_arithmetic_reduce [arT (P ^ K) (fun a b=>sumG P K a b 1) (fun a b=>sumG P K a b (P - 1)) (fun a b=>mulG P K L a b),ilSS m] H (fun v H'=>∃ (tb ver : Nat) (rs : List (Nat × Nat × Nat)) (xs : List (List Int)) (pv : AV) (t k det : Nat),v = .tup [.nm tb ver 0 t,pv,I det] ∧ InvE m w xs k t ∧ (k = w ∨ t = m.length) ∧ TabO H' (H.length + 1) tb ver rs w xs ∧ MatB (P ^ K) w xs ∧ ∀ j,j < H.length → H'[j]? = H[j]?):=by
 have hP : P ≤ P ^ K:=Nat.le_self_pow (by omega) P
 have hF1 : ∀ a b : Nat,sumG P K a b 1 = (fun a b=>sumG P K a b 1) a b:=fun a b=>rfl
 unfold arT
 refine ACalls.introB s_impl_arithmetic_reduce (by simp) ?_;intro hB hA;unfold c_impl_arithmetic_reduce;simp (maxSteps:=1000000) (disch:=(first|omega|(simp only [go_sem];try omega))) only [go_sem,Nat.reduceAdd,Nat.reduceEqDiff,Nat.reduceLeDiff,Nat.reduceMul,Nat.reduceLT,reduceIte,Int.reduceToNat,w64_id,cast_succ]
 generalize hqq : P ^ K = q at *
 repeat (first|(with_reducible first|refine SW.seq ?_|refine q8 ?_|refine SW.rowC ?_|refine SW.skip ?_|refine SW.exit ?_|intro _|refine And.intro (by omega) ?_)|simp (maxSteps:=1000000) (disch:=(first|omega|(simp only [go_sem];try omega))) only [go_sem,Nat.reduceAdd,Nat.reduceEqDiff,Nat.reduceLeDiff,Nat.reduceMul,Nat.reduceLT,reduceIte,Int.reduceToNat,w64_id,cast_succ])
 generalize hbx : (⟨0,tyAr,1,[I q,ilSS (tabG (fun a b=>sumG P K a b 1) q q),ilSS (tabG (fun a b=>sumG P K a b (P - 1)) q q),ilSS (tabG (fun a b=>mulG P K L a b) q q),ilS (invL (fun a b=>mulG P K L a b) q)]⟩ : Blk) = bx
 refine (copyLists_grow (H ++ [bx]) m (by omega) (fun x hx=>by have:=(hm x hx).1;omega)).mono ?_
 rintro v X ⟨ext,hXe,hgrow⟩
 obtain ⟨tb,ver,rs,rfl,hT⟩:=TabO.of hgrow hn.1 hw.1 (fun x hx=>(hm x hx).1)
 have hXl : (H ++ [bx]).length ≤ X.length:=by rw [hXe];simp
 have hP0 : PSt (H ++ [bx]) (X ++ [⟨0,3,1,[I (0 : Nat)]⟩]) tb ver rs w m nilS 0 X.length 0:=by
  refine ⟨hT.app _,fun j hj=>?_,.inl ⟨rfl,rfl⟩,by simp,by omega,fun e=>by have:=hT.ltop;omega,fun e=>?_⟩
  ·rw [qN (by omega),hXe,qN hj]
  ·obtain ⟨p,hp,e⟩:=wG.1 e
   obtain ⟨i,hi⟩:=wU hp
   have:=hT.lt hi
   omega
 have hbx0 : (H ++ [bx])[H.length]? = some bx:=by simp
 have hHl : (H ++ [bx]).length = H.length + 1:=by simp
 repeat (first|(with_reducible first|refine SW.seq ?_|refine q8 ?_|refine SW.rowC ?_|refine SW.skip ?_|refine SW.exit ?_|intro _|refine And.intro (by omega) ?_)|simp (maxSteps:=1000000) (disch:=(first|omega|(simp only [go_sem];try omega))) only [go_sem,Nat.reduceAdd,Nat.reduceEqDiff,Nat.reduceLeDiff,Nat.reduceMul,Nat.reduceLT,reduceIte,Int.reduceToNat,w64_id,cast_succ])
 refine wJ (fun E0 H0 q' E' H'=>∃ (k t det cr : Nat) (pv : AV) (rs : List (Nat × Nat × Nat)) (xs : List (List Int)),k ≤ w ∧ q' = w - k ∧ E' = aput (aput (aput E0 8 pv) 9 (I det)) 10 (.pc cr 0 0) ∧ det < q ∧ t < m.length ∧ PSt (H ++ [bx]) H' tb ver rs w xs pv t cr k ∧ InvE m w xs k t ∧ MatB q w xs) w ⟨0,0,1,X.length,nilS,rs,m,by omega,by omega,rfl,by omega,by omega,hP0,InvE.zero m w,hm⟩ ?_
 clear hP0 hT hgrow hXe hXl
 rintro q' E' Y ⟨k,t,det,cr,pv,rs,xs,hk,rfl,rfl,hdet,htm,hS,hI,hM⟩
 have hxl : xs.length = m.length:=hI.1
 have htx : t < xs.length:=by omega
 have hv:=hS.tab.view
 rw [hxl] at hv
 obtain ⟨p0,hp0,hc0⟩:=hS.tab.at (i:=0) (by omega)
 have hr0:=hS.tab.rview hp0
 obtain ⟨pcs,hpv⟩:=hS.pview
 have hca:=fun o=>pc_alive (off:=o) hS.cb.1
 have hcl:=fun o=>pc_ld (off:=o) hS.cb.1
 have d0 : decide ((0 : Int) < m.length) = true:=decide_eq_true (by omega)
 simp (maxSteps:=1000000) (disch:=(first|omega|(simp only [go_sem];try omega))) only [go_sem,Nat.reduceAdd,Nat.reduceEqDiff,Nat.reduceLeDiff,Nat.reduceMul,Nat.reduceLT,reduceIte,Int.reduceToNat,w64_id,cast_succ]
 repeat (first|(with_reducible first|refine SW.seq ?_|refine q8 ?_|refine SW.rowC ?_|refine SW.skip ?_|refine SW.exit ?_|intro _|refine And.intro (by omega) ?_)|simp (maxSteps:=1000000) (disch:=(first|omega|(simp only [go_sem];try omega))) only [go_sem,Nat.reduceAdd,Nat.reduceEqDiff,Nat.reduceLeDiff,Nat.reduceMul,Nat.reduceLT,reduceIte,Int.reduceToNat,w64_id,cast_succ,hv,d0,hca,hcl,hc0,hr0])
 by_cases hkw : k < w
 rotate_left
 ·have hke : k = w:=by omega
  have d1 : decide ((k : Int) < w) = false:=decide_eq_false (by omega)
  repeat (first|(with_reducible first|refine SW.seq ?_|refine q8 ?_|refine SW.rowC ?_|refine SW.skip ?_|refine SW.exit ?_|intro _|refine And.intro (by omega) ?_)|simp (maxSteps:=1000000) (disch:=(first|omega|(simp only [go_sem];try omega))) only [go_sem,Nat.reduceAdd,Nat.reduceEqDiff,Nat.reduceLeDiff,Nat.reduceMul,Nat.reduceLT,reduceIte,Int.reduceToNat,w64_id,cast_succ,d1])
  refine wE rfl ?_
  repeat (first|(with_reducible first|refine SW.seq ?_|refine q8 ?_|refine SW.rowC ?_|refine SW.skip ?_|refine SW.exit ?_|intro _|refine And.intro (by omega) ?_)|simp (maxSteps:=1000000) (disch:=(first|omega|(simp only [go_sem];try omega))) only [go_sem,Nat.reduceAdd,Nat.reduceEqDiff,Nat.reduceLeDiff,Nat.reduceMul,Nat.reduceLT,reduceIte,Int.reduceToNat,w64_id,cast_succ,hpv,hv,wO,yK])
  rw [SlcG_nm (by rw [hS.tab.top];rfl) (by omega) (by omega),wA]
  repeat (first|(with_reducible first|refine SW.seq ?_|refine q8 ?_|refine SW.rowC ?_|refine SW.skip ?_|refine SW.exit ?_|intro _|refine And.intro (by omega) ?_)|simp (maxSteps:=1000000) (disch:=(first|omega|(simp only [go_sem];try omega))) only [go_sem,Nat.reduceAdd,Nat.reduceEqDiff,Nat.reduceLeDiff,Nat.reduceMul,Nat.reduceLT,reduceIte,Int.reduceToNat,w64_id,cast_succ])
  refine SW.ret (qQ (GR.of ⟨tb,ver,rs,xs,pv,t,k,det,rfl,hI,.inl hke,hHl ▸ hS.tab,hM,fun j hj=>?_⟩))
  rw [hS.fr j (by omega),qN hj]
 ·have d1 : decide ((k : Int) < w) = true:=decide_eq_true (by omega)
  have hss : (Y[tb]?).map Blk.sz = some 1:=by rw [hS.tab.top];rfl
  have hsl:=fun (K : AV → Prop)=>slcT (H:=Y) (K:=K) (ver:=ver) (cells:=rs.map fun p=>AV.nm p.1 p.2.1 0 w) htm hss
  repeat (first|(with_reducible first|refine SW.seq ?_|refine q8 ?_|refine SW.rowC ?_|refine SW.skip ?_|refine SW.exit ?_|intro _|refine And.intro (by omega) ?_)|simp (maxSteps:=1000000) (disch:=(first|omega|(simp only [go_sem];try omega))) only [go_sem,Nat.reduceAdd,Nat.reduceEqDiff,Nat.reduceLeDiff,Nat.reduceMul,Nat.reduceLT,reduceIte,Int.reduceToNat,w64_id,cast_succ,d1])
  refine wM rfl ?_
  repeat (first|(with_reducible first|refine SW.seq ?_|refine q8 ?_|refine SW.rowC ?_|refine SW.skip ?_|refine SW.exit ?_|intro _|refine And.intro (by omega) ?_)|simp (maxSteps:=1000000) (disch:=(first|omega|(simp only [go_sem];try omega))) only [go_sem,Nat.reduceAdd,Nat.reduceEqDiff,Nat.reduceLeDiff,Nat.reduceMul,Nat.reduceLT,reduceIte,Int.reduceToNat,w64_id,cast_succ,hpv,hv,wO,yK,hsl])
  have hfr:=first_row (xs:=xs) hS.tab htx hS.cb.1 hkw
  rw [hxl] at hfr
  refine hfr.mono ?_
  rintro v Y' ⟨hf,rfl⟩
  rcases hf with ⟨i,hti,him,hik,hiz,rfl⟩|⟨hz,rfl⟩
  rotate_left
  ·have hcz : colZ xs k t = true:=colZ_iff.2 fun i' h1 h2=>hz i' h2 (by omega)
   repeat (first|(with_reducible first|refine SW.seq ?_|refine q8 ?_|refine SW.rowC ?_|refine SW.skip ?_|refine SW.exit ?_|intro _|refine And.intro (by omega) ?_)|simp (maxSteps:=1000000) (disch:=(first|omega|(simp only [go_sem];try omega))) only [go_sem,Nat.reduceAdd,Nat.reduceEqDiff,Nat.reduceLeDiff,Nat.reduceMul,Nat.reduceLT,reduceIte,Int.reduceToNat,w64_id,cast_succ])
   refine wM rfl ?_
   repeat (first|(with_reducible first|refine SW.seq ?_|refine q8 ?_|refine SW.rowC ?_|refine SW.skip ?_|refine SW.exit ?_|intro _|refine And.intro (by omega) ?_)|simp (maxSteps:=1000000) (disch:=(first|omega|(simp only [go_sem];try omega))) only [go_sem,Nat.reduceAdd,Nat.reduceEqDiff,Nat.reduceLeDiff,Nat.reduceMul,Nat.reduceLT,reduceIte,Int.reduceToNat,w64_id,cast_succ,hca,hcl])
   exact wB (w - (k + 1)) (by omega) ⟨k + 1,t,0,_,pv,rs,xs,by omega,rfl,by simp [go_sem],by omega,htm,hS.next (k + 1),hI.skip hkw htm hcz,hM⟩
  ·have d2 : decide (((i - t : Nat) : Int) < 0) = false:=decide_eq_false (by omega)
   repeat (first|(with_reducible first|refine SW.seq ?_|refine q8 ?_|refine SW.rowC ?_|refine SW.skip ?_|refine SW.exit ?_|intro _|refine And.intro (by omega) ?_)|simp (maxSteps:=1000000) (disch:=(first|omega|(simp only [go_sem];try omega))) only [go_sem,Nat.reduceAdd,Nat.reduceEqDiff,Nat.reduceLeDiff,Nat.reduceMul,Nat.reduceLT,reduceIte,Int.reduceToNat,w64_id,cast_succ,d2])
   refine wE rfl ?_
   repeat (first|(with_reducible first|refine SW.seq ?_|refine q8 ?_|refine SW.rowC ?_|refine SW.skip ?_|refine SW.exit ?_|intro _|refine And.intro (by omega) ?_)|simp (maxSteps:=1000000) (disch:=(first|omega|(simp only [go_sem];try omega))) only [go_sem,Nat.reduceAdd,Nat.reduceEqDiff,Nat.reduceLeDiff,Nat.reduceMul,Nat.reduceLT,reduceIte,Int.reduceToNat,w64_id,cast_succ])
   refine SW.thenM (fun E' H'=>∃ (det1 : Nat) (rs1 : List (Nat × Nat × Nat)),det1 < q ∧ aget E' 2 = .pc H.length 0 0 ∧ aget E' 7 = .nm tb ver 0 m.length ∧ aget E' 8 = pv ∧ aget E' 9 = I det1 ∧ aget E' 10 = .pc cr 0 0 ∧ aget E' 11 = I t ∧ PSt (H ++ [bx]) H' tb ver rs1 w ((xs.set t (xs.getD i [])).set i (xs.getD t [])) pv t cr k) ?_ ?_
   ·by_cases hit : i = t
    ·subst hit
     have d3 : decide ((0 : Int) < ((i - i : Nat) : Int)) = false:=decide_eq_false (by omega)
     rw [d3]
     refine wE rfl ?_
     repeat (first|(with_reducible first|refine SW.seq ?_|refine q8 ?_|refine SW.rowC ?_|refine SW.skip ?_|refine SW.exit ?_|intro _|refine And.intro (by omega) ?_)|simp (maxSteps:=1000000) (disch:=(first|omega|(simp only [go_sem];try omega))) only [go_sem,Nat.reduceAdd,Nat.reduceEqDiff,Nat.reduceLeDiff,Nat.reduceMul,Nat.reduceLT,reduceIte,Int.reduceToNat,w64_id,cast_succ])
     exact ⟨det,rs,hdet,rfl,by rw [swap_self];exact hS⟩
    ·have d3 : decide ((0 : Int) < ((i - t : Nat) : Int)) = true:=decide_eq_true (by omega)
     rw [d3]
     refine wM rfl ?_
     obtain ⟨pi,hpi,hci⟩:=hS.tab.at (i:=i) (by omega)
     obtain ⟨pt,hpt,hct⟩:=hS.tab.at (i:=t) (by omega)
     have hsw:=hS.swap hpi hpt
     have hti2 : (t : Int) + ((i - t : Nat) : Int) = (i : Int):=by omega
     have s1:=store_nm (n:=m.length) (c:=AV.nm pi.1 pi.2.1 0 w) hS.tab.top (i:=t) (by rw [w8,hS.tab.len];exact htx)
     have htop2 : (Y'.set tb ⟨ver,tyLL,1,(rs.map fun p=>AV.nm p.1 p.2.1 0 w).set t (AV.nm pi.1 pi.2.1 0 w)⟩)[tb]? = some ⟨ver,tyLL,1,(rs.map fun p=>AV.nm p.1 p.2.1 0 w).set t (AV.nm pi.1 pi.2.1 0 w)⟩:=qY hS.tab.ltop
     have v2:=view_nm (n:=m.length) htop2 (by rw [w6,w8,hS.tab.len,hxl])
     have s2:=store_nm (n:=m.length) (c:=AV.nm pt.1 pt.2.1 0 w) htop2 (i:=i) (by rw [w6,w8,hS.tab.len];omega)
     rw [yB] at s2
     have hbZ : (Y'.set tb ⟨ver,tyLL,1,((rs.map fun p=>AV.nm p.1 p.2.1 0 w).set t (AV.nm pi.1 pi.2.1 0 w)).set i (AV.nm pt.1 pt.2.1 0 w)⟩)[H.length]? = some bx:=by
      rw [qR (by have:=hS.tab.lo.1;omega),hS.fr _ (by omega)];exact hbx0
     rw [← hbx] at hbZ
     have hba:=fun o=>pc_alive (off:=o) hbZ
     have hbl:=fun o=>pc_ld (off:=o) hbZ
     have t2:=tabG_get (fun a b=>sumG P K a b (P - 1)) (q:=q) (a:=0) (by omega)
     have l2:=tabG_len (fun a b=>sumG P K a b (P - 1)) q q
     have g2:=rowF_get (fun b=>sumG P K 0 b (P - 1)) (q:=q) (b:=det) hdet
     have hsb:=sumG_bd (P:=P) (K:=K) (a:=0) (b:=det) (k:=P - 1) hpb.1 hpb.2 (by omega)
     rw [hqq] at hsb
     obtain ⟨d9,hd9⟩:=wC hsb.1
     rw [hd9] at g2 hsb
     rw [xL,xL] at hsw
     repeat (first|(with_reducible first|refine SW.seq ?_|refine q8 ?_|refine SW.rowC ?_|refine SW.skip ?_|refine SW.exit ?_|intro _|refine And.intro (by omega) ?_)|simp (maxSteps:=1000000) (disch:=(first|omega|(simp only [go_sem];try omega))) only [go_sem,Nat.reduceAdd,Nat.reduceEqDiff,Nat.reduceLeDiff,Nat.reduceMul,Nat.reduceLT,reduceIte,Int.reduceToNat,w64_id,cast_succ,hv,hti2,hci,hct,s1,v2,s2,hba,hbl,t2,l2,g2,xJ])
     exact ⟨d9,_,by omega,rfl,hsw⟩
   ·rintro E2 Z ⟨det1,rs1,hdet1,e2,e7,e8,e9,e10,e11,hS1⟩
    have hx1l : ((xs.set t (xs.getD i [])).set i (xs.getD t [])).length = m.length:=by rw [w6,w6];exact hxl
    have hx1t : ((xs.set t (xs.getD i [])).set i (xs.getD t [])).getD t [] = xs.getD i []:=by
     rw [getD_set' (by rw [w6];exact htx),getD_set' htx,if_pos rfl]
     split
     ·rename_i e;rw [e]
     ·rfl
    obtain ⟨pt,hpt,hct⟩:=hS1.tab.at (i:=t) (by omega)
    have hv1:=hS1.tab.view
    rw [hx1l] at hv1
    have hrt:=hS1.tab.rview hpt
    rw [hx1t] at hrt
    have hri:=hM.row (show i < xs.length by omega)
    have hlead : ((xs.getD i []).map I)[k]? = some (I (ent xs i k)):=by
     unfold ent
     rw [qX,qE (l:=xs.getD i []),qB (by omega)];rfl
    have heb:=hM.ent (by omega) i k
    obtain ⟨x,hxe⟩:=wC heb.1
    rw [hxe] at hlead heb hik
    have hxq : x < q:=by omega
    have hbZ : Z[H.length]? = some bx:=by rw [hS1.fr _ (by omega)];exact hbx0
    rw [← hbx] at hbZ
    have hba:=fun o=>pc_alive (off:=o) hbZ
    have hbl:=fun o=>pc_ld (off:=o) hbZ
    have hca1:=fun o=>pc_alive (off:=o) hS1.cb.1
    have hcl1:=fun o=>pc_ld (off:=o) hS1.cb.1
    have t3:=tabG_get (fun a b=>mulG P K L a b) (q:=q) (a:=det1) hdet1
    have l3:=tabG_len (fun a b=>mulG P K L a b) q q
    have g3:=rowF_get (fun b=>mulG P K L det1 b) (q:=q) (b:=x) hxq
    have hmb:=mulG_bd (P:=P) (K:=K) (L:=L) (a:=det1) (b:=x) hpb.1 hpb.2 hLb
    rw [hqq] at hmb
    obtain ⟨d8,hd8⟩:=wC hmb.1
    rw [hd8] at g3 hmb
    repeat (first|(with_reducible first|refine SW.seq ?_|refine q8 ?_|refine SW.rowC ?_|refine SW.skip ?_|refine SW.exit ?_|intro _|refine And.intro (by omega) ?_)|simp (maxSteps:=1000000) (disch:=(first|omega|(simp only [go_sem];try omega))) only [go_sem,Nat.reduceAdd,Nat.reduceEqDiff,Nat.reduceLeDiff,Nat.reduceMul,Nat.reduceLT,reduceIte,Int.reduceToNat,w64_id,cast_succ,e2,e7,e8,e9,e10,e11,hv1,hct,hrt,hlead,hca1,hcl1,hba,hbl,t3,l3,g3,xJ])
    obtain ⟨b0,hb1,hb2,hb3⟩:=hF.inv x (by omega) (by rw [hqq];exact hxq)
    obtain ⟨b,hbq,hbi,hbm⟩:=invB_ok (fun b=>mulG P K L x b) q b0 (by rw [← hqq];exact hb2) hb3
    (try simp only at hbm)
    have gi : ((invL (fun a b=>mulG P K L a b) q).map I)[x]? = some (I b):=by
     unfold invL
     rw [qX,qX,xK hxq]
     exact congrArg (fun z=>some (I z)) hbi
    have li : (invL (fun a b=>mulG P K L a b) q).length = q:=by simp [invL]
    have hsz : ((xs.set t (xs.getD i [])).set i (xs.getD t [])).set t (scA P K L (xs.getD i []) b 0) = (xs.set t (xs.getD i [])).set i (xs.getD t []):=by
     rw [scA_zero]
     refine lists_ext (by simp) fun j hj=>?_
     rw [w6] at hj
     rw [getD_set' hj]
     split
     ·rename_i e;rw [e,hx1t]
     ·rfl
    have htb:=tabG_get (fun a b=>mulG P K L a b) (q:=q) (a:=b) hbq
    generalize hx1 : (xs.set t (xs.getD i [])).set i (xs.getD t []) = xs1 at *
    refine wJ (fun E0 H0 m' E' H'=>∃ j : Nat,j ≤ w ∧ m' = w - j ∧ E' = aput E0 89 (I j) ∧ PSt (H ++ [bx]) H' tb ver rs1 w (xs1.set t (scA P K L (xs.getD i []) b j)) pv t cr k) w ⟨0,by omega,by omega,rfl,by rw [hsz];exact hS1⟩ ?_
    clear hbZ hba hbl hca1 hcl1 hv1 hrt hct
    rintro m' E' Y ⟨j,hj,rfl,rfl,hY⟩
    have hyl : (xs1.set t (scA P K L (xs.getD i []) b j)).length = m.length:=by rw [w6];exact hx1l
    have hyv:=hY.tab.view
    rw [hyl] at hyv
    have hct : (rs1.map fun p=>AV.nm p.1 p.2.1 0 w)[t]? = some (AV.nm pt.1 pt.2.1 0 w):=by rw [qX,hpt];rfl
    have hyr:=hY.tab.rview hpt
    rw [getD_set' (by omega),if_pos rfl] at hyr
    have hyb : Y[H.length]? = some bx:=by rw [hY.fr _ (by omega)];exact hbx0
    rw [← hbx] at hyb
    have hba:=fun o=>pc_alive (off:=o) hyb
    have hbl:=fun o=>pc_ld (off:=o) hyb
    simp (maxSteps:=1000000) (disch:=(first|omega|(simp only [go_sem];try omega))) only [go_sem,Nat.reduceAdd,Nat.reduceEqDiff,Nat.reduceLeDiff,Nat.reduceMul,Nat.reduceLT,reduceIte,Int.reduceToNat,w64_id,cast_succ]
    repeat (first|(with_reducible first|refine SW.seq ?_|refine q8 ?_|refine SW.rowC ?_|refine SW.skip ?_|refine SW.exit ?_|intro _|refine And.intro (by omega) ?_)|simp (maxSteps:=1000000) (disch:=(first|omega|(simp only [go_sem];try omega))) only [go_sem,Nat.reduceAdd,Nat.reduceEqDiff,Nat.reduceLeDiff,Nat.reduceMul,Nat.reduceLT,reduceIte,Int.reduceToNat,w64_id,cast_succ,e2,e7,e8,e9,e10,e11])
    (first|refine wK rfl (fun h9=>?_) (fun h9=>?_)|refine wL rfl (fun h9=>?_) (fun h9=>?_)|refine wF rfl (fun h9=>?_) (fun h9=>?_)|refine wH rfl (fun h9=>?_) (fun h9=>?_))
    ·have hjw : j < w:=by omega
     have hgx:=scA_get P K L (xs.getD i []) b j (by omega)
     have hyj:=hri.2 _ (show (xs.getD i []).getD j 0 ∈ xs.getD i [] by rw [qE (l:=xs.getD i []),qB (by omega)];exact wQ _)
     have hsA:=scA_set P K L (xs.getD i []) b j (by omega)
     obtain ⟨y,hye⟩:=wC hyj.1
     rw [hye] at hgx hyj hsA
     rw [wA] at hsA
     have gy:=rowF_get (fun c=>mulG P K L b c) (q:=q) (b:=y) (by omega)
     have hcm:=hF.com b y (by rw [hqq];exact hbq) (by rw [hqq];omega)
     (try simp only at gy)
     rw [hcm] at gy
     have hrow:=(hY.tab.row t pt hpt).2
     rw [getD_set' (by omega),if_pos rfl] at hrow
     have hst:=store_nm (n:=w) (c:=I (mulG P K L y b)) hrow (i:=j) (by rw [w8,scA_len];omega)
     rw [← xL,hsA] at hst
     have hput:=hY.put hpt (ys:=scA P K L (xs.getD i []) b (j + 1)) (by rw [scA_len];exact hri.1)
     rw [yB] at hput
     repeat (first|(with_reducible first|refine SW.seq ?_|refine q8 ?_|refine SW.rowC ?_|refine SW.skip ?_|refine SW.exit ?_|intro _|refine And.intro (by omega) ?_)|simp (maxSteps:=1000000) (disch:=(first|omega|(simp only [go_sem];try omega))) only [go_sem,Nat.reduceAdd,Nat.reduceEqDiff,Nat.reduceLeDiff,Nat.reduceMul,Nat.reduceLT,reduceIte,Int.reduceToNat,w64_id,cast_succ,hyr,hgx,hyv,hct,hba,hbl,gi,li,htb,l3,gy,hst,xJ])
     exact wB (w - (j + 1)) (by omega) ⟨j + 1,by omega,rfl,by simp [go_sem],hput⟩
    ·have hjw : j = w:=by omega
     rw [hjw,← hri.1,scA_all] at hY
     rw [hri.1,← hx1,midP_zero (P:=P) (K:=K) (L:=L) (k:=k) htx] at hY
     have hme:=midP_end (P:=P) (K:=K) (L:=L) (xs:=xs) (t:=t) (i:=i) (k:=k) b
     have hRl : (scL P K L (xs.getD i []) b).length = w:=by unfold scL;rw [w8];exact hri.1
     generalize hR : scL P K L (xs.getD i []) b = R at *
     repeat (first|(with_reducible first|refine SW.seq ?_|refine q8 ?_|refine SW.rowC ?_|refine SW.skip ?_|refine SW.exit ?_|intro _|refine And.intro (by omega) ?_)|simp (maxSteps:=1000000) (disch:=(first|omega|(simp only [go_sem];try omega))) only [go_sem,Nat.reduceAdd,Nat.reduceEqDiff,Nat.reduceLeDiff,Nat.reduceMul,Nat.reduceLT,reduceIte,Int.reduceToNat,w64_id,cast_succ,hyv])
     refine wJ (fun E0 H0 m' E' H'=>∃ j : Nat,j ≤ m.length ∧ m' = m.length - j ∧ E' = aput E0 115 (I j) ∧ PSt (H ++ [bx]) H' tb ver rs1 w (midP P K L xs R t i k j) pv t cr k) m.length ⟨0,by omega,by omega,rfl,hY⟩ ?_
     clear hY
     rintro m' E' Z2 ⟨j2,hj2,rfl,rfl,hZ⟩
     have hzl : (midP P K L xs R t i k j2).length = m.length:=by rw [midP_len];exact hxl
     have hzv:=hZ.tab.view
     rw [hzl] at hzv
     simp (maxSteps:=1000000) (disch:=(first|omega|(simp only [go_sem];try omega))) only [go_sem,Nat.reduceAdd,Nat.reduceEqDiff,Nat.reduceLeDiff,Nat.reduceMul,Nat.reduceLT,reduceIte,Int.reduceToNat,w64_id,cast_succ]
     repeat (first|(with_reducible first|refine SW.seq ?_|refine q8 ?_|refine SW.rowC ?_|refine SW.skip ?_|refine SW.exit ?_|intro _|refine And.intro (by omega) ?_)|simp (maxSteps:=1000000) (disch:=(first|omega|(simp only [go_sem];try omega))) only [go_sem,Nat.reduceAdd,Nat.reduceEqDiff,Nat.reduceLeDiff,Nat.reduceMul,Nat.reduceLT,reduceIte,Int.reduceToNat,w64_id,cast_succ])
     (first|refine wK rfl (fun h10=>?_) (fun h10=>?_)|refine wL rfl (fun h10=>?_) (fun h10=>?_)|refine wF rfl (fun h10=>?_) (fun h10=>?_)|refine wH rfl (fun h10=>?_) (fun h10=>?_))
     ·have hjn : j2 < xs.length:=by omega
      obtain ⟨pj,hpj,hcj⟩:=hZ.tab.at (i:=j2) (by omega)
      have hzr:=hZ.tab.rview hpj
      rw [midP_get hjn] at hzr
      by_cases hjt : j2 = t
      ·have d7 : decide ((j2 : Int) = t) = true:=decide_eq_true (by omega)
       repeat (first|(with_reducible first|refine SW.seq ?_|refine q8 ?_|refine SW.rowC ?_|refine SW.skip ?_|refine SW.exit ?_|intro _|refine And.intro (by omega) ?_)|simp (maxSteps:=1000000) (disch:=(first|omega|(simp only [go_sem];try omega))) only [go_sem,Nat.reduceAdd,Nat.reduceEqDiff,Nat.reduceLeDiff,Nat.reduceMul,Nat.reduceLT,reduceIte,Int.reduceToNat,w64_id,cast_succ,hzv,hcj,d7])
       refine wE rfl ?_
       repeat (first|(with_reducible first|refine SW.seq ?_|refine q8 ?_|refine SW.rowC ?_|refine SW.skip ?_|refine SW.exit ?_|intro _|refine And.intro (by omega) ?_)|simp (maxSteps:=1000000) (disch:=(first|omega|(simp only [go_sem];try omega))) only [go_sem,Nat.reduceAdd,Nat.reduceEqDiff,Nat.reduceLeDiff,Nat.reduceMul,Nat.reduceLT,reduceIte,Int.reduceToNat,w64_id,cast_succ])
       exact wB (m.length - (j2 + 1)) (by omega) ⟨j2 + 1,by omega,rfl,by simp [go_sem],by rw [← midP_skip hjn (.inl hjt)];exact hZ⟩
      ·have d7 : decide ((j2 : Int) = t) = false:=decide_eq_false (by omega)
       rw [if_neg hjt,if_neg (by omega)] at hzr
       have hro:=oldR_ok (i:=i) hM htx hjn
       have hsucc:=midP_succ (P:=P) (K:=K) (L:=L) (R:=R) (t:=t) (i:=i) (k:=k) hjn hjt
       have hskip:=midP_skip (P:=P) (K:=K) (L:=L) (R:=R) (t:=t) (i:=i) (k:=k) hjn
       generalize hO : oldR xs t i j2 = O at *
       have hok : (O.map I)[k]? = some (I (O.getD k 0)):=by
        rw [qX,qE,qB (by omega)];rfl
       have hca2:=fun o=>pc_alive (off:=o) hZ.cb.1
       have hcl2:=fun o=>pc_ld (off:=o) hZ.cb.1
       by_cases hz : O.getD k 0 = 0
       ·have dz : decide (O.getD k 0 = 0) = true:=decide_eq_true hz
        repeat (first|(with_reducible first|refine SW.seq ?_|refine q8 ?_|refine SW.rowC ?_|refine SW.skip ?_|refine SW.exit ?_|intro _|refine And.intro (by omega) ?_)|simp (maxSteps:=1000000) (disch:=(first|omega|(simp only [go_sem];try omega))) only [go_sem,Nat.reduceAdd,Nat.reduceEqDiff,Nat.reduceLeDiff,Nat.reduceMul,Nat.reduceLT,reduceIte,Int.reduceToNat,w64_id,cast_succ,hzv,hcj,d7,hzr,hok,hca2,hcl2,dz])
        refine wE rfl ?_
        repeat (first|(with_reducible first|refine SW.seq ?_|refine q8 ?_|refine SW.rowC ?_|refine SW.skip ?_|refine SW.exit ?_|intro _|refine And.intro (by omega) ?_)|simp (maxSteps:=1000000) (disch:=(first|omega|(simp only [go_sem];try omega))) only [go_sem,Nat.reduceAdd,Nat.reduceEqDiff,Nat.reduceLeDiff,Nat.reduceMul,Nat.reduceLT,reduceIte,Int.reduceToNat,w64_id,cast_succ])
        exact wB (m.length - (j2 + 1)) (by omega) ⟨j2 + 1,by omega,rfl,by simp [go_sem],by rw [← hskip (.inr hz)];exact hZ⟩
       ·have dz : decide (O.getD k 0 = 0) = false:=decide_eq_false hz
        have hzb : Z2[H.length]? = some bx:=by rw [hZ.fr _ (by omega)];exact hbx0
        rw [← hbx] at hzb
        have hba2:=fun o=>pc_alive (off:=o) hzb
        have hbl2:=fun o=>pc_ld (off:=o) hzb
        have hb5:=pc_lds (off:=0) (n:=5) hzb (by simp)
        have hct2 : (rs1.map fun p=>AV.nm p.1 p.2.1 0 w)[t]? = some (AV.nm pt.1 pt.2.1 0 w):=by rw [qX,hpt];rfl
        have hob:=hro.2 _ (show O.getD k 0 ∈ O by rw [qE,qB (show k < O.length by omega)];exact wQ _)
        obtain ⟨y,hye⟩:=wC hob.1
        have hrow:=(hZ.tab.row j2 pj hpj).2
        rw [midP_get hjn,if_neg hjt,if_neg (by omega),hO] at hrow
        have hrowt:=(hZ.tab.row t pt hpt).2
        rw [midP_get htx,if_pos rfl] at hrowt
        have hnp : pj.1 ≠ pt.1:=fun e=>hjt (hZ.tab.inj hpj hpt e)
        have hput:=hZ.put hpj (ys:=rowP P K L O R k) (by rw [rowP_len];exact hro.1)
        rw [hsucc] at hput
        unfold rowP at hput
        rw [if_neg hz] at hput
        rw [hye] at hok hob hput
        rw [wA] at hput
        have t2:=tabG_get (fun a b=>sumG P K a b (P - 1)) (q:=q) (a:=0) (by omega)
        have l2:=tabG_len (fun a b=>sumG P K a b (P - 1)) q q
        have g2:=rowF_get (fun b=>sumG P K 0 b (P - 1)) (q:=q) (b:=y) (by omega)
        have hsb:=sumG_bd (P:=P) (K:=K) (a:=0) (b:=y) (k:=P - 1) hpb.1 hpb.2 (by omega)
        rw [hqq] at hsb
        obtain ⟨f,hf⟩:=wC hsb.1
        (try simp only at g2)
        rw [hf] at g2 hsb hput
        rw [wA,hro.1] at hput
        rw [hye] at dz
        repeat (first|(with_reducible first|refine SW.seq ?_|refine q8 ?_|refine SW.rowC ?_|refine SW.skip ?_|refine SW.exit ?_|intro _|refine And.intro (by omega) ?_)|simp (maxSteps:=1000000) (disch:=(first|omega|(simp only [go_sem];try omega))) only [go_sem,Nat.reduceAdd,Nat.reduceEqDiff,Nat.reduceLeDiff,Nat.reduceMul,Nat.reduceLT,reduceIte,Int.reduceToNat,w64_id,cast_succ,hzv,hcj,d7,hzr,hok,hca2,hcl2,dz])
        refine wM rfl ?_
        repeat (first|(with_reducible first|refine SW.seq ?_|refine q8 ?_|refine SW.rowC ?_|refine SW.skip ?_|refine SW.exit ?_|intro _|refine And.intro (by omega) ?_)|simp (maxSteps:=1000000) (disch:=(first|omega|(simp only [go_sem];try omega))) only [go_sem,Nat.reduceAdd,Nat.reduceEqDiff,Nat.reduceLeDiff,Nat.reduceMul,Nat.reduceLT,reduceIte,Int.reduceToNat,w64_id,cast_succ,hzv,hct2,hzr,hok,hca2,hcl2,hba2,hbl2,hb5,t2,l2,g2,xJ])
        refine (addTimes_ok Z2 q (fun a b=>sumG P K a b 1) (fun a b=>sumG P K a b (P - 1)) (fun a b=>mulG P K L a b) (by omega) pj.1 pj.2.1 pj.2.2 w (.nm pt.1 pt.2.1 0 w) O R f hrow hro.1 hRl (by omega) (by omega) (fun bl=>?_) hro.2 ?_ (fun a b ha hb=>by have:=mulG_bd (P:=P) (K:=K) (L:=L) (a:=a) (b:=b) hpb.1 hpb.2 hLb;rw [hqq] at this;exact this)).mono ?_
        ·have:=view_nm (n:=w) (show (Z2.set pj.1 bl)[pt.1]? = some ⟨pt.2.1,pt.2.2,1,R.map I⟩ by rw [qR hnp];exact hrowt) (by rw [w8];exact hRl)
         unfold RdS
         rw [hRl];exact this
        ·intro z hz2
         rw [← hR] at hz2
         obtain ⟨u,_,rfl⟩:=wG.1 hz2
         have:=mulG_bd (P:=P) (K:=K) (L:=L) (a:=u.toNat) (b:=b) hpb.1 hpb.2 hLb
         rw [hqq] at this;exact this
        rintro v3 Z3 ⟨ext3,rfl⟩
        repeat (first|(with_reducible first|refine SW.seq ?_|refine q8 ?_|refine SW.rowC ?_|refine SW.skip ?_|refine SW.exit ?_|intro _|refine And.intro (by omega) ?_)|simp (maxSteps:=1000000) (disch:=(first|omega|(simp only [go_sem];try omega))) only [go_sem,Nat.reduceAdd,Nat.reduceEqDiff,Nat.reduceLeDiff,Nat.reduceMul,Nat.reduceLT,reduceIte,Int.reduceToNat,w64_id,cast_succ])
        exact wB (m.length - (j2 + 1)) (by omega) ⟨j2 + 1,by omega,rfl,by simp [go_sem],hput.app ext3⟩
     ·have hje : j2 = m.length:=by omega
      rw [hje,← hxl,hme] at hZ
      have hca2:=fun o=>pc_alive (off:=o) hZ.cb.1
      have hcl2:=fun o=>pc_ld (off:=o) hZ.cb.1
      have hst:=stepP_ok (i:=i) hpb.1 hpb.2 hLb hF (by omega) (by rw [hqq];exact hM) htx (by omega) hti hkw (show b < P ^ K by omega) (by rw [hxe];omega) hiz (by rw [hxe];exact hbm)
      repeat (first|(with_reducible first|refine SW.seq ?_|refine q8 ?_|refine SW.rowC ?_|refine SW.skip ?_|refine SW.exit ?_|intro _|refine And.intro (by omega) ?_)|simp (maxSteps:=1000000) (disch:=(first|omega|(simp only [go_sem];try omega))) only [go_sem,Nat.reduceAdd,Nat.reduceEqDiff,Nat.reduceLeDiff,Nat.reduceMul,Nat.reduceLT,reduceIte,Int.reduceToNat,w64_id,cast_succ,hca2,hcl2])
      refine hZ.push (by omega) _ ?_
      intro pv2 Z3 hp2 hZ3
      have hpl : (stepP P K L xs t i k b).length = m.length:=by rw [stepP_len];exact hxl
      have hzc : colZ xs k t = false:=by
       rw [Bool.eq_false_iff]
       intro h
       rw [colZ_iff] at h
       have:=h i (by omega) hti
       rw [hxe] at this;omega
      have hI2:=hI.step hkw htm hzc stepP_len hst.1 hst.2.1 hst.2.2
      have hM2 : MatB q w (stepP P K L xs t i k b):=by
       rw [← hqq]
       exact stepP_mat hpb.1 hpb.2 hLb (by rw [hqq];exact hM) htx (by omega)
      obtain ⟨cs2,hpv2⟩:=hZ3.pview
      have hzv3:=hZ3.tab.view
      rw [hpl] at hzv3
      have hca3:=fun o=>pc_alive (off:=o) hZ3.cb.1
      have hcl3:=fun o=>pc_ld (off:=o) hZ3.cb.1
      by_cases htn : t + 1 = m.length
      ·have d11 : decide (((t + 1 : Nat) : Int) = (m.length : Int)) = true:=decide_eq_true (by omega)
       repeat (first|(with_reducible first|refine SW.seq ?_|refine q8 ?_|refine SW.rowC ?_|refine SW.skip ?_|refine SW.exit ?_|intro _|refine And.intro (by omega) ?_)|simp (maxSteps:=1000000) (disch:=(first|omega|(simp only [go_sem];try omega))) only [go_sem,Nat.reduceAdd,Nat.reduceEqDiff,Nat.reduceLeDiff,Nat.reduceMul,Nat.reduceLT,reduceIte,Int.reduceToNat,w64_id,cast_succ,hp2.1,hp2.2,hpv2,hzv3,d11])
       refine wM rfl ?_
       repeat (first|(with_reducible first|refine SW.seq ?_|refine q8 ?_|refine SW.rowC ?_|refine SW.skip ?_|refine SW.exit ?_|intro _|refine And.intro (by omega) ?_)|simp (maxSteps:=1000000) (disch:=(first|omega|(simp only [go_sem];try omega))) only [go_sem,Nat.reduceAdd,Nat.reduceEqDiff,Nat.reduceLeDiff,Nat.reduceMul,Nat.reduceLT,reduceIte,Int.reduceToNat,w64_id,cast_succ,hpv2,hzv3,wO,yK])
       rw [SlcG_nm (by rw [hZ3.tab.top];rfl) (by omega) (by omega),wA]
       repeat (first|(with_reducible first|refine SW.seq ?_|refine q8 ?_|refine SW.rowC ?_|refine SW.skip ?_|refine SW.exit ?_|intro _|refine And.intro (by omega) ?_)|simp (maxSteps:=1000000) (disch:=(first|omega|(simp only [go_sem];try omega))) only [go_sem,Nat.reduceAdd,Nat.reduceEqDiff,Nat.reduceLeDiff,Nat.reduceMul,Nat.reduceLT,reduceIte,Int.reduceToNat,w64_id,cast_succ])
       refine SW.ret (qQ (GR.of ⟨tb,ver,rs1,stepP P K L xs t i k b,pv2,t + 1,k + 1,d8,rfl,hI2,.inr htn,hHl ▸ hZ3.tab,hM2,fun j hj=>?_⟩))
       rw [hZ3.fr j (by omega),qN hj]
      ·have d11 : decide (((t + 1 : Nat) : Int) = (m.length : Int)) = false:=decide_eq_false (by omega)
       repeat (first|(with_reducible first|refine SW.seq ?_|refine q8 ?_|refine SW.rowC ?_|refine SW.skip ?_|refine SW.exit ?_|intro _|refine And.intro (by omega) ?_)|simp (maxSteps:=1000000) (disch:=(first|omega|(simp only [go_sem];try omega))) only [go_sem,Nat.reduceAdd,Nat.reduceEqDiff,Nat.reduceLeDiff,Nat.reduceMul,Nat.reduceLT,reduceIte,Int.reduceToNat,w64_id,cast_succ,hp2.1,hp2.2,hpv2,hzv3,d11])
       refine wE rfl ?_
       repeat (first|(with_reducible first|refine SW.seq ?_|refine q8 ?_|refine SW.rowC ?_|refine SW.skip ?_|refine SW.exit ?_|intro _|refine And.intro (by omega) ?_)|simp (maxSteps:=1000000) (disch:=(first|omega|(simp only [go_sem];try omega))) only [go_sem,Nat.reduceAdd,Nat.reduceEqDiff,Nat.reduceLeDiff,Nat.reduceMul,Nat.reduceLT,reduceIte,Int.reduceToNat,w64_id,cast_succ,hca3,hcl3])
       exact wB (w - (k + 1)) (by omega) ⟨k + 1,t + 1,d8,_,pv2,rs1,_,by omega,rfl,by simp [go_sem],by omega,by omega,hZ3.next (k + 1),hI2,hM2⟩
end Go.Proofs.YtclfmfabcnbbpaaGreat