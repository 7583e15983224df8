/- Graphs of designs: the reference. -/
import Derived.Test.YtclfmfabcnbbpaaGreatzE3
import Derived.Test.YtclfmfabcnbbpaaGreatzK18
import Derived.Test.YtclfmfabcnbbpaaGreatProg
import Derived.KernelRfl
import Derived.Test.YtclfmfabcnbbpaaGreatzAv17
import Derived.Test.YtclfmfabcnbbpaaGreatzM1
set_option linter.unusedSimpArgs false
set_option linter.unusedVariables false
set_option maxHeartbeats 4000000
set_option maxRecDepth 100000
open Go.Operand renaming tmp→t'
open Option renaming none→n',some→s'
open List renaming drop_zero→x8,take_of_length_le→qW,getElem?_append_left→qN,getElem?_eq_some_iff→qC,getElem?_set_self→qY,length_append→wN,getElem?_set_ne→qR,mem_of_getElem?→wD,mem_map→wG,mem_cons→x7,range_succ→xD,map_append→xB,mem_filter→zT,mem_range→wP,getD_eq_getElem?_getD→qE,take_succ_cons→qI,take_zero→qO,not_mem_nil→yU
open Go.Av.SW renaming block→q8,condF→wE
open Go.Av.FunPost renaming one→qP,two→qS,three→qQ
namespace Go.Proofs.YtclfmfabcnbbpaaGreat
open Go.Av
def GrowF (H : List Blk) (base ty sz : Nat) (v : AV) (n : Nat) (cells : List AV) : Prop :=
 (v = nilS ∧ n = 0 ∧ cells = []) ∨ ∃ t ver,v = .nm t ver 0 n ∧ base ≤ t ∧ H[t]? = some ⟨ver,ty,sz,cells⟩ ∧ cells.length = n * sz
theorem GrowF.one {H : List Blk} {base ty sz n : Nat} {v : AV} {cells : List AV} (h : GrowF H base ty sz v n cells) : v.cell1 = true ∧ partsOf v = [v]:=by
 rcases h with ⟨rfl,_⟩|⟨t,ver,rfl,_⟩ <;> exact ⟨rfl,rfl⟩
theorem GrowF.same {H H' : List Blk} {base ty sz n : Nat} {v : AV} {cells : List AV} (h : GrowF H base ty sz v n cells) (hs : ∀ j b,base ≤ j → H[j]? = some b → H'[j]? = some b) : GrowF H' base ty sz v n cells:=by
 rcases h with h|⟨t,ver,rfl,h1,h2,h3⟩
 ·exact .inl h
 ·exact .inr ⟨t,ver,rfl,h1,hs t _ h1 h2,h3⟩
theorem GrowF.view {H : List Blk} {base ty sz n : Nat} {v : AV} {cells : List AV} (h : GrowF H base ty sz v n cells) : aview H v = some (n,cells):=by
 rcases h with ⟨rfl,rfl,rfl⟩|⟨t,ver,rfl,h1,h2,h3⟩
 ·rfl
 ·simp only [aview,h2,if_true,x8]
  rw [qW (by omega)]
theorem GrowF.appX {H : List Blk} {base ty sz bytes n : Nat} {v : AV} {cells xs : List AV} (h : GrowF H base ty sz v n cells) (hb : base ≤ H.length) (hx : xs.length = sz) (hc : ∀ c ∈ xs,c.cell1 = true) (hl1 : (n + 1) * bytes ≤ 140737488355328) (hl2 : n + 1 ≤ 140737488355328)
  {K : AV → List Blk → Prop} (hk : ∀ v' H',GrowF H' base ty sz v' (n + 1) (cells ++ xs) → H.length + 1 ≤ H'.length → (∀ j,j < base → H'[j]? = H[j]?) → K v' H') :
  AppX ty sz bytes (H ++ [⟨0,ty,sz,xs⟩]) v K (some (1,xs)):=by
 rcases h with ⟨rfl,rfl,rfl⟩|⟨t,ver,rfl,h1,h2,h3⟩
 ·simp only [AppX,nilS]
  refine ⟨by omega,hc,by omega,by omega,hk _ _ (.inr ⟨_,1,rfl,by simp;omega,by simp,by simp;omega⟩) (by simp) (fun j hj=>?_)⟩
  rw [qN (by simp;omega),qN (by omega)]
 ·have htl:=(qC.1 h2).1
  simp only [AppX]
  rw [qN htl,h2]
  refine ⟨by omega,hc,rfl,rfl,rfl,by simp only;omega,hl1,hl2,hk _ _ (.inr ⟨t,ver + 1,rfl,h1,?_,?_⟩) (by simp) (fun j hj=>?_)⟩
  ·rw [qY (by simp;omega)]
   simp only
   rw [qW (by omega)]
  ·rw [wN,h3,hx,Nat.add_mul,Nat.one_mul]
  ·rw [qR (by omega),qN (by omega)]
theorem froz_edges {H : List Blk} {base r ver ty : Nat} {es : List (Int × Int)} (hb : base ≤ r) (hr : H[r]? = some ⟨ver,ty,2,flatE es⟩) : Froz H base (.nm r ver 0 es.length) (ilE es):=by
 have hc : ((flatE es).drop 0).take (es.length * 2) = flatE es:=by rw [x8];exact qW (by rw [flatE_length];omega)
 refine .nm r ver 0 es.length _ _ hb hr rfl (by simp only [hc]) ?_
 intro j c c' h1 h2
 simp only [hc] at h1
 rw [h1] at h2;cases h2
 have hm:=wD h1
 rw [flatE_lit] at hm
 obtain ⟨v,_,rfl⟩:=wG.1 hm
 exact .old _ (.lit v)
theorem GrowF.frozI {H : List Blk} {base ty n b : Nat} {v : AV} {xs : List Int} (h : GrowF H base ty 1 v n (xs.map I)) (hb : b ≤ base) : Froz H b v (ilS xs):=by
 rcases h with ⟨rfl,rfl,h⟩|⟨t,ver,rfl,h1,h2,h3⟩
 ·have : xs = []:=by simpa using h
  subst this;exact .nil
 ·have : n = xs.length:=by simpa using h3.symm
  subst this;exact froz_rowI (by omega) h2
theorem GrowF.frozE {H : List Blk} {base ty n b : Nat} {v : AV} {es : List (Int × Int)} (h : GrowF H base ty 2 v n (flatE es)) (hb : b ≤ base) : Froz H b v (ilE es):=by
 rcases h with ⟨rfl,rfl,h⟩|⟨t,ver,rfl,h1,h2,h3⟩
 ·have h2:=flatE_length es
  rw [h] at h2
  have : es = []:=List.length_eq_zero_iff.1 (by simp at h2;omega)
  subst this;exact .nil
 ·have : n = es.length:=by rw [flatE_length] at h3;omega
  subst this;exact froz_edges (by omega) h2
theorem insU_permE {A : Type} {cf : A → A → Int} (h : TotC cf) (x : A) : ∀ l : List A,x ∉ l → (insU cf x l).Perm (x :: l)
 | [],_=>.refl _
 | z :: r,hx=>by
  unfold insU
  simp only [x7,not_or] at hx
  split
  ·split
   ·exact .refl _
   ·exact absurd ((h.eq0 z x).1 (by omega)) (Ne.symm hx.1)
  ·exact ((insU_permE h x r hx.2).cons z).trans (.swap _ _ _)
theorem sortU_permE {A : Type} {cf : A → A → Int} (h : TotC cf) {l : List A} (hn : l.Nodup) : (sortU cf l).Perm l:=by
 rw [← List.reverse_reverse l] at hn ⊢
 revert hn
 induction l.reverse with
 | nil=>intro _;exact .refl _
 | cons x r ih =>
  intro hn
  rw [List.reverse_cons] at hn ⊢
  rw [sortU_snoc]
  have h1:=List.nodup_append.1 hn
  have hx : x ∉ sortU cf r.reverse:=by
   rw [sortU_mem h]
   intro hm
   exact h1.2.2 x hm x (by simp) rfl
  exact (insU_permE h x _ hx).trans (((ih h1.1).cons x).trans (List.perm_append_singleton x _).symm)
theorem GR.frozP {H0 H1 : List Blk} {R : AV → List Blk → Prop} {r r' : AV} (hp : ∃ ext,H1 = H0 ++ ext) (hf : Froz H1 H0.length r r') (h : R r' H0) : GR H0 R r H1:=by
 obtain ⟨ext,rfl⟩:=hp
 exact GR.froz hf h
def edRow (n : Nat) (xss : List (List Int)) (x i : Nat) : List (Int × Int):=((List.range i).filter fun i=>(xss.getD i []).contains (x : Int)).map fun (i : Nat)=>((x : Int),(n : Int) + (i : Int))
def edX (n : Nat) (xss : List (List Int)) (x : Nat) : List (Int × Int):=(List.range x).flatMap fun x=>edRow n xss x xss.length
theorem edRow_succ (n : Nat) (xss : List (List Int)) (x i : Nat) : edRow n xss x (i + 1) = edRow n xss x i ++ (if (xss.getD i []).contains (x : Int) = true then [((x : Int),(n : Int) + (i : Int))] else []):=by
 unfold edRow
 rw [xD,List.filter_append,xB]
 congr 1
 by_cases h : (xss.getD i []).contains (x : Int) = true
 ·rw [if_pos h,List.filter_cons_of_pos (by exact h)];rfl
 ·rw [if_neg h,List.filter_cons_of_neg (by exact h)];rfl
theorem edRow_len (n : Nat) (xss : List (List Int)) (x i : Nat) : (edRow n xss x i).length ≤ i:=by
 unfold edRow;rw [List.length_map];exact Nat.le_trans (List.length_filter_le _ _) (by simp)
theorem edX_succ (n : Nat) (xss : List (List Int)) (x : Nat) : edX n xss (x + 1) = edX n xss x ++ edRow n xss x xss.length:=by
 unfold edX;rw [xD,List.flatMap_append];simp
theorem edX_len (n : Nat) (xss : List (List Int)) (x : Nat) : (edX n xss x).length ≤ x * xss.length:=by
 induction x with
 | zero=>simp [edX]
 | succ x ih =>
  rw [edX_succ,wN,Nat.succ_mul]
  have:=edRow_len n xss x xss.length
  omega
theorem edRow_mem {n : Nat} {xss : List (List Int)} {x i : Nat} {e : Int × Int} : e ∈ edRow n xss x i ↔ ∃ j : Nat,j < i ∧ (x : Int) ∈ xss.getD j [] ∧ e = ((x : Int),(n : Int) + (j : Int)):=by
 unfold edRow
 rw [wG]
 constructor
 ·rintro ⟨j,hj,rfl⟩
  rw [zT,wP] at hj
  exact ⟨j,hj.1,by simpa using hj.2,rfl⟩
 ·rintro ⟨j,h1,h2,rfl⟩
  exact ⟨j,zT.2 ⟨wP.2 h1,by simpa using h2⟩,rfl⟩
theorem cmpE_lt1 {a b c d : Int} (h : a < c) : cmpE (a,b) (c,d) < 0:=by
 unfold cmpE cmpI
 simp only
 rw [if_pos h,if_neg (by omega)];omega
theorem cmpE_lt2 {a b d : Int} (h : b < d) : cmpE (a,b) (a,d) < 0:=by
 have e : cmpI a a = 0:=(cmpI_totE.eq0 a a).2 rfl
 show (if cmpI a a = 0 then cmpI b d else cmpI a a) < 0
 rw [if_pos e]
 unfold cmpI
 rw [if_pos h];omega
theorem edX_is {n : Nat} {xss : List (List Int)} (hx : ∀ xs ∈ xss,asc 0 ((n : Int) - 1) xs = true) : edX n xss n = sortU cmpE (edI n xss):=by
 refine asc_uniq cmpE_tot ?_ (sortU_asc cmpE_tot _) (fun e=>?_)
 ·unfold Asc edX
  rw [List.pairwise_flatMap]
  refine ⟨fun x _=>?_,?_⟩
  ·unfold edRow
   rw [List.pairwise_map]
   exact (List.pairwise_lt_range.filter _).imp (fun h=>cmpE_lt2 (by omega))
  ·refine List.pairwise_lt_range.imp ?_
   intro x y hxy a ha b hb
   obtain ⟨i,_,_,rfl⟩:=edRow_mem.1 ha
   obtain ⟨j,_,_,rfl⟩:=edRow_mem.1 hb
   exact cmpE_lt1 (by omega)
 ·rw [sortU_mem cmpE_tot,edI_mem]
  unfold edX
  rw [List.mem_flatMap]
  constructor
  ·rintro ⟨x,hxn,he⟩
   obtain ⟨j,h1,h2,rfl⟩:=edRow_mem.1 he
   refine ⟨j,xss.getD j [],?_,h2,rfl⟩
   rw [qE,List.getElem?_eq_getElem h1];rfl
  ·rintro ⟨k,y,hk,h1,h2⟩
   have hkl:=(qC.1 hk).1
   have hm:=asc_mem (hx y (wD hk)) _ h1
   obtain ⟨a,b⟩:=e
   simp only at h1 h2 hm
   obtain ⟨x,rfl⟩:=Int.eq_ofNat_of_zero_le hm.1
   refine ⟨x,wP.2 (by omega),edRow_mem.2 ⟨k,hkl,?_,by rw [h2]⟩⟩
   rw [qE,hk];exact h1
def GBx (H : List Blk) (c0 c1 : List AV) (H' : List Blk) : Prop:=H'[H.length]? = some ⟨0,tyGr,1,c0⟩ ∧ H'[H.length + 1]? = some ⟨0,tyGr,1,c1⟩ ∧ H.length + 2 ≤ H'.length ∧ ∀ j,j < H.length → H'[j]? = H[j]?
theorem GBx.put {H H1 H3 : List Blk} {c0 c1 c2 : List AV} {base : Nat} (h : GBx H c0 c1 H1) (hb : H.length + 2 ≤ base) (hl : H1.length ≤ H3.length) (h3 : ∀ j,j < base → H3[j]? = H1[j]?) : GBx H c0 c2 (H3.set (H.length + 1) ⟨0,tyGr,1,c2⟩):=by
 obtain ⟨a,b,c,d⟩:=h
 refine ⟨?_,qY (by omega),by simp;omega,fun j hj=>?_⟩
 ·rw [qR (by omega),h3 _ (by omega)];exact a
 ·rw [qR (by omega),h3 _ (by omega)];exact d j hj
end Go.Proofs.YtclfmfabcnbbpaaGreat
namespace Go.Proofs.YtclfmfabcnbbpaaGreat
open Go.Av
abbrev f_laws_eqGraph : Nat:=8
def c_laws_eqGraph : SC :=
 .seq (.reg [⟨s' 2,.box 31 (t' 0),n'⟩,⟨s' 3,.box 31 (t' 1),n'⟩,⟨s' 4,.mv (.const (.bool false)),n'⟩] [2,3]) (.seq (.seq (.reg [⟨s' 5,.faddr 0 (t' 2),n'⟩,
 ⟨s' 6,.load 1 false (t' 5),n'⟩,⟨s' 7,.faddr 0 (t' 3),n'⟩,⟨s' 8,.load 1 false (t' 7),n'⟩,⟨s' 9,.call 25 [(t' 6),(t' 8)],n'⟩,⟨s' 10,.un .not (t' 9),n'⟩] [2,3,10]) (.cond (t' 10)
 (.seq (.reg [⟨s' 4,.mv (.const (.bool false)),n'⟩] [4]) (.ret)) (.skip))) (.seq (.seq (.reg [⟨s' 11,.faddr 1 (t' 2),n'⟩,⟨s' 12,.load 1 false (t' 11),n'⟩,
 ⟨s' 13,.faddr 1 (t' 3),n'⟩,⟨s' 14,.load 1 false (t' 13),n'⟩,⟨s' 15,.call 26 [(t' 12),(t' 14)],n'⟩,⟨s' 16,.un .not (t' 15),n'⟩] [16]) (.cond (t' 16) (.seq (.reg [
 ⟨s' 4,.mv (.const (.bool false)),n'⟩] [4]) (.ret)) (.skip))) (.seq (.reg [⟨s' 4,.mv (.const (.bool true)),n'⟩] [4]) (.ret))))
theorem s_laws_eqGraph : stripF Tryz.prog 8 [[2,3],[2,3,10],[4],[16],[4],[4]] = some (c_laws_eqGraph,[.tmp 4],17):=by kernel_rfl
abbrev f_laws_markGraph : Nat:=11
def c_laws_markGraph : SC :=
 .seq (.reg [⟨s' 2,.box 31 (t' 0),n'⟩,⟨s' 4,.mv (.const (.int .i64 0)),n'⟩] [1,2]) (.seq (.reg [⟨s' 5,.faddr 0 (t' 2),n'⟩,⟨s' 6,.load 1 false (t' 5),n'⟩,⟨s' 7,.mv (t' 1),n'⟩,
 ⟨s' 8,.call 31 [(t' 6),(t' 7)],n'⟩,⟨s' 1,.mv (t' 8),n'⟩] [1,2]) (.seq (.reg [⟨s' 9,.faddr 1 (t' 2),n'⟩,⟨s' 10,.load 1 false (t' 9),n'⟩,⟨s' 11,.mv (t' 1),n'⟩,
 ⟨s' 12,.call 32 [(t' 10),(t' 11)],n'⟩,⟨s' 1,.mv (t' 12),n'⟩] [1]) (.seq (.reg [⟨s' 13,.mv (t' 1),n'⟩,⟨s' 4,.mv (t' 13),n'⟩] [4]) (.ret))))
theorem s_laws_markGraph : stripF Tryz.prog 11 [[1,2],[1,2],[1],[4]] = some (c_laws_markGraph,[.tmp 4],14):=by kernel_rfl
abbrev f_laws_heldGraph : Nat:=12
def c_laws_heldGraph : SC :=
 .seq (.reg [⟨s' 2,.box 31 (t' 0),n'⟩,⟨s' 4,.mv (.const (.int .i64 0)),n'⟩] [1,2]) (.seq (.reg [⟨s' 5,.faddr 0 (t' 2),n'⟩,⟨s' 6,.load 1 false (t' 5),n'⟩,⟨s' 7,.mv (t' 1),n'⟩,
 ⟨s' 8,.call 33 [(t' 6),(t' 7)],n'⟩,⟨s' 1,.mv (t' 8),n'⟩] [1,2]) (.seq (.seq (.reg [⟨s' 9,.mv (t' 1),n'⟩,⟨s' 10,.bin .lss (t' 9) (.const (.int .i64 0)),n'⟩] [1,2,10])
 (.cond (t' 10) (.seq (.reg [⟨s' 4,.mv (.const (.int .i64 (-1))),n'⟩] [4]) (.ret)) (.skip))) (.seq (.reg [⟨s' 11,.faddr 1 (t' 2),n'⟩,⟨s' 12,.load 1 false (t' 11),n'⟩,
 ⟨s' 13,.mv (t' 1),n'⟩,⟨s' 14,.call 34 [(t' 12),(t' 13)],n'⟩,⟨s' 1,.mv (t' 14),n'⟩] [1]) (.seq (.seq (.reg [⟨s' 15,.mv (t' 1),n'⟩,
 ⟨s' 16,.bin .lss (t' 15) (.const (.int .i64 0)),n'⟩] [1,16]) (.cond (t' 16) (.seq (.reg [⟨s' 4,.mv (.const (.int .i64 (-1))),n'⟩] [4]) (.ret)) (.skip))) (.seq (.reg [
 ⟨s' 17,.mv (t' 1),n'⟩,⟨s' 4,.mv (t' 17),n'⟩] [4]) (.ret))))))
theorem s_laws_heldGraph : stripF Tryz.prog 12 [[1,2],[1,2],[1,2,10],[4],[1],[1,16],[4],[4]] = some (c_laws_heldGraph,[.tmp 4],18):=by kernel_rfl
theorem Bel_ilE (b : Nat) (es : List (Int × Int)) : Bel b (ilE es):=by
 refine .il _ _ (fun c hc=>?_)
 rw [flatE_lit] at hc
 obtain ⟨v,_,rfl⟩:=wG.1 hc
 exact .lit _
theorem eqGraph_ok (H : List Blk) (a b c d : AV) (xs ys : List Int) (es fs : List (Int × Int)) (ca : a.cell1 = true) (cb : b.cell1 = true) (cc : c.cell1 = true) (cd : d.cell1 = true) (ha : RdS H a xs) (hb : RdS H b ys) (hc : RdE H c es) (hd : RdE H d fs) (hl : es.length ≤ 2000000) :
  ACalls Tryz.prog f_laws_eqGraph [.agg [a,c],.agg [b,d]] H (fun r H'=>r = Bv (decide (xs = ys) && decide (es = fs)) ∧ H' = H):=by
 refine ACalls.introB s_laws_eqGraph (by simp) ?_;intro hB hA;unfold c_laws_eqGraph;simp (disch:=(first|omega|(simp only [go_sem];try omega))) only [go_sem,Nat.reduceAdd,Nat.reduceEqDiff,Nat.reduceLeDiff,reduceIte,w64_id,cast_succ]
 repeat (first|(with_reducible first|refine SW.seq ?_|refine q8 ?_|refine SW.rowC ?_|refine SW.skip ?_|refine SW.exit ?_|intro _|refine And.intro (by omega) ?_)|simp (disch:=(first|omega|(simp only [go_sem];try omega))) only [go_sem,Nat.reduceAdd,Nat.reduceEqDiff,Nat.reduceLeDiff,reduceIte,w64_id,cast_succ,ca,cb,cc,cd])
 refine ACalls.fn (eqInt64S_ok _ _ _ _ _ (ha.append _) (hb.append _)) ?_
 by_cases h1 : xs = ys
 ·rw [decide_eq_true h1]
  repeat (first|(with_reducible first|refine SW.seq ?_|refine q8 ?_|refine SW.rowC ?_|refine SW.skip ?_|refine SW.exit ?_|intro _|refine And.intro (by omega) ?_)|simp (disch:=(first|omega|(simp only [go_sem];try omega))) only [go_sem,Nat.reduceAdd,Nat.reduceEqDiff,Nat.reduceLeDiff,reduceIte,w64_id,cast_succ])
  refine wE rfl ?_
  repeat (first|(with_reducible first|refine SW.seq ?_|refine q8 ?_|refine SW.rowC ?_|refine SW.skip ?_|refine SW.exit ?_|intro _|refine And.intro (by omega) ?_)|simp (disch:=(first|omega|(simp only [go_sem];try omega))) only [go_sem,Nat.reduceAdd,Nat.reduceEqDiff,Nat.reduceLeDiff,reduceIte,w64_id,cast_succ])
  refine ACalls.fn (eqEdgeS_ok _ _ _ _ _ (hc.append _) (hd.append _) hl) ?_
  by_cases h2 : es = fs
  ·rw [decide_eq_true h2]
   repeat (first|(with_reducible first|refine SW.seq ?_|refine q8 ?_|refine SW.rowC ?_|refine SW.skip ?_|refine SW.exit ?_|intro _|refine And.intro (by omega) ?_)|simp (disch:=(first|omega|(simp only [go_sem];try omega))) only [go_sem,Nat.reduceAdd,Nat.reduceEqDiff,Nat.reduceLeDiff,reduceIte,w64_id,cast_succ])
   refine wE rfl ?_
   repeat (first|(with_reducible first|refine SW.seq ?_|refine q8 ?_|refine SW.rowC ?_|refine SW.skip ?_|refine SW.exit ?_|intro _|refine And.intro (by omega) ?_)|simp (disch:=(first|omega|(simp only [go_sem];try omega))) only [go_sem,Nat.reduceAdd,Nat.reduceEqDiff,Nat.reduceLeDiff,reduceIte,w64_id,cast_succ])
   refine SW.ret ?_;(try simp only [go_sem]);(first|refine qP ?_|refine qS ?_|refine qQ ?_);(try simp (disch:=(first|omega|(simp only [go_sem];try omega))) only [go_sem,Nat.reduceAdd,Nat.reduceEqDiff,Nat.reduceLeDiff,reduceIte,w64_id,cast_succ]);(first|(with_reducible refine GR.drop ?_ ?_;(simp only [go_sem,and_self,and_true,true_and,implies_true,qI,qO]))|refine GR.of ?_);refine ⟨?_,rfl⟩;(try with_reducible rfl)
  ·rw [decide_eq_false h2]
   repeat (first|(with_reducible first|refine SW.seq ?_|refine q8 ?_|refine SW.rowC ?_|refine SW.skip ?_|refine SW.exit ?_|intro _|refine And.intro (by omega) ?_)|simp (disch:=(first|omega|(simp only [go_sem];try omega))) only [go_sem,Nat.reduceAdd,Nat.reduceEqDiff,Nat.reduceLeDiff,reduceIte,w64_id,cast_succ])
   refine SW.condT rfl ?_
   repeat (first|(with_reducible first|refine SW.seq ?_|refine q8 ?_|refine SW.rowC ?_|refine SW.skip ?_|refine SW.exit ?_|intro _|refine And.intro (by omega) ?_)|simp (disch:=(first|omega|(simp only [go_sem];try omega))) only [go_sem,Nat.reduceAdd,Nat.reduceEqDiff,Nat.reduceLeDiff,reduceIte,w64_id,cast_succ])
   refine SW.ret ?_;(try simp only [go_sem]);(first|refine qP ?_|refine qS ?_|refine qQ ?_);(try simp (disch:=(first|omega|(simp only [go_sem];try omega))) only [go_sem,Nat.reduceAdd,Nat.reduceEqDiff,Nat.reduceLeDiff,reduceIte,w64_id,cast_succ]);(first|(with_reducible refine GR.drop ?_ ?_;(simp only [go_sem,and_self,and_true,true_and,implies_true,qI,qO]))|refine GR.of ?_);refine ⟨?_,rfl⟩;(try with_reducible rfl)
 ·rw [decide_eq_false h1]
  repeat (first|(with_reducible first|refine SW.seq ?_|refine q8 ?_|refine SW.rowC ?_|refine SW.skip ?_|refine SW.exit ?_|intro _|refine And.intro (by omega) ?_)|simp (disch:=(first|omega|(simp only [go_sem];try omega))) only [go_sem,Nat.reduceAdd,Nat.reduceEqDiff,Nat.reduceLeDiff,reduceIte,w64_id,cast_succ])
  refine SW.condT rfl ?_
  repeat (first|(with_reducible first|refine SW.seq ?_|refine q8 ?_|refine SW.rowC ?_|refine SW.skip ?_|refine SW.exit ?_|intro _|refine And.intro (by omega) ?_)|simp (disch:=(first|omega|(simp only [go_sem];try omega))) only [go_sem,Nat.reduceAdd,Nat.reduceEqDiff,Nat.reduceLeDiff,reduceIte,w64_id,cast_succ])
  refine SW.ret ?_;(try simp only [go_sem]);(first|refine qP ?_|refine qS ?_|refine qQ ?_);(try simp (disch:=(first|omega|(simp only [go_sem];try omega))) only [go_sem,Nat.reduceAdd,Nat.reduceEqDiff,Nat.reduceLeDiff,reduceIte,w64_id,cast_succ]);(first|(with_reducible refine GR.drop ?_ ?_;(simp only [go_sem,and_self,and_true,true_and,implies_true,qI,qO]))|refine GR.of ?_);refine ⟨?_,rfl⟩;(try with_reducible rfl)
theorem markGraph_ok (H : List Blk) (N M : Nat → Prop) (t : Nat) (k : Int) (a c : AV) (xs : List Int) (es : List (Int × Int)) (ca : a.cell1 = true) (cc : c.cell1 = true) (ha : OwnS H N t a xs) (hc : OwnE H M c es) (hNM : ∀ j,N j → ¬ M j) (hN : ¬ N H.length) (hk0 : 0 ≤ k) (hk : k ≤ 1000000) (hl1 : xs.length ≤ 2000000) (hl : es.length ≤ 2000000) :
  ACalls Tryz.prog f_laws_markGraph [.agg [a,c],I k] H (fun r H'=>r = I (k + xs.length + 2 * es.length) ∧ OwnS H' N t a (nums k xs.length) ∧ OwnE H' M c (numsE (k + xs.length) es.length) ∧ H.length ≤ H'.length ∧ ∀ j,¬ N j → ¬ M j → j < H.length → H'[j]? = H[j]?):=by
 refine ACalls.introB s_laws_markGraph (by simp) ?_;intro hB hA;unfold c_laws_markGraph;simp (disch:=(first|omega|(simp only [go_sem];try omega))) only [go_sem,Nat.reduceAdd,Nat.reduceEqDiff,Nat.reduceLeDiff,reduceIte,w64_id,cast_succ]
 repeat (first|(with_reducible first|refine SW.seq ?_|refine q8 ?_|refine SW.rowC ?_|refine SW.skip ?_|refine SW.exit ?_|intro _|refine And.intro (by omega) ?_)|simp (disch:=(first|omega|(simp only [go_sem];try omega))) only [go_sem,Nat.reduceAdd,Nat.reduceEqDiff,Nat.reduceLeDiff,reduceIte,w64_id,cast_succ,ca,cc])
 refine (markS_ok _ N t a xs k (ha.same (fun j b _ _ hb=>by rw [qN (qC.1 hb).1];exact hb)) hk0 (by omega)).mono ?_
 rintro r H2 ⟨rfl,g1,g2,g3⟩
 have hlt : ∀ j b,H[j]? = some b → j < H.length:=fun j b h=>(qC.1 h).1
 have hc2 : OwnE H2 M c es:=(hc.append [(⟨0,tyGr,1,[a,c]⟩ : Blk)]).same (fun j b hj hb=>by rw [g3 j (fun hn=>hNM j hn hj)];exact hb)
 have p2 : H2[H.length]? = some ⟨0,tyGr,1,[a,c]⟩:=by rw [g3 _ hN];simp
 repeat (first|(with_reducible first|refine SW.seq ?_|refine q8 ?_|refine SW.rowC ?_|refine SW.skip ?_|refine SW.exit ?_|intro _|refine And.intro (by omega) ?_)|simp (disch:=(first|omega|(simp only [go_sem];try omega))) only [go_sem,Nat.reduceAdd,Nat.reduceEqDiff,Nat.reduceLeDiff,reduceIte,w64_id,cast_succ,pc_alive p2,pc_ld p2])
 refine (markEdgeS_ok _ M c es (k + xs.length) hc2 (by omega) hl (by omega)).mono ?_
 rintro r H3 ⟨rfl,e1,e2,e3⟩
 repeat (first|(with_reducible first|refine SW.seq ?_|refine q8 ?_|refine SW.rowC ?_|refine SW.skip ?_|refine SW.exit ?_|intro _|refine And.intro (by omega) ?_)|simp (disch:=(first|omega|(simp only [go_sem];try omega))) only [go_sem,Nat.reduceAdd,Nat.reduceEqDiff,Nat.reduceLeDiff,reduceIte,w64_id,cast_succ])
 refine SW.ret ?_;(try simp only [go_sem]);(first|refine qP ?_|refine qS ?_|refine qQ ?_);(try simp (disch:=(first|omega|(simp only [go_sem];try omega))) only [go_sem,Nat.reduceAdd,Nat.reduceEqDiff,Nat.reduceLeDiff,reduceIte,w64_id,cast_succ])
 refine GR.of ⟨rfl,g1.same (fun j b hj _ hb=>by rw [e3 j (hNM j hj)];exact hb),e1,by rw [e2,g2];simp,fun j h1 h2 h3=>?_⟩
 rw [e3 j h2,g3 j h1,qN h3]
theorem heldGraph_ok (H : List Blk) (k : Int) (a c : AV) (n m : Nat) (ca : a.cell1 = true) (cc : c.cell1 = true) (ha : RdS H a (nums k n)) (hc : RdE H c (numsE (k + n) m)) (hk0 : 0 ≤ k) (hk : k ≤ 1000000) (hn : n ≤ 2000000) (hm : m ≤ 2000000) :
  ACalls Tryz.prog f_laws_heldGraph [.agg [a,c],I k] H (fun r H'=>r = I (k + n + 2 * m) ∧ H' = H):=by
 have d1 : decide (k + (n : Int) < 0) = false:=decide_eq_false (by omega)
 have d2 : decide (k + (n : Int) + 2 * (m : Int) < 0) = false:=decide_eq_false (by omega)
 refine ACalls.introB s_laws_heldGraph (by simp) ?_;intro hB hA;unfold c_laws_heldGraph;simp (disch:=(first|omega|(simp only [go_sem];try omega))) only [go_sem,Nat.reduceAdd,Nat.reduceEqDiff,Nat.reduceLeDiff,reduceIte,w64_id,cast_succ]
 repeat (first|(with_reducible first|refine SW.seq ?_|refine q8 ?_|refine SW.rowC ?_|refine SW.skip ?_|refine SW.exit ?_|intro _|refine And.intro (by omega) ?_)|simp (disch:=(first|omega|(simp only [go_sem];try omega))) only [go_sem,Nat.reduceAdd,Nat.reduceEqDiff,Nat.reduceLeDiff,reduceIte,w64_id,cast_succ,ca,cc])
 refine ACalls.fn (heldInt64S_ok _ a n k (ha.append _) hk0 (by omega)) ?_
 repeat (first|(with_reducible first|refine SW.seq ?_|refine q8 ?_|refine SW.rowC ?_|refine SW.skip ?_|refine SW.exit ?_|intro _|refine And.intro (by omega) ?_)|simp (disch:=(first|omega|(simp only [go_sem];try omega))) only [go_sem,Nat.reduceAdd,Nat.reduceEqDiff,Nat.reduceLeDiff,reduceIte,w64_id,cast_succ,d1])
 refine wE rfl ?_
 repeat (first|(with_reducible first|refine SW.seq ?_|refine q8 ?_|refine SW.rowC ?_|refine SW.skip ?_|refine SW.exit ?_|intro _|refine And.intro (by omega) ?_)|simp (disch:=(first|omega|(simp only [go_sem];try omega))) only [go_sem,Nat.reduceAdd,Nat.reduceEqDiff,Nat.reduceLeDiff,reduceIte,w64_id,cast_succ])
 refine ACalls.fn (heldEdgeS_ok _ c m (k + n) (hc.append _) (by omega) hm (by omega)) ?_
 repeat (first|(with_reducible first|refine SW.seq ?_|refine q8 ?_|refine SW.rowC ?_|refine SW.skip ?_|refine SW.exit ?_|intro _|refine And.intro (by omega) ?_)|simp (disch:=(first|omega|(simp only [go_sem];try omega))) only [go_sem,Nat.reduceAdd,Nat.reduceEqDiff,Nat.reduceLeDiff,reduceIte,w64_id,cast_succ,d2])
 refine wE rfl ?_
 repeat (first|(with_reducible first|refine SW.seq ?_|refine q8 ?_|refine SW.rowC ?_|refine SW.skip ?_|refine SW.exit ?_|intro _|refine And.intro (by omega) ?_)|simp (disch:=(first|omega|(simp only [go_sem];try omega))) only [go_sem,Nat.reduceAdd,Nat.reduceEqDiff,Nat.reduceLeDiff,reduceIte,w64_id,cast_succ])
 refine SW.ret ?_;(try simp only [go_sem]);(first|refine qP ?_|refine qS ?_|refine qQ ?_);(try simp (disch:=(first|omega|(simp only [go_sem];try omega))) only [go_sem,Nat.reduceAdd,Nat.reduceEqDiff,Nat.reduceLeDiff,reduceIte,w64_id,cast_succ]);(first|(with_reducible refine GR.drop ?_ ?_;(simp only [go_sem,and_self,and_true,true_and,implies_true,qI,qO]))|refine GR.of ?_);refine ⟨?_,rfl⟩;(try with_reducible rfl)
end Go.Proofs.YtclfmfabcnbbpaaGreat
namespace Go.Proofs.YtclfmfabcnbbpaaGreat
open Go.Av
theorem OwnS.oneG {H : List Blk} {N : Nat → Prop} {t : Nat} {c : AV} {xs : List Int} (h : OwnS H N t c xs) : c.cell1 = true ∧ partsOf c = [c]:=by
 rcases h with ⟨r,ver,ty,rfl,_⟩|⟨_,rfl|rfl⟩ <;> exact ⟨rfl,rfl⟩
theorem OwnS.appG {H : List Blk} {N : Nat → Prop} {t : Nat} {c : AV} {xs : List Int} (h : OwnS H N t c xs) (ext : List Blk) : OwnS (H ++ ext) N t c xs :=
 h.same (fun j b _ _ hb=>by rw [qN (qC.1 hb).1];exact hb)
theorem OwnE.ov {H : List Blk} {N : Nat → Prop} {c : AV} {es : List (Int × Int)} (h : OwnE H N c es) : OV c:=by
 rcases h with ⟨r,ver,ty,rfl,_⟩|⟨_,rfl|rfl⟩
 ·exact .nm _ _ _ _
 ·exact .lit _
 ·exact .nil
theorem flatE_vals (es : List (Int × Int)) : flatE es = (es.flatMap fun e=>[e.1,e.2]).map I:=by
 induction es with
 | nil=>rfl
 | cons e es ih=>simp only [List.flatMap_cons,xB,← ih];rfl
theorem OwnE.sh {H H0 : List Blk} {N N' : Nat → Prop} {c : AV} {es : List (Int × Int)} (h : OwnE H0 N c es) (hN : ∀ i,N i → N' (H.length + i)) : OwnE (H ++ H0.map (shB H.length)) N' (Go.Av.sh H.length c) es:=by
 rcases h with ⟨r,ver,ty,rfl,h1,h3⟩|⟨rfl,rfl|rfl⟩
 ·refine .inl ⟨H.length + r,ver,ty,sh_nm _ _ _ _ _,hN _ h1,?_⟩
  rw [hget,List.getElem?_map,h3]
  simp only [Option.map_some]
  rw [flatE_vals,shB_cells (ov_I _),sh_I]
 ·exact .inr ⟨rfl,.inl (sh_nil _)⟩
 ·exact .inr ⟨rfl,.inr (sh_il _ _ _)⟩
theorem gr_lend {H : List Blk} {f : Nat} {args args' : List AV} {V : (List Int × List (Int × Int)) × Int} (h : ACalls Tryz.prog f args' [] (GrR [] V)) (hf : Frozs H args args') :
  ACalls Tryz.prog f args H (GrR H V):=by
 refine (h.lend hf ?_).mono ?_
 ·rintro r H0 ⟨ext,v,u,q,rfl,rfl,_,_,ho,hu⟩
  refine .tup _ (fun c hc=>?_)
  simp only [x7,yU,or_false] at hc
  rcases hc with rfl|rfl
  ·refine .agg _ (fun c hc=>?_)
   simp only [x7,yU,or_false] at hc
   rcases hc with rfl|rfl
   ·exact ho.ov
   ·exact hu.ov
  ·exact .I _
 ·rintro r H' ⟨r0,H0,⟨ext,v,u,q,rfl,rfl,h1,h2,ho,hu⟩,rfl,rfl⟩
  refine ⟨_,sh H.length v,sh H.length u,H.length + q,rfl,?_,by omega,?_,?_,hu.sh (H:=H) (N':=Btw (H.length + q) (H ++ _).length) (fun i hi=>?_)⟩
  ·simp [sh_tup,sh_agg,sh_In]
  ·simp at h2 ⊢;omega
  ·have:=ho.sh (H:=H) (N':=Btw H.length (H.length + q)) (fun i hi=>by unfold Btw at hi ⊢;simp at hi ⊢;omega)
   simpa using this
  ·unfold Btw at hi ⊢
   simp at hi ⊢;omega
end Go.Proofs.YtclfmfabcnbbpaaGreat