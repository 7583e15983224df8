/- Slices of slices of the call's own: marked, held. -/
import Derived.Test.YtclfmfabcnbbpaaGreatProg
import Derived.KernelRfl
import Derived.Test.YtclfmfabcnbbpaaGreatzL1
import Derived.Test.YtclfmfabcnbbpaaGreatzAvC
set_option linter.unusedSimpArgs false
set_option linter.unusedVariables false
set_option maxHeartbeats 4000000
set_option maxRecDepth 100000
open Go.Operand renaming tmp→t'
open Option renaming none→n',some→s'
open List renaming getElem?_append_left→qN,getElem?_eq_some_iff→qC,range→w7,take_add_one→xO,getElem?_eq_getElem→qB,map_append→xB,take_succ_cons→qI,length_cons→qD,getElem?_cons_succ→q9,getElem?_take_of_lt→xQ,getElem?_append_right→qV,getElem?_eq_none→wZ,map_cons→qJ,map_nil→qM,length_nil→qF,getElem?_cons_zero→qA,getElem?_set_ne→qR,getElem?_set_self→qY,ext_getElem?→xU,take_of_length_le→qW,drop_zero→x8,getElem?_map→qX,append_assoc→wV,take_length→wW,replicate→qT,set_append_right→x6,replicate_succ→y8,set_cons_zero→xG,cons_append→y7
open Nat renaming zero_ne_one→qG,one_ne_zero→qH,zero_add→qK,add_zero→qL,sub_self→wS,min_eq_left→yF
open Go.Av.SW renaming block→q8
open Go.Av.FunPost renaming one→qP
open Go.Av.SLoop renaming next→wB
open Int renaming natCast_add→zS,toNat_natCast→wA
namespace Go.Proofs.YtclfmfabcnbbpaaGreat
open Go.Av
abbrev f_laws_markInt64SS : Nat:=30
def c_laws_markInt64SS : SC :=
 .seq (.reg [⟨s' 4,.mv (.const (.int .i64 0)),n'⟩] [0,1]) (.seq (.seq (.reg [⟨s' 5,.mv (.const (.int .i64 0)),n'⟩] [0,1,5]) (.block 0 (.loop [0,1,5] (.seq (.seq (.reg [
 ⟨s' 6,.mv (t' 5),n'⟩,⟨s' 7,.mv (t' 0),n'⟩,⟨s' 8,.len (t' 7),n'⟩,⟨s' 9,.bin .lss (t' 6) (t' 8),n'⟩] [0,1,5,9]) (.cond (t' 9) (.skip) (.exit 0))) (.seq (.block 1 (.reg [
 ⟨s' 12,.mv (t' 0),n'⟩,⟨s' 13,.mv (t' 5),n'⟩,⟨s' 14,.iaddr 1 (t' 12) (t' 13),n'⟩,⟨s' 15,.load 1 false (t' 14),n'⟩,⟨s' 16,.mv (t' 1),n'⟩,⟨s' 17,.call 31 [(t' 15),(t' 16)],n'⟩,
 ⟨s' 1,.mv (t' 17),n'⟩] [0,1,5])) (.reg [⟨s' 10,.mv (t' 5),n'⟩,⟨s' 11,.bin .add (t' 10) (.const (.int .i64 1)),n'⟩,⟨s' 5,.mv (t' 11),n'⟩] [0,1,5])))))) (.seq (.reg [
 ⟨s' 18,.mv (t' 1),n'⟩,⟨s' 4,.mv (t' 18),n'⟩] [4]) (.ret)))
theorem s_laws_markInt64SS : stripF Tryz.prog 30 [[0,1],[0,1,5],[0,1,5],[0,1,5,9],[0,1,5],[0,1,5],[4]] = some (c_laws_markInt64SS,[.tmp 4],19):=by kernel_rfl
def OwnS (H : List Blk) (N : Nat → Prop) (t : Nat) (c : AV) (xs : List Int) : Prop :=
 (∃ r ver ty,c = .nm r ver 0 xs.length ∧ N r ∧ r ≠ t ∧ H[r]? = some ⟨ver,ty,1,xs.map I⟩) ∨ (xs = [] ∧ (c = nilS ∨ c = .il 0 []))
def Fr (b : Nat) : Nat → Prop:=fun r=>b ≤ r
def Btw (b t : Nat) : Nat → Prop:=fun r=>b ≤ r ∧ r < t
def OwnC (H : List Blk) (N : Nat → Prop) (t ver ty : Nat) (cells : List AV) (xss : List (List Int)) : Prop :=
 N t ∧ H[t]? = some ⟨ver,ty,1,cells⟩ ∧ cells.length = xss.length ∧ (∀ (j : Nat) (c : AV) (xs : List Int),cells[j]? = some c → xss[j]? = some xs → OwnS H N t c xs) ∧
 (∀ (i j r v o l v' o' l' : Nat),i ≠ j → cells[i]? = some (.nm r v o l) → cells[j]? ≠ some (.nm r v' o' l'))
def OwnSS (H : List Blk) (N : Nat → Prop) (a : AV) (xss : List (List Int)) : Prop:=(∃ t ver ty cells,a = .nm t ver 0 xss.length ∧ OwnC H N t ver ty cells xss) ∨ (xss = [] ∧ (a = nilS ∨ a = .il 0 []))
theorem OwnS.rd {H : List Blk} {N : Nat → Prop} {t : Nat} {c : AV} {xs : List Int} (h : OwnS H N t c xs) : RdS H c xs:=by
 rcases h with ⟨r,ver,ty,rfl,_,_,h3⟩|⟨rfl,rfl|rfl⟩
 ·exact view_nm h3 (by simp)
 ·rfl
 ·rfl
theorem OwnC.rd {H : List Blk} {N : Nat → Prop} {t ver ty : Nat} {cells : List AV} {xss : List (List Int)} (h : OwnC H N t ver ty cells xss) : RdSS H (.nm t ver 0 xss.length) xss :=
 ⟨cells,view_nm h.2.1 h.2.2.1,h.2.2.1,fun j c xs g1 g2=>(h.2.2.2.1 j c xs g1 g2).rd⟩
theorem OwnSS.rd {H : List Blk} {N : Nat → Prop} {a : AV} {xss : List (List Int)} (h : OwnSS H N a xss) : RdSS H a xss:=by
 rcases h with ⟨t,ver,ty,cells,rfl,h⟩|⟨rfl,rfl|rfl⟩
 ·exact h.rd
 ·exact ⟨[],rfl,rfl,fun j c xs h=>by simp at h⟩
 ·exact ⟨[],rfl,rfl,fun j c xs h=>by simp at h⟩
theorem OwnC.append {H : List Blk} {N : Nat → Prop} {t ver ty : Nat} {cells : List AV} {xss : List (List Int)} (h : OwnC H N t ver ty cells xss) (ext : List Blk) : OwnC (H ++ ext) N t ver ty cells xss:=by
 obtain ⟨h1,h2,h3,h4,h5⟩:=h
 have ap : ∀ {r : Nat} {b : Blk},H[r]? = some b → (H ++ ext)[r]? = some b:=by
  intro r b hr
  rw [qN (qC.1 hr).1];exact hr
 refine ⟨h1,ap h2,h3,fun j c xs g1 g2=>?_,h5⟩
 rcases h4 j c xs g1 g2 with ⟨r,v,ty',hc,o1,o2,o3⟩|h
 ·exact .inl ⟨r,v,ty',hc,o1,o2,ap o3⟩
 ·exact .inr h
theorem OwnSS.append {H : List Blk} {N : Nat → Prop} {a : AV} {xss : List (List Int)} (h : OwnSS H N a xss) (ext : List Blk) : OwnSS (H ++ ext) N a xss:=by
 rcases h with ⟨t,ver,ty,cells,ha,h⟩|h
 ·exact .inl ⟨t,ver,ty,cells,ha,h.append ext⟩
 ·exact .inr h
def total (xss : List (List Int)) : Nat:=(xss.map List.length).sum
def numbered (k : Int) : List (List Int) → List (List Int)
 | []=>[]
 | xs :: r=>(w7 xs.length).map (fun (q : Nat)=>k + (q : Int)) :: numbered (k + xs.length) r
theorem numbered_length (k : Int) (xss : List (List Int)) : (numbered k xss).length = xss.length:=by
 induction xss generalizing k with
 | nil=>rfl
 | cons xs r ih=>simp [numbered,ih]
theorem total_cons (xs : List Int) (r : List (List Int)) : total (xs :: r) = xs.length + total r:=by simp [total]
theorem total_take_succ (xss : List (List Int)) {i : Nat} (h : i < xss.length) : total (xss.take (i + 1)) = total (xss.take i) + xss[i].length:=by
 unfold total
 rw [xO,qB h,xB,List.sum_append]
 simp
theorem total_take_le (xss : List (List Int)) (i : Nat) : total (xss.take i) ≤ total xss:=by
 induction xss generalizing i with
 | nil=>simp
 | cons xs r ih=>cases i with
  | zero=>simp [total]
  | succ i=>simp only [qI,total_cons];have:=ih i;omega
theorem numbered_get (k : Int) (xss : List (List Int)) {i : Nat} (h : i < xss.length) : (numbered k xss)[i]? = some ((w7 xss[i].length).map (fun (q : Nat)=>(k + total (xss.take i)) + (q : Int))):=by
 induction xss generalizing k i with
 | nil=>simp at h
 | cons xs r ih =>
  cases i with
  | zero=>simp [numbered,total]
  | succ i =>
   simp only [qD] at h
   simp only [numbered,q9,List.getElem_cons_succ,qI,total_cons]
   rw [ih (k + xs.length) (by omega)]
   have : k + (xs.length : Int) + (total (r.take i) : Int) = k + ((xs.length + total (r.take i) : Nat) : Int):=by omega
   rw [this]
def mss (k : Int) (xss : List (List Int)) (i : Nat) : List (List Int):=(numbered k xss).take i ++ xss.drop i
theorem mss_length (k : Int) (xss : List (List Int)) (i : Nat) : (mss k xss i).length = xss.length:=by
 unfold mss;simp [numbered_length];omega
theorem mss_get_lt (k : Int) (xss : List (List Int)) {i j : Nat} (h : j < i) : (mss k xss i)[j]? = (numbered k xss)[j]?:=by
 unfold mss
 by_cases hj : j < xss.length
 ·rw [qN (by simp [numbered_length];omega),xQ h]
 ·rw [qV (by simp [numbered_length];omega),wZ (by simp [numbered_length];omega),wZ (by rw [numbered_length];omega)]
theorem mss_get_ge (k : Int) (xss : List (List Int)) {i j : Nat} (hi : i ≤ xss.length) (h : i ≤ j) : (mss k xss i)[j]? = xss[j]?:=by
 unfold mss
 have hl : ((numbered k xss).take i).length = i:=by simp [numbered_length];omega
 rw [qV (by omega),List.getElem?_drop,hl]
 congr 1;omega
theorem markInt64S_nil (H : List Blk) (c : AV) (k : Int) (hc : aview H c = some (0,[])) :
  ACalls Tryz.prog f_laws_markInt64S [c,I k] H (fun v H'=>v = I k ∧ H' = H):=by
 refine ACalls.intro s_laws_markInt64S (by simp) ?_
 refine SW.seq ?_;refine SW.row ?_;simp only [go_sem,Nat.reduceAdd,Nat.reduceEqDiff,Nat.reduceLeDiff,reduceIte,qG,qH,qK,qL,qJ,qM,qD,qF,decide_true,decide_false,Bool.not_true,Bool.not_false,true_and,and_true,ne_eq,not_true_eq_false,not_false_eq_true,forall_const,qA,q9]
 refine SW.seq ?_;refine SW.seq ?_;refine SW.row ?_;simp only [go_sem,Nat.reduceAdd,Nat.reduceEqDiff,Nat.reduceLeDiff,reduceIte,qG,qH,qK,qL,qJ,qM,qD,qF,decide_true,decide_false,Bool.not_true,Bool.not_false,true_and,and_true,ne_eq,not_true_eq_false,not_false_eq_true,forall_const,qA,q9]
 refine q8 ?_
 refine SW.loop (fun q E H'=>q = 0 ∧ E = [(0,c),(1,I k),(5,I 0)] ∧ H' = H) 0 ⟨rfl,rfl,rfl⟩ ?_
 rintro q E H' ⟨rfl,rfl,rfl⟩
 refine SW.seq ?_;refine SW.seq ?_;refine SW.row ?_;simp only [go_sem,Nat.reduceAdd,Nat.reduceEqDiff,Nat.reduceLeDiff,reduceIte,qG,qH,qK,qL,qJ,qM,qD,qF,decide_true,decide_false,Bool.not_true,Bool.not_false,true_and,and_true,ne_eq,not_true_eq_false,not_false_eq_true,forall_const,qA,q9,hc];(first|refine SW.cond rfl (fun h=>?_) (fun h=>?_)|(intro _;refine SW.cond rfl (fun h=>?_) (fun h=>?_))|(intro _ _;refine SW.cond rfl (fun h=>?_) (fun h=>?_)))
 ·simp at h
 ·refine SW.exit ?_;simp only [go_sem,Nat.reduceAdd,Nat.reduceEqDiff,Nat.reduceLeDiff,reduceIte,qG,qH,qK,qL,qJ,qM,qD,qF,decide_true,decide_false,Bool.not_true,Bool.not_false,true_and,and_true,ne_eq,not_true_eq_false,not_false_eq_true,forall_const,qA,q9]
  refine SW.seq ?_;refine SW.row ?_;simp only [go_sem,Nat.reduceAdd,Nat.reduceEqDiff,Nat.reduceLeDiff,reduceIte,qG,qH,qK,qL,qJ,qM,qD,qF,decide_true,decide_false,Bool.not_true,Bool.not_false,true_and,and_true,ne_eq,not_true_eq_false,not_false_eq_true,forall_const,qA,q9]
  refine SW.ret ?_;(try simp only [go_sem]);refine qP (GR.of ?_);(try simp only [go_sem,Nat.reduceAdd,Nat.reduceEqDiff,Nat.reduceLeDiff,reduceIte,qG,qH,qK,qL,qJ,qM,qD,qF,decide_true,decide_false,Bool.not_true,Bool.not_false,true_and,and_true,ne_eq,not_true_eq_false,not_false_eq_true,forall_const,qA,q9])
theorem OwnC.set {H : List Blk} {N : Nat → Prop} {t ver ty : Nat} {cells : List AV} {xss yss : List (List Int)} (h : OwnC H N t ver ty cells xss) {i r v ty' : Nat} {xs ys : List Int} (hi : cells[i]? = some (.nm r v 0 xs.length)) (hx : xss[i]? = some xs) (hr : H[r]? = some ⟨v,ty',1,xs.map I⟩)
  (hl : ys.length = xs.length) (hy : yss[i]? = some ys) (hyl : yss.length = xss.length) (hyo : ∀ j,j ≠ i → yss[j]? = xss[j]?) (hrt : r ≠ t) : OwnC (H.set r ⟨v,ty',1,ys.map I⟩) N t ver ty cells yss:=by
 obtain ⟨h1,h2,h3,h4,h5⟩:=h
 have hlt:=(qC.1 hr).1
 refine ⟨h1,by rw [qR hrt];exact h2,by rw [h3,hyl],fun j c zs g1 g2=>?_,h5⟩
 by_cases hji : j = i
 ·subst hji
  rw [hi] at g1;cases g1
  rw [hy] at g2;cases g2
  rcases h4 j _ _ hi hx with ⟨r',v',ty2,hc,o1,o2,o3⟩|⟨_,hc|hc⟩
  ·simp only [AV.nm.injEq] at hc
   obtain ⟨rfl,rfl,_⟩:=hc
   exact .inl ⟨r,v,ty',by rw [hl],o1,o2,qY hlt⟩
  ·simp [nilS] at hc
  ·simp at hc
 ·rw [hyo j hji] at g2
  rcases h4 j c zs g1 g2 with ⟨r',v',ty2,hc,o1,o2,o3⟩|h
  ·refine .inl ⟨r',v',ty2,hc,o1,o2,?_⟩
   have : r ≠ r':=by
    rintro rfl
    rw [hc] at g1
    exact h5 i j r v 0 xs.length v' 0 zs.length (Ne.symm hji) hi g1
   rw [qR this];exact o3
  ·exact .inr h
theorem markInt64SS_ok (H : List Blk) (N : Nat → Prop) (a : AV) (xss : List (List Int)) (k : Int) (ha : OwnSS H N a xss) (hk0 : 0 ≤ k) (hk : k + total xss ≤ 4611686018427387904) :
  ACalls Tryz.prog f_laws_markInt64SS [a,I k] H (fun v H'=>v = I (k + total xss) ∧ OwnSS H' N a (numbered k xss) ∧ H'.length = H.length ∧ ∀ j,¬ N j → H'[j]? = H[j]?):=by
 rcases ha with ⟨t,ver,ty,cells,rfl,hown⟩|⟨rfl,hnil⟩
 case inr =>
  have hv : aview H a = some (0,[]):=by rcases hnil with rfl|rfl <;> rfl
  refine ACalls.intro s_laws_markInt64SS (by simp) ?_
  refine SW.seq ?_;refine SW.row ?_;simp only [go_sem,Nat.reduceAdd,Nat.reduceEqDiff,Nat.reduceLeDiff,reduceIte,qG,qH,qK,qL,qJ,qM,qD,qF,decide_true,decide_false,Bool.not_true,Bool.not_false,true_and,and_true,ne_eq,not_true_eq_false,not_false_eq_true,forall_const,qA,q9]
  refine SW.seq ?_;refine SW.seq ?_;refine SW.row ?_;simp only [go_sem,Nat.reduceAdd,Nat.reduceEqDiff,Nat.reduceLeDiff,reduceIte,qG,qH,qK,qL,qJ,qM,qD,qF,decide_true,decide_false,Bool.not_true,Bool.not_false,true_and,and_true,ne_eq,not_true_eq_false,not_false_eq_true,forall_const,qA,q9]
  refine q8 ?_
  refine SW.loop (fun q E H'=>q = 0 ∧ E = [(0,a),(1,I k),(5,I 0)] ∧ H' = H) 0 ⟨rfl,rfl,rfl⟩ ?_
  rintro q E H' ⟨rfl,rfl,rfl⟩
  refine SW.seq ?_;refine SW.seq ?_;refine SW.row ?_;simp only [go_sem,Nat.reduceAdd,Nat.reduceEqDiff,Nat.reduceLeDiff,reduceIte,qG,qH,qK,qL,qJ,qM,qD,qF,decide_true,decide_false,Bool.not_true,Bool.not_false,true_and,and_true,ne_eq,not_true_eq_false,not_false_eq_true,forall_const,qA,q9,hv];(first|refine SW.cond rfl (fun h=>?_) (fun h=>?_)|(intro _;refine SW.cond rfl (fun h=>?_) (fun h=>?_))|(intro _ _;refine SW.cond rfl (fun h=>?_) (fun h=>?_)))
  ·simp at h
  ·refine SW.exit ?_;simp only [go_sem,Nat.reduceAdd,Nat.reduceEqDiff,Nat.reduceLeDiff,reduceIte,qG,qH,qK,qL,qJ,qM,qD,qF,decide_true,decide_false,Bool.not_true,Bool.not_false,true_and,and_true,ne_eq,not_true_eq_false,not_false_eq_true,forall_const,qA,q9]
   refine SW.seq ?_;refine SW.row ?_;simp only [go_sem,Nat.reduceAdd,Nat.reduceEqDiff,Nat.reduceLeDiff,reduceIte,qG,qH,qK,qL,qJ,qM,qD,qF,decide_true,decide_false,Bool.not_true,Bool.not_false,true_and,and_true,ne_eq,not_true_eq_false,not_false_eq_true,forall_const,qA,q9]
   refine SW.ret ?_
   refine qP (GR.of ?_)
   exact ⟨by simp [aget,total],.inr ⟨rfl,hnil⟩,rfl,fun _ _=>rfl⟩
 refine ACalls.intro s_laws_markInt64SS (by simp) ?_
 refine SW.seq ?_;refine SW.row ?_;simp only [go_sem,Nat.reduceAdd,Nat.reduceEqDiff,Nat.reduceLeDiff,reduceIte,qG,qH,qK,qL,qJ,qM,qD,qF,decide_true,decide_false,Bool.not_true,Bool.not_false,true_and,and_true,ne_eq,not_true_eq_false,not_false_eq_true,forall_const,qA,q9]
 refine SW.seq ?_;refine SW.seq ?_;refine SW.row ?_;simp only [go_sem,Nat.reduceAdd,Nat.reduceEqDiff,Nat.reduceLeDiff,reduceIte,qG,qH,qK,qL,qJ,qM,qD,qF,decide_true,decide_false,Bool.not_true,Bool.not_false,true_and,and_true,ne_eq,not_true_eq_false,not_false_eq_true,forall_const,qA,q9]
 refine q8 ?_
 refine SW.loop (fun q E H'=>∃ i : Nat,i ≤ xss.length ∧ q = xss.length - i ∧ E = [(0,.nm t ver 0 xss.length),(1,I (k + total (xss.take i))),(5,I i)] ∧ OwnC H' N t ver ty cells (mss k xss i) ∧ H'.length = H.length ∧ ∀ j,¬ N j → H'[j]? = H[j]?) xss.length
  ⟨0,by omega,by omega,by simp [total];rfl,by simpa [mss] using hown,rfl,fun _ _=>rfl⟩ ?_
 rintro q E H' ⟨i,hi,rfl,rfl,hc,hlen,hold⟩
 have hv : aview H' (.nm t ver 0 xss.length) = some (xss.length,cells):=view_nm hc.2.1 (by rw [hc.2.2.1,mss_length])
 have hcl : cells.length = xss.length:=by rw [hc.2.2.1,mss_length]
 refine SW.seq ?_;refine SW.seq ?_;refine SW.row ?_;simp only [go_sem,Nat.reduceAdd,Nat.reduceEqDiff,Nat.reduceLeDiff,reduceIte,qG,qH,qK,qL,qJ,qM,qD,qF,decide_true,decide_false,Bool.not_true,Bool.not_false,true_and,and_true,ne_eq,not_true_eq_false,not_false_eq_true,forall_const,qA,q9,hv];(first|refine SW.cond rfl (fun h=>?_) (fun h=>?_)|(intro _;refine SW.cond rfl (fun h=>?_) (fun h=>?_))|(intro _ _;refine SW.cond rfl (fun h=>?_) (fun h=>?_)))
 ·have hx : i < xss.length:=by simpa using h
  have hci : cells[i]? = some cells[i]:=qB (by omega)
  have hxi : (mss k xss i)[i]? = some xss[i]:=by rw [mss_get_ge k xss (by omega) (Nat.le_refl _),qB hx]
  have htot:=total_take_succ xss hx
  have htl:=total_take_le xss (i + 1)
  have hni:=numbered_get k xss hx
  have hmi : (mss k xss (i + 1))[i]? = some ((w7 xss[i].length).map (fun (q : Nat)=>(k + total (xss.take i)) + (q : Int))):=by
   rw [mss_get_lt k xss (Nat.lt_succ_self i),hni]
  have hmo : ∀ j,j ≠ i → (mss k xss (i + 1))[j]? = (mss k xss i)[j]?:=by
   intro j hj
   by_cases hji : j < i
   ·rw [mss_get_lt k xss (by omega),mss_get_lt k xss hji]
   ·rw [mss_get_ge k xss (by omega) (by omega),mss_get_ge k xss (by omega) (by omega)]
  refine SW.skip ?_;simp only [go_sem,Nat.reduceAdd,Nat.reduceEqDiff,Nat.reduceLeDiff,reduceIte,qG,qH,qK,qL,qJ,qM,qD,qF,decide_true,decide_false,Bool.not_true,Bool.not_false,true_and,and_true,ne_eq,not_true_eq_false,not_false_eq_true,forall_const,qA,q9]
  refine SW.seq ?_;refine q8 ?_;refine SW.row ?_;simp only [go_sem,Nat.reduceAdd,Nat.reduceEqDiff,Nat.reduceLeDiff,reduceIte,qG,qH,qK,qL,qJ,qM,qD,qF,decide_true,decide_false,Bool.not_true,Bool.not_false,true_and,and_true,ne_eq,not_true_eq_false,not_false_eq_true,forall_const,qA,q9,idxc hv hx,ldc hv hci]
  refine ACalls.mono (R:=fun v H2=>v = I (k + total (xss.take i) + xss[i].length) ∧ OwnC H2 N t ver ty cells (mss k xss (i + 1)) ∧ H2.length = H.length ∧ ∀ j,¬ N j → H2[j]? = H[j]?) ?_ ?_
  ·rcases hc.2.2.2.1 i _ _ hci hxi with ⟨r,v,ty',hcc,o1,o2,o3⟩|⟨hnil,hcc⟩
   ·rw [hcc]
    refine (markInt64S_ok H' r v ty' xss[i] _ o3 (by omega) (by omega)).mono ?_
    rintro v2 H2 ⟨rfl,rfl⟩
    refine ⟨rfl,?_,by simp [hlen],?_⟩
    ·exact hc.set (by rw [← hcc];exact hci) hxi o3 (by simp) hmi (by rw [mss_length,mss_length]) hmo o2
    ·intro j hj
     rw [qR (by rintro rfl;exact hj o1)];exact hold j hj
   ·refine (markInt64S_nil H' _ _ (by rcases hcc with hcc|hcc <;> rw [hcc] <;> rfl)).mono ?_
    rintro v2 H2 ⟨rfl,rfl⟩
    refine ⟨by rw [hnil];simp,?_,hlen,hold⟩
    have : mss k xss (i + 1) = mss k xss i:=by
     apply xU
     intro j
     by_cases hj : j = i
     ·subst hj;rw [hmi,hxi,hnil];rfl
     ·exact hmo j hj
    rw [this];exact hc
  ·rintro v H2 ⟨rfl,g1,g2,g3⟩
   simp only [go_sem,Nat.reduceAdd,Nat.reduceEqDiff,Nat.reduceLeDiff,reduceIte,qG,qH,qK,qL,qJ,qM,qD,qF,decide_true,decide_false,Bool.not_true,Bool.not_false,true_and,and_true,ne_eq,not_true_eq_false,not_false_eq_true,forall_const,qA,q9]
   refine SW.row ?_;simp only [go_sem,Nat.reduceAdd,Nat.reduceEqDiff,Nat.reduceLeDiff,reduceIte,qG,qH,qK,qL,qJ,qM,qD,qF,decide_true,decide_false,Bool.not_true,Bool.not_false,true_and,and_true,ne_eq,not_true_eq_false,not_false_eq_true,forall_const,qA,q9,w64_id (show -9223372036854775808 ≤ (i : Int) + 1 by omega) (show (i : Int) + 1 ≤ 9223372036854775807 by have:=hcl;omega)]
   refine wB (xss.length - (i + 1)) (by omega) ⟨i + 1,by omega,rfl,?_,g1,g2,g3⟩
   simp only [go_sem,Nat.reduceAdd,Nat.reduceEqDiff,Nat.reduceLeDiff,reduceIte,qG,qH,qK,qL,qJ,qM,qD,qF,decide_true,decide_false,Bool.not_true,Bool.not_false,true_and,and_true,ne_eq,not_true_eq_false,not_false_eq_true,forall_const,qA,q9]
   rw [htot,zS,← Int.add_assoc,zS];rfl
 ·have hx : i = xss.length:=by
   have : ¬ i < xss.length:=by simpa using h
   omega
  subst hx
  refine SW.exit ?_;simp only [go_sem,Nat.reduceAdd,Nat.reduceEqDiff,Nat.reduceLeDiff,reduceIte,qG,qH,qK,qL,qJ,qM,qD,qF,decide_true,decide_false,Bool.not_true,Bool.not_false,true_and,and_true,ne_eq,not_true_eq_false,not_false_eq_true,forall_const,qA,q9]
  refine SW.seq ?_;refine SW.row ?_;simp only [go_sem,Nat.reduceAdd,Nat.reduceEqDiff,Nat.reduceLeDiff,reduceIte,qG,qH,qK,qL,qJ,qM,qD,qF,decide_true,decide_false,Bool.not_true,Bool.not_false,true_and,and_true,ne_eq,not_true_eq_false,not_false_eq_true,forall_const,qA,q9]
  refine SW.ret ?_
  refine qP (GR.of ?_)
  refine ⟨by simp [aget],.inl ⟨t,ver,ty,cells,by rw [numbered_length],?_⟩,hlen,hold⟩
  have : mss k xss xss.length = numbered k xss:=by
   unfold mss;rw [List.drop_length,List.append_nil];apply qW;rw [numbered_length];exact Nat.le_refl _
  rw [← this];exact hc
def ilS (xs : List Int) : AV:=.il xs.length (xs.map I)
def ilSS (xss : List (List Int)) : AV:=.il xss.length (xss.map ilS)
theorem froz_I (H : List Blk) (base : Nat) (n : Int) : Froz H base (I n) (I n):=.old _ (.lit _)
theorem froz_row {H : List Blk} {base r ver ty : Nat} {xs : List Int} (hb : base ≤ r) (hr : H[r]? = some ⟨ver,ty,1,xs.map I⟩) : Froz H base (.nm r ver 0 xs.length) (ilS xs):=by
 have hc : ((xs.map I).drop 0).take (xs.length * 1) = xs.map I:=by rw [x8,Nat.mul_one];apply qW;simp
 refine .nm r ver 0 xs.length _ _ hb hr rfl (by simp only [hc]) ?_
 intro j c c' h1 h2
 simp only [hc] at h1
 rw [h1] at h2;cases h2
 rw [qX] at h1
 cases hx : xs[j]? with
 | none=>rw [hx] at h1;simp at h1
 | some x=>rw [hx] at h1;simp at h1;rw [← h1];exact froz_I _ _ _
theorem OwnS.froz {H : List Blk} {N : Nat → Prop} {base t : Nat} {c : AV} {xs : List Int} (h : OwnS H N t c xs) (hN : ∀ r,N r → base ≤ r) : Froz H base c (ilS xs):=by
 rcases h with ⟨r,ver,ty,rfl,h1,_,h3⟩|⟨rfl,rfl|rfl⟩
 ·exact froz_row (hN _ h1) h3
 ·exact .nil
 ·exact .old _ (.il _ _ (fun c h=>by simp at h))
theorem OwnSS.froz {H : List Blk} {N : Nat → Prop} {base : Nat} {a : AV} {xss : List (List Int)} (h : OwnSS H N a xss) (hN : ∀ r,N r → base ≤ r) : Froz H base a (ilSS xss):=by
 rcases h with ⟨t,ver,ty,cells,rfl,h1,h2,h3,h4,_⟩|⟨rfl,rfl|rfl⟩
 ·have hc : (cells.drop 0).take (xss.length * 1) = cells:=by rw [x8,Nat.mul_one];apply qW;omega
  refine .nm t ver 0 xss.length _ _ (hN _ h1) h2 rfl (by simp only [hc,List.length_map];exact h3.symm) ?_
  intro j c c' g1 g2
  simp only [hc] at g1
  rw [qX] at g2
  cases hx : xss[j]? with
  | none=>rw [hx] at g2;simp at g2
  | some xs=>rw [hx] at g2;simp at g2;rw [← g2];exact (h4 j c xs g1 hx).froz hN
 ·exact .nil
 ·exact .old _ (.il _ _ (fun c h=>by simp at h))
theorem rd_ilS (H : List Blk) (xs : List Int) : RdS H (ilS xs) xs:=rfl
theorem rd_ilSS (H : List Blk) (xss : List (List Int)) : RdSS H (ilSS xss) xss:=by
 refine ⟨xss.map ilS,rfl,by simp,?_⟩
 intro j c xs h1 h2
 rw [qX,h2] at h1
 simp at h1
 rw [← h1];exact rd_ilS H xs
end Go.Proofs.YtclfmfabcnbbpaaGreat
namespace Go.Proofs.YtclfmfabcnbbpaaGreat
open Go.Av
abbrev f_impl_within : Nat:=63
def c_impl_within : SC :=
 .seq (.reg [⟨s' 6,.mv (.const (.bool false)),n'⟩] [0,1,2]) (.seq (.reg [⟨s' 7,.mv (t' 0),n'⟩,⟨s' 8,.mv (t' 1),n'⟩,⟨s' 9,.bin .geq (t' 7) (t' 8),n'⟩,⟨s' 10,.mv (t' 9),n'⟩,
 ⟨s' 11,.mv (t' 0),(some (10,true))⟩,⟨s' 12,.mv (t' 2),(some (10,true))⟩,⟨s' 13,.bin .leq (t' 11) (t' 12),(some (10,true))⟩,
 ⟨s' 14,.pick (t' 10) (t' 13) (.const (.bool false)),n'⟩,⟨s' 6,.mv (t' 14),n'⟩] [6]) (.ret))
theorem s_impl_within : stripF Tryz.prog 63 [[0,1,2],[6]] = some (c_impl_within,[.tmp 6],15):=by kernel_rfl
abbrev f_spec_l00In : Nat:=78
def c_spec_l00In : SC :=
 .seq (.reg [⟨s' 6,.mv (.const (.bool false)),n'⟩] [0,1,2]) (.seq (.reg [⟨s' 7,.mv (t' 0),n'⟩,⟨s' 8,.mv (t' 1),n'⟩,⟨s' 9,.bin .geq (t' 7) (t' 8),n'⟩,⟨s' 10,.mv (t' 9),n'⟩,
 ⟨s' 11,.mv (t' 0),(some (10,true))⟩,⟨s' 12,.mv (t' 2),(some (10,true))⟩,⟨s' 13,.bin .leq (t' 11) (t' 12),(some (10,true))⟩,
 ⟨s' 14,.pick (t' 10) (t' 13) (.const (.bool false)),n'⟩,⟨s' 6,.mv (t' 14),n'⟩] [6]) (.ret))
theorem s_spec_l00In : stripF Tryz.prog 78 [[0,1,2],[6]] = some (c_spec_l00In,[.tmp 6],15):=by kernel_rfl
theorem within_ok (H : List Blk) (n lo hi : Int) : ACalls Tryz.prog f_impl_within [I n,I lo,I hi] H (fun r H'=>r = Bv (decide (lo ≤ n) && decide (n ≤ hi)) ∧ H' = H):=by
 refine ACalls.intro s_impl_within (by simp) ?_
 refine SW.seq ?_;refine SW.row ?_;simp only [go_sem,Nat.reduceAdd,Nat.reduceEqDiff,Nat.reduceLeDiff,reduceIte,qG,qH,qK,qL,qJ,qM,qD,qF,decide_true,decide_false,Bool.not_true,Bool.not_false,true_and,and_true,ne_eq,not_true_eq_false,not_false_eq_true,forall_const,qA,q9]
 refine SW.seq ?_;refine SW.row ?_;simp only [go_sem,Nat.reduceAdd,Nat.reduceEqDiff,Nat.reduceLeDiff,reduceIte,qG,qH,qK,qL,qJ,qM,qD,qF,decide_true,decide_false,Bool.not_true,Bool.not_false,true_and,and_true,ne_eq,not_true_eq_false,not_false_eq_true,forall_const,qA,q9]
 refine ⟨fun h=>?_,fun h=>?_⟩
 ·refine SW.ret ?_;(try simp only [go_sem]);refine qP (GR.of ?_);(try simp only [go_sem,Nat.reduceAdd,Nat.reduceEqDiff,Nat.reduceLeDiff,reduceIte,qG,qH,qK,qL,qJ,qM,qD,qF,decide_true,decide_false,Bool.not_true,Bool.not_false,true_and,and_true,ne_eq,not_true_eq_false,not_false_eq_true,forall_const,qA,q9])
  rw [h];simp [PickW]
 ·refine SW.ret ?_;(try simp only [go_sem]);refine qP (GR.of ?_);(try simp only [go_sem,Nat.reduceAdd,Nat.reduceEqDiff,Nat.reduceLeDiff,reduceIte,qG,qH,qK,qL,qJ,qM,qD,qF,decide_true,decide_false,Bool.not_true,Bool.not_false,true_and,and_true,ne_eq,not_true_eq_false,not_false_eq_true,forall_const,qA,q9])
  rw [h];simp [PickW]
theorem l00In_ok (H : List Blk) (n lo hi : Int) : ACalls Tryz.prog f_spec_l00In [I n,I lo,I hi] H (fun r H'=>r = Bv (decide (lo ≤ n) && decide (n ≤ hi)) ∧ H' = H):=by
 refine ACalls.intro s_spec_l00In (by simp) ?_
 refine SW.seq ?_;refine SW.row ?_;simp only [go_sem,Nat.reduceAdd,Nat.reduceEqDiff,Nat.reduceLeDiff,reduceIte,qG,qH,qK,qL,qJ,qM,qD,qF,decide_true,decide_false,Bool.not_true,Bool.not_false,true_and,and_true,ne_eq,not_true_eq_false,not_false_eq_true,forall_const,qA,q9]
 refine SW.seq ?_;refine SW.row ?_;simp only [go_sem,Nat.reduceAdd,Nat.reduceEqDiff,Nat.reduceLeDiff,reduceIte,qG,qH,qK,qL,qJ,qM,qD,qF,decide_true,decide_false,Bool.not_true,Bool.not_false,true_and,and_true,ne_eq,not_true_eq_false,not_false_eq_true,forall_const,qA,q9]
 refine ⟨fun h=>?_,fun h=>?_⟩
 ·refine SW.ret ?_;(try simp only [go_sem]);refine qP (GR.of ?_);(try simp only [go_sem,Nat.reduceAdd,Nat.reduceEqDiff,Nat.reduceLeDiff,reduceIte,qG,qH,qK,qL,qJ,qM,qD,qF,decide_true,decide_false,Bool.not_true,Bool.not_false,true_and,and_true,ne_eq,not_true_eq_false,not_false_eq_true,forall_const,qA,q9])
  rw [h];simp
 ·refine SW.ret ?_;(try simp only [go_sem]);refine qP (GR.of ?_);(try simp only [go_sem,Nat.reduceAdd,Nat.reduceEqDiff,Nat.reduceLeDiff,reduceIte,qG,qH,qK,qL,qJ,qM,qD,qF,decide_true,decide_false,Bool.not_true,Bool.not_false,true_and,and_true,ne_eq,not_true_eq_false,not_false_eq_true,forall_const,qA,q9])
  rw [h];simp
def GrowSS (H : List Blk) (base ty : Nat) (v : AV) (xss : List (List Int)) : Prop :=
 (v = nilS ∧ xss = []) ∨ ∃ t ver cells,v = .nm t ver 0 xss.length ∧ OwnC H (Fr base) t ver ty cells xss
theorem OwnS.weak {H : List Blk} {N N' : Nat → Prop} {t : Nat} {c : AV} {xs : List Int} (h : OwnS H N t c xs) (hN : ∀ r,N r → r < H.length → N' r) : OwnS H N' t c xs:=by
 rcases h with ⟨r,ver,ty,hc,h1,h2,h3⟩|h
 ·exact .inl ⟨r,ver,ty,hc,hN r h1 (qC.1 h3).1,h2,h3⟩
 ·exact .inr h
theorem OwnC.weak {H : List Blk} {N N' : Nat → Prop} {t ver ty : Nat} {cells : List AV} {xss : List (List Int)} (h : OwnC H N t ver ty cells xss) (hN : ∀ r,N r → r < H.length → N' r) : OwnC H N' t ver ty cells xss:=by
 obtain ⟨h1,h2,h3,h4,h5⟩:=h
 exact ⟨hN t h1 (qC.1 h2).1,h2,h3,fun j c xs g1 g2=>(h4 j c xs g1 g2).weak hN,h5⟩
theorem OwnSS.weak {H : List Blk} {N N' : Nat → Prop} {a : AV} {xss : List (List Int)} (h : OwnSS H N a xss) (hN : ∀ r,N r → r < H.length → N' r) : OwnSS H N' a xss:=by
 rcases h with ⟨t,ver,ty,cells,ha,h⟩|h
 ·exact .inl ⟨t,ver,ty,cells,ha,h.weak hN⟩
 ·exact .inr h
theorem GrowSS.own {H : List Blk} {base ty : Nat} {v : AV} {xss : List (List Int)} (h : GrowSS H base ty v xss) {b : Nat} (hb : b ≤ base) : OwnSS H (Btw b H.length) v xss:=by
 rcases h with ⟨rfl,rfl⟩|⟨t,ver,cells,rfl,h⟩
 ·exact .inr ⟨rfl,.inl rfl⟩
 ·exact .inl ⟨t,ver,ty,cells,rfl,h.weak (fun r h1 h2=>⟨by unfold Fr at h1;omega,h2⟩)⟩
theorem GrowSS.cell1 {H : List Blk} {base ty : Nat} {v : AV} {xss : List (List Int)} (h : GrowSS H base ty v xss) : v.cell1 = true:=by
 rcases h with ⟨rfl,rfl⟩|⟨t,ver,cells,rfl,h⟩ <;> rfl
theorem GrowSS.parts {H : List Blk} {base ty : Nat} {v : AV} {xss : List (List Int)} (h : GrowSS H base ty v xss) : partsOf v = [v]:=by
 rcases h with ⟨rfl,rfl⟩|⟨t,ver,cells,rfl,h⟩ <;> rfl
theorem OwnS.same {H H' : List Blk} {N : Nat → Prop} {t : Nat} {c : AV} {xs : List Int} (h : OwnS H N t c xs) (hs : ∀ j b,N j → j ≠ t → H[j]? = some b → H'[j]? = some b) : OwnS H' N t c xs:=by
 rcases h with ⟨r,ver,ty,hc,h1,h2,h3⟩|h
 ·exact .inl ⟨r,ver,ty,hc,h1,h2,hs r _ h1 h2 h3⟩
 ·exact .inr h
theorem GrowSS.same {H H' : List Blk} {base ty : Nat} {v : AV} {xss : List (List Int)} (h : GrowSS H base ty v xss) (hs : ∀ j b,base ≤ j → H[j]? = some b → H'[j]? = some b) : GrowSS H' base ty v xss:=by
 rcases h with h|⟨t,ver,cells,rfl,h1,h2,h3,h4,h5⟩
 ·exact .inl h
 ·exact .inr ⟨t,ver,cells,rfl,h1,hs t _ h1 h2,h3,fun j c xs g1 g2=>(h4 j c xs g1 g2).same (fun j b q _=>hs j b q),h5⟩
theorem OwnC.nm_lt {H : List Blk} {N : Nat → Prop} {t ver ty : Nat} {cells : List AV} {xss : List (List Int)} (h : OwnC H N t ver ty cells xss) {j r v o l : Nat} (hj : cells[j]? = some (.nm r v o l)) : r < H.length:=by
 obtain ⟨h1,h2,h3,h4,h5⟩:=h
 have hlt:=(qC.1 hj).1
 rcases h4 j _ _ hj (qB (by omega)) with ⟨r',v',ty',hc,_,_,o3⟩|⟨_,hc|hc⟩
 ·simp only [AV.nm.injEq] at hc
  rw [hc.1];exact (qC.1 o3).1
 ·simp [nilS] at hc
 ·simp at hc
theorem OwnC.same {H H' : List Blk} {N : Nat → Prop} {t ver ty : Nat} {cells : List AV} {xss : List (List Int)} (h : OwnC H N t ver ty cells xss) (hs : ∀ j b,N j → H[j]? = some b → H'[j]? = some b) : OwnC H' N t ver ty cells xss:=by
 obtain ⟨h1,h2,h3,h4,h5⟩:=h
 exact ⟨h1,hs t _ h1 h2,h3,fun j c xs g1 g2=>(h4 j c xs g1 g2).same (fun j b q _=>hs j b q),h5⟩
theorem OwnSS.same {H H' : List Blk} {N : Nat → Prop} {a : AV} {xss : List (List Int)} (h : OwnSS H N a xss) (hs : ∀ j b,N j → H[j]? = some b → H'[j]? = some b) : OwnSS H' N a xss:=by
 rcases h with ⟨t,ver,ty,cells,ha,h⟩|h
 ·exact .inl ⟨t,ver,ty,cells,ha,h.same hs⟩
 ·exact .inr h
theorem GrowSS.app {H : List Blk} {base ty rty : Nat} {v : AV} {xss : List (List Int)} {xs : List Int} (h : GrowSS H base ty v xss) (hb : base ≤ H.length) (hl : (xss.length + 1) * 24 ≤ 140737488355328)
  {K : AV → List Blk → Prop} (hk : ∀ v' H',GrowSS H' base ty v' (xss ++ [xs]) → H.length ≤ H'.length → (∀ j,j < base → H'[j]? = H[j]?) → K v' H') :
  swpApp ty 1 24 (H ++ [⟨0,rty,1,xs.map I⟩,⟨0,ty,1,[.nm H.length 0 0 xs.length]⟩]) v (.nm (H.length + 1) 0 0 1) K:=by
 have hrow : ∀ H' : List Blk,H'[H.length]? = some ⟨0,rty,1,xs.map I⟩ → ∀ t,t ≠ H.length → OwnS H' (Fr base) t (.nm H.length 0 0 xs.length) xs:=fun H' h t ht=>.inl ⟨H.length,0,rty,rfl,hb,fun e=>ht e.symm,h⟩
 rcases h with ⟨rfl,rfl⟩|⟨t,ver,cells,rfl,hc⟩
 ·simp only [swpApp,aview,hget,nilS]
  simp only [q9,qA,if_true,x8]
  refine ⟨rfl,by simp [AV.cell1],by omega,by omega,hk _ _ (.inr ⟨H.length + 2,1,[.nm H.length 0 0 xs.length],by simp,?_⟩) (by simp) (fun j hj=>?_)⟩
  ·refine ⟨show base ≤ H.length + 2 by omega,?_,rfl,?_,?_⟩
   ·simp
   ·intro j c ys g1 g2
    cases j with
    | zero=>simp at g1 g2;subst g1;subst g2;exact hrow _ (by simp) _ (by omega)
    | succ j=>simp at g1
   ·intro i j r v o l v' o' l' hij g1 g2
    cases i <;> cases j <;> simp at g1 g2 hij
  ·rw [wV,qN (by omega)]
 ·obtain ⟨h1,h2,h3,h4,h5⟩:=id hc
  have htl:=(qC.1 h2).1
  have h1' : base ≤ t:=h1
  simp only [swpApp,aview,hget]
  simp only [q9,qA,if_true,x8,qN htl,h2]
  refine ⟨rfl,by simp [AV.cell1],trivial,trivial,trivial,by omega,by omega,by omega,hk _ _ (.inr ⟨t,ver + 1,cells ++ [.nm H.length 0 0 xs.length],by simp,?_⟩) (by simp) (fun j hj=>?_)⟩
  ·refine ⟨h1,?_,by simp [h3],?_,?_⟩
   ·rw [qY (by simp;omega)]
    simp [← h3]
   ·intro j c ys g1 g2
    by_cases hj : j < cells.length
    ·rw [qN hj] at g1
     rw [qN (by omega)] at g2
     refine (h4 j c ys g1 g2).same ?_
     intro q b q1 q2 q3
     rw [qR (Ne.symm q2),qN (qC.1 q3).1];exact q3
    ·rw [qV (by omega)] at g1 g2
     have hj' : j = cells.length:=by
      have:=(qC.1 g1).1
      simp at this;omega
     subst hj'
     rw [wS] at g1
     rw [h3,wS] at g2
     simp at g1 g2;subst g1;subst g2
     refine hrow _ ?_ _ (by omega)
     rw [qR (by omega)];simp
   ·intro i j r v o l v' o' l' hij g1 g2
    by_cases hi : i < cells.length
    ·rw [qN hi] at g1
     have hr:=hc.nm_lt g1
     by_cases hj : j < cells.length
     ·rw [qN hj] at g2
      exact h5 i j r v o l v' o' l' hij g1 g2
     ·rw [qV (by omega)] at g2
      have hj' : j = cells.length:=by
       have:=(qC.1 g2).1
       simp at this;omega
      subst hj'
      simp at g2
      omega
    ·rw [qV (by omega)] at g1
     have hi' : i = cells.length:=by
      have:=(qC.1 g1).1
      simp at this;omega
     subst hi'
     simp at g1
     by_cases hj : j < cells.length
     ·rw [qN hj] at g2
      have hr:=hc.nm_lt g2
      omega
     ·rw [qV (by omega)] at g2
      have:=(qC.1 g2).1
      simp at this;omega
  ·rw [qR (by omega),qN (by omega)]
end Go.Proofs.YtclfmfabcnbbpaaGreat
namespace Go.Proofs.YtclfmfabcnbbpaaGreat
open Go.Av
abbrev tySS : Nat:=22
theorem prefix_of {H H' : List Blk} (hl : H.length ≤ H'.length) (h : ∀ j,j < H.length → H'[j]? = H[j]?) : ∃ ext,H' = H ++ ext:=by
 refine ⟨H'.drop H.length,?_⟩
 have : H'.take H.length = H:=by
  apply xU
  intro j
  by_cases hj : j < H.length
  ·rw [xQ hj,h j hj]
  ·rw [wZ (by simp;omega),wZ (by omega)]
 rw [← this,List.length_take,yF (by omega),List.take_append_drop]
end Go.Proofs.YtclfmfabcnbbpaaGreat
namespace Go.Proofs.YtclfmfabcnbbpaaGreat
open Go.Av
abbrev f_laws_szInt64SS : Nat:=14
def c_laws_szInt64SS : SC :=
 .seq (.reg [⟨s' 4,.mv (.const (.int .i64 0)),n'⟩] [0,1]) (.seq (.reg [⟨s' 6,.mv (t' 1),n'⟩,⟨s' 7,.mv (t' 0),n'⟩,⟨s' 8,.len (t' 7),n'⟩,⟨s' 9,.bin .sub (t' 6) (t' 8),n'⟩,
 ⟨s' 1,.mv (t' 9),n'⟩] [0,1]) (.seq (.seq (.reg [⟨s' 10,.mv (t' 1),n'⟩,⟨s' 11,.bin .lss (t' 10) (.const (.int .i64 0)),n'⟩] [0,1,11]) (.cond (t' 11) (.seq (.reg [
 ⟨s' 4,.mv (.const (.int .i64 (-1))),n'⟩] [4]) (.ret)) (.skip))) (.seq (.seq (.reg [⟨s' 5,.mv (.const (.int .i64 0)),n'⟩] [0,1,5]) (.block 0 (.loop [0,1,5] (.seq (.seq (.reg [
 ⟨s' 12,.mv (t' 5),n'⟩,⟨s' 13,.mv (t' 0),n'⟩,⟨s' 14,.len (t' 13),n'⟩,⟨s' 15,.bin .lss (t' 12) (t' 14),n'⟩] [0,1,5,15]) (.cond (t' 15) (.skip) (.exit 0)))
 (.seq (.block 1 (.seq (.reg [⟨s' 18,.mv (t' 0),n'⟩,⟨s' 19,.mv (t' 5),n'⟩,⟨s' 20,.iaddr 1 (t' 18) (t' 19),n'⟩,⟨s' 21,.load 1 false (t' 20),n'⟩,⟨s' 22,.mv (t' 1),n'⟩,
 ⟨s' 23,.call 35 [(t' 21),(t' 22)],n'⟩,⟨s' 1,.mv (t' 23),n'⟩] [0,1,5]) (.seq (.reg [⟨s' 24,.mv (t' 1),n'⟩,⟨s' 25,.bin .lss (t' 24) (.const (.int .i64 0)),n'⟩] [0,1,5,25])
 (.cond (t' 25) (.seq (.reg [⟨s' 4,.mv (.const (.int .i64 (-1))),n'⟩] [4]) (.ret)) (.skip))))) (.reg [⟨s' 16,.mv (t' 5),n'⟩,⟨s' 17,.bin .add (t' 16) (.const (.int .i64 1)),n'⟩,
 ⟨s' 5,.mv (t' 17),n'⟩] [0,1,5])))))) (.seq (.reg [⟨s' 26,.mv (t' 1),n'⟩,⟨s' 4,.mv (t' 26),n'⟩] [4]) (.ret)))))
theorem s_laws_szInt64SS : stripF Tryz.prog 14 [[0,1],[0,1],[0,1,11],[4],[0,1,5],[0,1,5],[0,1,5,15],[0,1,5],[0,1,5,25],[4],[0,1,5],[4]] = some (c_laws_szInt64SS,[.tmp 4],27):=by kernel_rfl
abbrev f_laws_toInt64SS : Nat:=18
def c_laws_toInt64SS : SC :=
 .seq (.reg [⟨s' 2,.mv (.const (.slice none 0 0)),n'⟩] [0]) (.seq (.reg [⟨s' 5,.mv (t' 0),n'⟩,⟨s' 6,.len (t' 5),n'⟩,⟨s' 7,.mslice 22 24 (.slice none 0 0) (t' 6) (t' 6),n'⟩,
 ⟨s' 3,.mv (t' 7),n'⟩] [0,3]) (.seq (.seq (.reg [⟨s' 4,.mv (.const (.int .i64 0)),n'⟩] [0,3,4]) (.block 0 (.loop [0,3,4] (.seq (.seq (.reg [⟨s' 8,.mv (t' 4),n'⟩,
 ⟨s' 9,.mv (t' 0),n'⟩,⟨s' 10,.len (t' 9),n'⟩,⟨s' 11,.bin .lss (t' 8) (t' 10),n'⟩] [0,3,4,11]) (.cond (t' 11) (.skip) (.exit 0))) (.seq (.block 1 (.reg [⟨s' 14,.mv (t' 3),n'⟩,
 ⟨s' 15,.mv (t' 4),n'⟩,⟨s' 16,.mv (t' 0),n'⟩,⟨s' 17,.mv (t' 4),n'⟩,⟨s' 18,.iaddr 1 (t' 16) (t' 17),n'⟩,⟨s' 19,.load 1 false (t' 18),n'⟩,⟨s' 20,.call 42 [(t' 19)],n'⟩,
 ⟨s' 21,.iaddr 1 (t' 14) (t' 15),n'⟩,⟨n',.store 1 (t' 21) (t' 20),n'⟩] [0,3,4])) (.reg [⟨s' 12,.mv (t' 4),n'⟩,⟨s' 13,.bin .add (t' 12) (.const (.int .i64 1)),n'⟩,
 ⟨s' 4,.mv (t' 13),n'⟩] [0,3,4])))))) (.seq (.reg [⟨s' 22,.mv (t' 3),n'⟩,⟨s' 2,.mv (t' 22),n'⟩] [2]) (.ret))))
theorem s_laws_toInt64SS : stripF Tryz.prog 18 [[0],[0,3],[0,3,4],[0,3,4],[0,3,4,11],[0,3,4],[0,3,4],[2]] = some (c_laws_toInt64SS,[.tmp 2],23):=by kernel_rfl
abbrev f_laws_szInt64S : Nat:=35
def c_laws_szInt64S : SC :=
 .seq (.reg [⟨s' 4,.mv (.const (.int .i64 0)),n'⟩] [0,1]) (.seq (.reg [⟨s' 5,.mv (t' 1),n'⟩,⟨s' 6,.mv (t' 0),n'⟩,⟨s' 7,.len (t' 6),n'⟩,⟨s' 8,.bin .sub (t' 5) (t' 7),n'⟩,
 ⟨s' 1,.mv (t' 8),n'⟩] [1]) (.seq (.seq (.reg [⟨s' 9,.mv (t' 1),n'⟩,⟨s' 10,.bin .lss (t' 9) (.const (.int .i64 0)),n'⟩] [1,10]) (.cond (t' 10) (.seq (.reg [
 ⟨s' 4,.mv (.const (.int .i64 (-1))),n'⟩] [4]) (.ret)) (.skip))) (.seq (.reg [⟨s' 11,.mv (t' 1),n'⟩,⟨s' 4,.mv (t' 11),n'⟩] [4]) (.ret))))
theorem s_laws_szInt64S : stripF Tryz.prog 35 [[0,1],[1],[1,10],[4],[4]] = some (c_laws_szInt64S,[.tmp 4],12):=by kernel_rfl
abbrev f_laws_toInt64S : Nat:=42
def c_laws_toInt64S : SC :=
 .seq (.reg [⟨s' 2,.mv (.const (.slice none 0 0)),n'⟩] [0]) (.seq (.reg [⟨s' 5,.mv (t' 0),n'⟩,⟨s' 6,.len (t' 5),n'⟩,⟨s' 7,.mslice 2 8 (.int .i64 0) (t' 6) (t' 6),n'⟩,
 ⟨s' 3,.mv (t' 7),n'⟩] [0,3]) (.seq (.seq (.reg [⟨s' 4,.mv (.const (.int .i64 0)),n'⟩] [0,3,4]) (.block 0 (.loop [0,3,4] (.seq (.seq (.reg [⟨s' 8,.mv (t' 4),n'⟩,
 ⟨s' 9,.mv (t' 0),n'⟩,⟨s' 10,.len (t' 9),n'⟩,⟨s' 11,.bin .lss (t' 8) (t' 10),n'⟩] [0,3,4,11]) (.cond (t' 11) (.skip) (.exit 0))) (.seq (.block 1 (.reg [⟨s' 14,.mv (t' 3),n'⟩,
 ⟨s' 15,.mv (t' 4),n'⟩,⟨s' 16,.mv (t' 0),n'⟩,⟨s' 17,.mv (t' 4),n'⟩,⟨s' 18,.iaddr 1 (t' 16) (t' 17),n'⟩,⟨s' 19,.load 1 false (t' 18),n'⟩,⟨s' 20,.iaddr 1 (t' 14) (t' 15),n'⟩,
 ⟨n',.store 1 (t' 20) (t' 19),n'⟩] [0,3,4])) (.reg [⟨s' 12,.mv (t' 4),n'⟩,⟨s' 13,.bin .add (t' 12) (.const (.int .i64 1)),n'⟩,⟨s' 4,.mv (t' 13),n'⟩] [0,3,4])))))) (.seq (.reg [
 ⟨s' 21,.mv (t' 3),n'⟩,⟨s' 2,.mv (t' 21),n'⟩] [2]) (.ret))))
theorem s_laws_toInt64S : stripF Tryz.prog 42 [[0],[0,3],[0,3,4],[0,3,4],[0,3,4,11],[0,3,4],[0,3,4],[2]] = some (c_laws_toInt64S,[.tmp 2],22):=by kernel_rfl
theorem szInt64S_ok (H : List Blk) (a : AV) (xs : List Int) (left : Int) (ha : RdS H a xs) (h0 : -1 ≤ left) (h1 : left ≤ 4611686018427387904) :
  ACalls Tryz.prog f_laws_szInt64S [a,I left] H (fun r H'=>(∃ z : Int,r = I z ∧ -1 ≤ z ∧ z ≤ left ∧ (0 ≤ z → z = left - xs.length)) ∧ H' = H):=by
 refine ACalls.intro s_laws_szInt64S (by simp) ?_
 refine SW.seq ?_;refine SW.row ?_;simp only [go_sem,Nat.reduceAdd,Nat.reduceEqDiff,Nat.reduceLeDiff,reduceIte,qG,qH,qK,qL,qJ,qM,qD,qF,decide_true,decide_false,Bool.not_true,Bool.not_false,true_and,and_true,ne_eq,not_true_eq_false,not_false_eq_true,forall_const,qA,q9]
 refine SW.seq ?_;refine SW.row ?_;simp only [go_sem,Nat.reduceAdd,Nat.reduceEqDiff,Nat.reduceLeDiff,reduceIte,qG,qH,qK,qL,qJ,qM,qD,qF,decide_true,decide_false,Bool.not_true,Bool.not_false,true_and,and_true,ne_eq,not_true_eq_false,not_false_eq_true,forall_const,qA,q9,ha]
 intro hl
 rw [w64_id (by omega) (by omega)]
 refine SW.seq ?_;refine SW.seq ?_;refine SW.row ?_;simp only [go_sem,Nat.reduceAdd,Nat.reduceEqDiff,Nat.reduceLeDiff,reduceIte,qG,qH,qK,qL,qJ,qM,qD,qF,decide_true,decide_false,Bool.not_true,Bool.not_false,true_and,and_true,ne_eq,not_true_eq_false,not_false_eq_true,forall_const,qA,q9];(first|refine SW.cond rfl (fun h=>?_) (fun h=>?_)|(intro _;refine SW.cond rfl (fun h=>?_) (fun h=>?_))|(intro _ _;refine SW.cond rfl (fun h=>?_) (fun h=>?_)))
 ·refine SW.seq ?_;refine SW.row ?_;simp only [go_sem,Nat.reduceAdd,Nat.reduceEqDiff,Nat.reduceLeDiff,reduceIte,qG,qH,qK,qL,qJ,qM,qD,qF,decide_true,decide_false,Bool.not_true,Bool.not_false,true_and,and_true,ne_eq,not_true_eq_false,not_false_eq_true,forall_const,qA,q9]
  refine SW.ret ?_;(try simp only [go_sem]);refine qP (GR.of ?_);(try simp only [go_sem,Nat.reduceAdd,Nat.reduceEqDiff,Nat.reduceLeDiff,reduceIte,qG,qH,qK,qL,qJ,qM,qD,qF,decide_true,decide_false,Bool.not_true,Bool.not_false,true_and,and_true,ne_eq,not_true_eq_false,not_false_eq_true,forall_const,qA,q9])
  exact ⟨-1,rfl,by omega,by omega,fun h=>by omega⟩
 refine SW.skip ?_;simp only [go_sem,Nat.reduceAdd,Nat.reduceEqDiff,Nat.reduceLeDiff,reduceIte,qG,qH,qK,qL,qJ,qM,qD,qF,decide_true,decide_false,Bool.not_true,Bool.not_false,true_and,and_true,ne_eq,not_true_eq_false,not_false_eq_true,forall_const,qA,q9]
 have hh:=of_decide_eq_false h
 refine SW.seq ?_;refine SW.row ?_;simp only [go_sem,Nat.reduceAdd,Nat.reduceEqDiff,Nat.reduceLeDiff,reduceIte,qG,qH,qK,qL,qJ,qM,qD,qF,decide_true,decide_false,Bool.not_true,Bool.not_false,true_and,and_true,ne_eq,not_true_eq_false,not_false_eq_true,forall_const,qA,q9]
 refine SW.ret ?_;(try simp only [go_sem]);refine qP (GR.of ?_);(try simp only [go_sem,Nat.reduceAdd,Nat.reduceEqDiff,Nat.reduceLeDiff,reduceIte,qG,qH,qK,qL,qJ,qM,qD,qF,decide_true,decide_false,Bool.not_true,Bool.not_false,true_and,and_true,ne_eq,not_true_eq_false,not_false_eq_true,forall_const,qA,q9])
 exact ⟨_,rfl,by omega,by omega,fun _=>rfl⟩
theorem szInt64SS_ok (H : List Blk) (a : AV) (xss : List (List Int)) (left : Int) (ha : RdSS H a xss) (h0 : -1 ≤ left) (h1 : left ≤ 4611686018427387904) :
  ACalls Tryz.prog f_laws_szInt64SS [a,I left] H (fun r H'=>(∃ z : Int,r = I z ∧ -1 ≤ z ∧ z ≤ left ∧ (0 ≤ z → z = left - xss.length - total xss)) ∧ H' = H):=by
 obtain ⟨cells,a1,a2,a3⟩:=ha
 refine ACalls.intro s_laws_szInt64SS (by simp) ?_
 refine SW.seq ?_;refine SW.row ?_;simp only [go_sem,Nat.reduceAdd,Nat.reduceEqDiff,Nat.reduceLeDiff,reduceIte,qG,qH,qK,qL,qJ,qM,qD,qF,decide_true,decide_false,Bool.not_true,Bool.not_false,true_and,and_true,ne_eq,not_true_eq_false,not_false_eq_true,forall_const,qA,q9]
 refine SW.seq ?_;refine SW.row ?_;simp only [go_sem,Nat.reduceAdd,Nat.reduceEqDiff,Nat.reduceLeDiff,reduceIte,qG,qH,qK,qL,qJ,qM,qD,qF,decide_true,decide_false,Bool.not_true,Bool.not_false,true_and,and_true,ne_eq,not_true_eq_false,not_false_eq_true,forall_const,qA,q9,a1]
 intro hl
 rw [w64_id (by omega) (by omega)]
 refine SW.seq ?_;refine SW.seq ?_;refine SW.row ?_;simp only [go_sem,Nat.reduceAdd,Nat.reduceEqDiff,Nat.reduceLeDiff,reduceIte,qG,qH,qK,qL,qJ,qM,qD,qF,decide_true,decide_false,Bool.not_true,Bool.not_false,true_and,and_true,ne_eq,not_true_eq_false,not_false_eq_true,forall_const,qA,q9];(first|refine SW.cond rfl (fun h=>?_) (fun h=>?_)|(intro _;refine SW.cond rfl (fun h=>?_) (fun h=>?_))|(intro _ _;refine SW.cond rfl (fun h=>?_) (fun h=>?_)))
 ·refine SW.seq ?_;refine SW.row ?_;simp only [go_sem,Nat.reduceAdd,Nat.reduceEqDiff,Nat.reduceLeDiff,reduceIte,qG,qH,qK,qL,qJ,qM,qD,qF,decide_true,decide_false,Bool.not_true,Bool.not_false,true_and,and_true,ne_eq,not_true_eq_false,not_false_eq_true,forall_const,qA,q9]
  refine SW.ret ?_;(try simp only [go_sem]);refine qP (GR.of ?_);(try simp only [go_sem,Nat.reduceAdd,Nat.reduceEqDiff,Nat.reduceLeDiff,reduceIte,qG,qH,qK,qL,qJ,qM,qD,qF,decide_true,decide_false,Bool.not_true,Bool.not_false,true_and,and_true,ne_eq,not_true_eq_false,not_false_eq_true,forall_const,qA,q9])
  exact ⟨-1,rfl,by omega,by omega,fun h=>by omega⟩
 refine SW.skip ?_;simp only [go_sem,Nat.reduceAdd,Nat.reduceEqDiff,Nat.reduceLeDiff,reduceIte,qG,qH,qK,qL,qJ,qM,qD,qF,decide_true,decide_false,Bool.not_true,Bool.not_false,true_and,and_true,ne_eq,not_true_eq_false,not_false_eq_true,forall_const,qA,q9]
 have hh:=of_decide_eq_false h
 refine SW.seq ?_;refine SW.seq ?_;refine SW.row ?_;simp only [go_sem,Nat.reduceAdd,Nat.reduceEqDiff,Nat.reduceLeDiff,reduceIte,qG,qH,qK,qL,qJ,qM,qD,qF,decide_true,decide_false,Bool.not_true,Bool.not_false,true_and,and_true,ne_eq,not_true_eq_false,not_false_eq_true,forall_const,qA,q9]
 refine q8 ?_
 refine SW.loop (fun q E H'=>∃ (i : Nat) (z : Int),i ≤ xss.length ∧ q = xss.length - i ∧ E = [(0,a),(1,I z),(5,I i)] ∧ H' = H ∧ 0 ≤ z ∧ z = left - xss.length - total (xss.take i)) xss.length ⟨0,_,by omega,by omega,rfl,rfl,by omega,by simp [total]⟩ ?_
 rintro q E H' ⟨i,z,hi,rfl,rfl,rfl,hz0,hz⟩
 refine SW.seq ?_;refine SW.seq ?_;refine SW.row ?_;simp only [go_sem,Nat.reduceAdd,Nat.reduceEqDiff,Nat.reduceLeDiff,reduceIte,qG,qH,qK,qL,qJ,qM,qD,qF,decide_true,decide_false,Bool.not_true,Bool.not_false,true_and,and_true,ne_eq,not_true_eq_false,not_false_eq_true,forall_const,qA,q9,a1];(first|refine SW.cond rfl (fun h=>?_) (fun h=>?_)|(intro _;refine SW.cond rfl (fun h=>?_) (fun h=>?_))|(intro _ _;refine SW.cond rfl (fun h=>?_) (fun h=>?_)))
 ·have hx : i < xss.length:=by have:=of_decide_eq_true h;omega
  have hci : cells[i]? = some cells[i]:=qB (by omega)
  have htot:=total_take_succ xss hx
  refine SW.skip ?_;simp only [go_sem,Nat.reduceAdd,Nat.reduceEqDiff,Nat.reduceLeDiff,reduceIte,qG,qH,qK,qL,qJ,qM,qD,qF,decide_true,decide_false,Bool.not_true,Bool.not_false,true_and,and_true,ne_eq,not_true_eq_false,not_false_eq_true,forall_const,qA,q9]
  refine SW.seq ?_;refine q8 ?_;refine SW.seq ?_;refine SW.row ?_;simp only [go_sem,Nat.reduceAdd,Nat.reduceEqDiff,Nat.reduceLeDiff,reduceIte,qG,qH,qK,qL,qJ,qM,qD,qF,decide_true,decide_false,Bool.not_true,Bool.not_false,true_and,and_true,ne_eq,not_true_eq_false,not_false_eq_true,forall_const,qA,q9,idxc a1 hx,ldc a1 hci]
  refine (szInt64S_ok _ _ xss[i] z (a3 i _ _ hci (qB hx)) (by omega) (by omega)).mono ?_
  rintro r H' ⟨⟨z',rfl,g1,g2,g3⟩,rfl⟩
  simp only [go_sem,Nat.reduceAdd,Nat.reduceEqDiff,Nat.reduceLeDiff,reduceIte,qG,qH,qK,qL,qJ,qM,qD,qF,decide_true,decide_false,Bool.not_true,Bool.not_false,true_and,and_true,ne_eq,not_true_eq_false,not_false_eq_true,forall_const,qA,q9]
  refine SW.seq ?_;refine SW.row ?_;simp only [go_sem,Nat.reduceAdd,Nat.reduceEqDiff,Nat.reduceLeDiff,reduceIte,qG,qH,qK,qL,qJ,qM,qD,qF,decide_true,decide_false,Bool.not_true,Bool.not_false,true_and,and_true,ne_eq,not_true_eq_false,not_false_eq_true,forall_const,qA,q9]
  refine SW.cond rfl (fun h=>?_) (fun h=>?_)
  ·refine SW.seq ?_;refine SW.row ?_;simp only [go_sem,Nat.reduceAdd,Nat.reduceEqDiff,Nat.reduceLeDiff,reduceIte,qG,qH,qK,qL,qJ,qM,qD,qF,decide_true,decide_false,Bool.not_true,Bool.not_false,true_and,and_true,ne_eq,not_true_eq_false,not_false_eq_true,forall_const,qA,q9]
   refine SW.ret ?_;(try simp only [go_sem]);refine qP (GR.of ?_);(try simp only [go_sem,Nat.reduceAdd,Nat.reduceEqDiff,Nat.reduceLeDiff,reduceIte,qG,qH,qK,qL,qJ,qM,qD,qF,decide_true,decide_false,Bool.not_true,Bool.not_false,true_and,and_true,ne_eq,not_true_eq_false,not_false_eq_true,forall_const,qA,q9])
   have:=of_decide_eq_true h
   exact ⟨-1,rfl,by omega,by omega,fun h=>by omega⟩
  have hh:=of_decide_eq_false h
  have:=g3 (by omega)
  refine SW.skip ?_;simp only [go_sem,Nat.reduceAdd,Nat.reduceEqDiff,Nat.reduceLeDiff,reduceIte,qG,qH,qK,qL,qJ,qM,qD,qF,decide_true,decide_false,Bool.not_true,Bool.not_false,true_and,and_true,ne_eq,not_true_eq_false,not_false_eq_true,forall_const,qA,q9]
  refine SW.row ?_;simp only [go_sem,Nat.reduceAdd,Nat.reduceEqDiff,Nat.reduceLeDiff,reduceIte,qG,qH,qK,qL,qJ,qM,qD,qF,decide_true,decide_false,Bool.not_true,Bool.not_false,true_and,and_true,ne_eq,not_true_eq_false,not_false_eq_true,forall_const,qA,q9,w64_succ hx hl]
  refine wB (xss.length - (i + 1)) (by omega) ⟨i + 1,z',by omega,rfl,?_,rfl,by omega,by omega⟩
  simp only [go_sem,Nat.reduceAdd,Nat.reduceEqDiff,Nat.reduceLeDiff,reduceIte,qG,qH,qK,qL,qJ,qM,qD,qF,decide_true,decide_false,Bool.not_true,Bool.not_false,true_and,and_true,ne_eq,not_true_eq_false,not_false_eq_true,forall_const,qA,q9] <;> rfl
 ·have hx : i = xss.length:=by have:=of_decide_eq_false h;omega
  subst hx
  refine SW.exit ?_;simp only [go_sem,Nat.reduceAdd,Nat.reduceEqDiff,Nat.reduceLeDiff,reduceIte,qG,qH,qK,qL,qJ,qM,qD,qF,decide_true,decide_false,Bool.not_true,Bool.not_false,true_and,and_true,ne_eq,not_true_eq_false,not_false_eq_true,forall_const,qA,q9]
  refine SW.seq ?_;refine SW.row ?_;simp only [go_sem,Nat.reduceAdd,Nat.reduceEqDiff,Nat.reduceLeDiff,reduceIte,qG,qH,qK,qL,qJ,qM,qD,qF,decide_true,decide_false,Bool.not_true,Bool.not_false,true_and,and_true,ne_eq,not_true_eq_false,not_false_eq_true,forall_const,qA,q9]
  refine SW.ret ?_;(try simp only [go_sem]);refine qP (GR.of ?_);(try simp only [go_sem,Nat.reduceAdd,Nat.reduceEqDiff,Nat.reduceLeDiff,reduceIte,qG,qH,qK,qL,qJ,qM,qD,qF,decide_true,decide_false,Bool.not_true,Bool.not_false,true_and,and_true,ne_eq,not_true_eq_false,not_false_eq_true,forall_const,qA,q9])
  rw [wW] at hz
  exact ⟨_,rfl,by omega,by omega,fun _=>hz⟩
def ct (xs : List Int) (i : Nat) : List Int:=xs.take i ++ qT (xs.length - i) 0
theorem ct_zero (xs : List Int) : ct xs 0 = qT xs.length 0:=by simp [ct]
theorem ct_all (xs : List Int) : ct xs xs.length = xs:=by simp [ct]
theorem ct_length (xs : List Int) {i : Nat} (h : i ≤ xs.length) : (ct xs i).length = xs.length:=by simp [ct];omega
theorem ct_set (xs : List Int) {i : Nat} (h : i < xs.length) : (ct xs i).set i xs[i] = ct xs (i + 1):=by
 unfold ct
 rw [x6 _ _ (by simp;omega)]
 have : i - (xs.take i).length = 0:=by simp;omega
 rw [this,show xs.length - i = (xs.length - (i + 1)) + 1 by omega,y8,xG,xO,qB h]
 simp only [Option.toList_some,wV,List.singleton_append]
theorem toInt64S_ok (H : List Blk) (a : AV) (xs : List Int) (ha : RdS H a xs) (hs : xs.length ≤ 1073741824) :
  ACalls Tryz.prog f_laws_toInt64S [a] H (fun r H'=>r = .nm H.length 0 0 xs.length ∧ H' = H ++ [⟨0,2,1,xs.map I⟩]):=by
 refine ACalls.intro s_laws_toInt64S (by simp) ?_
 refine SW.seq ?_;refine SW.row ?_;simp only [go_sem,Nat.reduceAdd,Nat.reduceEqDiff,Nat.reduceLeDiff,reduceIte,qG,qH,qK,qL,qJ,qM,qD,qF,decide_true,decide_false,Bool.not_true,Bool.not_false,true_and,and_true,ne_eq,not_true_eq_false,not_false_eq_true,forall_const,qA,q9]
 refine SW.seq ?_;refine SW.row ?_;simp only [go_sem,Nat.reduceAdd,Nat.reduceEqDiff,Nat.reduceLeDiff,reduceIte,qG,qH,qK,qL,qJ,qM,qD,qF,decide_true,decide_false,Bool.not_true,Bool.not_false,true_and,and_true,ne_eq,not_true_eq_false,not_false_eq_true,forall_const,qA,q9,ha]
 intro hl
 refine ⟨by omega,by omega,by omega,by omega,?_⟩
 simp only [go_sem,Nat.reduceAdd,Nat.reduceEqDiff,Nat.reduceLeDiff,reduceIte,qG,qH,qK,qL,qJ,qM,qD,qF,decide_true,decide_false,Bool.not_true,Bool.not_false,true_and,and_true,ne_eq,not_true_eq_false,not_false_eq_true,forall_const,qA,q9,wA]
 refine SW.seq ?_;refine SW.seq ?_;refine SW.row ?_;simp only [go_sem,Nat.reduceAdd,Nat.reduceEqDiff,Nat.reduceLeDiff,reduceIte,qG,qH,qK,qL,qJ,qM,qD,qF,decide_true,decide_false,Bool.not_true,Bool.not_false,true_and,and_true,ne_eq,not_true_eq_false,not_false_eq_true,forall_const,qA,q9]
 refine q8 ?_
 refine SW.loop (fun q E H'=>∃ i : Nat,i ≤ xs.length ∧ q = xs.length - i ∧ E = [(0,a),(3,.nm H.length 0 0 xs.length),(4,I i)] ∧ H' = H ++ [⟨0,2,1,(ct xs i).map I⟩]) xs.length ⟨0,by omega,by omega,rfl,by rw [ct_zero,List.map_replicate]⟩ ?_
 rintro q E H' ⟨i,hi,rfl,rfl,rfl⟩
 have ha':=ha.append [⟨0,2,1,(ct xs i).map I⟩]
 have hcell : (H ++ [(⟨0,2,1,(ct xs i).map I⟩ : Blk)])[H.length]? = some ⟨0,2,1,(ct xs i).map I⟩:=by simp
 have hv:=view_nm hcell (n:=xs.length) (by simp [ct_length xs hi])
 refine SW.seq ?_;refine SW.seq ?_;refine SW.row ?_;simp only [go_sem,Nat.reduceAdd,Nat.reduceEqDiff,Nat.reduceLeDiff,reduceIte,qG,qH,qK,qL,qJ,qM,qD,qF,decide_true,decide_false,Bool.not_true,Bool.not_false,true_and,and_true,ne_eq,not_true_eq_false,not_false_eq_true,forall_const,qA,q9,ha'];(first|refine SW.cond rfl (fun h=>?_) (fun h=>?_)|(intro _;refine SW.cond rfl (fun h=>?_) (fun h=>?_))|(intro _ _;refine SW.cond rfl (fun h=>?_) (fun h=>?_)))
 ·have hx : i < xs.length:=by have:=of_decide_eq_true h;omega
  refine SW.skip ?_;simp only [go_sem,Nat.reduceAdd,Nat.reduceEqDiff,Nat.reduceLeDiff,reduceIte,qG,qH,qK,qL,qJ,qM,qD,qF,decide_true,decide_false,Bool.not_true,Bool.not_false,true_and,and_true,ne_eq,not_true_eq_false,not_false_eq_true,forall_const,qA,q9]
  refine SW.seq ?_;refine q8 ?_;refine SW.row ?_;simp only [go_sem,Nat.reduceAdd,Nat.reduceEqDiff,Nat.reduceLeDiff,reduceIte,qG,qH,qK,qL,qJ,qM,qD,qF,decide_true,decide_false,Bool.not_true,Bool.not_false,true_and,and_true,ne_eq,not_true_eq_false,not_false_eq_true,forall_const,qA,q9,idx ha' hx,ld ha' hx,idxc hv hx,store_nm hcell (show i < ((ct xs i).map I).length by simp [ct_length xs hi,hx])]
  refine SW.row ?_;simp only [go_sem,Nat.reduceAdd,Nat.reduceEqDiff,Nat.reduceLeDiff,reduceIte,qG,qH,qK,qL,qJ,qM,qD,qF,decide_true,decide_false,Bool.not_true,Bool.not_false,true_and,and_true,ne_eq,not_true_eq_false,not_false_eq_true,forall_const,qA,q9,w64_succ hx hl]
  refine wB (xs.length - (i + 1)) (by omega) ⟨i + 1,by omega,rfl,?_,?_⟩
  ·simp only [go_sem,Nat.reduceAdd,Nat.reduceEqDiff,Nat.reduceLeDiff,reduceIte,qG,qH,qK,qL,qJ,qM,qD,qF,decide_true,decide_false,Bool.not_true,Bool.not_false,true_and,and_true,ne_eq,not_true_eq_false,not_false_eq_true,forall_const,qA,q9] <;> rfl
  ·rw [hset0,← List.map_set,ct_set xs hx];rfl
 ·have hx : i = xs.length:=by have:=of_decide_eq_false h;omega
  subst hx
  refine SW.exit ?_;simp only [go_sem,Nat.reduceAdd,Nat.reduceEqDiff,Nat.reduceLeDiff,reduceIte,qG,qH,qK,qL,qJ,qM,qD,qF,decide_true,decide_false,Bool.not_true,Bool.not_false,true_and,and_true,ne_eq,not_true_eq_false,not_false_eq_true,forall_const,qA,q9]
  refine SW.seq ?_;refine SW.row ?_;simp only [go_sem,Nat.reduceAdd,Nat.reduceEqDiff,Nat.reduceLeDiff,reduceIte,qG,qH,qK,qL,qJ,qM,qD,qF,decide_true,decide_false,Bool.not_true,Bool.not_false,true_and,and_true,ne_eq,not_true_eq_false,not_false_eq_true,forall_const,qA,q9]
  refine SW.ret ?_;(try simp only [go_sem]);refine qP (GR.of ?_);(try simp only [go_sem,Nat.reduceAdd,Nat.reduceEqDiff,Nat.reduceLeDiff,reduceIte,qG,qH,qK,qL,qJ,qM,qD,qF,decide_true,decide_false,Bool.not_true,Bool.not_false,true_and,and_true,ne_eq,not_true_eq_false,not_false_eq_true,forall_const,qA,q9])
  rw [ct_all]
def nmsB : Nat → List (List Int) → List AV
 | _,[]=>[]
 | k,xs :: r=>.nm k 0 0 xs.length :: nmsB (k + 1) r
def rowsB (xss : List (List Int)) : List Blk:=xss.map fun xs=>⟨0,2,1,xs.map I⟩
theorem nmsB_length (k : Nat) (xss : List (List Int)) : (nmsB k xss).length = xss.length:=by
 induction xss generalizing k with
 | nil=>rfl
 | cons xs r ih=>simp [nmsB,ih]
theorem nmsB_app (k : Nat) (xss : List (List Int)) (xs : List Int) : nmsB k (xss ++ [xs]) = nmsB k xss ++ [.nm (k + xss.length) 0 0 xs.length]:=by
 induction xss generalizing k with
 | nil=>rfl
 | cons ys r ih=>simp only [y7,nmsB,ih,qD];rw [show k + 1 + r.length = k + (r.length + 1) by omega]
theorem nmsB_get (k : Nat) (xss : List (List Int)) (j : Nat) : (nmsB k xss)[j]? = xss[j]?.map fun xs=>.nm (k + j) 0 0 xs.length:=by
 induction xss generalizing k j with
 | nil=>simp [nmsB]
 | cons ys r ih =>
  cases j with
  | zero=>simp [nmsB]
  | succ j=>simp only [nmsB,q9,ih];rw [show k + 1 + j = k + (j + 1) by omega]
def cts (k : Nat) (xss : List (List Int)) (i : Nat) : List AV:=nmsB k (xss.take i) ++ qT (xss.length - i) nilS
theorem cts_length (k : Nat) (xss : List (List Int)) {i : Nat} (h : i ≤ xss.length) : (cts k xss i).length = xss.length:=by simp [cts,nmsB_length];omega
theorem cts_all (k : Nat) (xss : List (List Int)) : cts k xss xss.length = nmsB k xss:=by simp [cts]
theorem cts_set (k : Nat) (xss : List (List Int)) {i : Nat} (h : i < xss.length) : (cts k xss i).set i (.nm (k + i) 0 0 xss[i].length) = cts k xss (i + 1):=by
 unfold cts
 have hl : (nmsB k (xss.take i)).length = i:=by rw [nmsB_length];simp;omega
 rw [x6 _ _ (by omega),hl,wS,show xss.length - i = (xss.length - (i + 1)) + 1 by omega,y8,xG,xO,qB h]
 simp only [Option.toList]
 rw [nmsB_app]
 simp [yF (Nat.le_of_lt h)]
theorem toInt64SS_ok (H : List Blk) (a : AV) (xss : List (List Int)) (ha : RdSS H a xss) (hs : xss.length ≤ 1073741824) (hs' : ∀ xs ∈ xss,xs.length ≤ 1073741824) :
  ACalls Tryz.prog f_laws_toInt64SS [a] H (fun r H'=>r = .nm H.length 0 0 xss.length ∧ H' = H ++ ⟨0,tySS,1,nmsB (H.length + 1) xss⟩ :: rowsB xss):=by
 have ha0:=ha
 obtain ⟨cells,a1,a2,a3⟩:=ha
 refine ACalls.intro s_laws_toInt64SS (by simp) ?_
 refine SW.seq ?_;refine SW.row ?_;simp only [go_sem,Nat.reduceAdd,Nat.reduceEqDiff,Nat.reduceLeDiff,reduceIte,qG,qH,qK,qL,qJ,qM,qD,qF,decide_true,decide_false,Bool.not_true,Bool.not_false,true_and,and_true,ne_eq,not_true_eq_false,not_false_eq_true,forall_const,qA,q9]
 refine SW.seq ?_;refine SW.row ?_;simp only [go_sem,Nat.reduceAdd,Nat.reduceEqDiff,Nat.reduceLeDiff,reduceIte,qG,qH,qK,qL,qJ,qM,qD,qF,decide_true,decide_false,Bool.not_true,Bool.not_false,true_and,and_true,ne_eq,not_true_eq_false,not_false_eq_true,forall_const,qA,q9,a1]
 intro hl
 refine ⟨by omega,by omega,by omega,by omega,?_⟩
 simp only [go_sem,Nat.reduceAdd,Nat.reduceEqDiff,Nat.reduceLeDiff,reduceIte,qG,qH,qK,qL,qJ,qM,qD,qF,decide_true,decide_false,Bool.not_true,Bool.not_false,true_and,and_true,ne_eq,not_true_eq_false,not_false_eq_true,forall_const,qA,q9,wA]
 refine SW.seq ?_;refine SW.seq ?_;refine SW.row ?_;simp only [go_sem,Nat.reduceAdd,Nat.reduceEqDiff,Nat.reduceLeDiff,reduceIte,qG,qH,qK,qL,qJ,qM,qD,qF,decide_true,decide_false,Bool.not_true,Bool.not_false,true_and,and_true,ne_eq,not_true_eq_false,not_false_eq_true,forall_const,qA,q9]
 refine q8 ?_
 refine SW.loop (fun q E H'=>∃ i : Nat,i ≤ xss.length ∧ q = xss.length - i ∧ E = [(0,a),(3,.nm H.length 0 0 xss.length),(4,I i)] ∧ H' = H ++ ⟨0,tySS,1,cts (H.length + 1) xss i⟩ :: rowsB (xss.take i)) xss.length ⟨0,by omega,by omega,rfl,by simp [cts,nmsB,rowsB]⟩ ?_
 rintro q E H' ⟨i,hi,rfl,rfl,rfl⟩
 have a1':=aview_append a1 (⟨0,tySS,1,cts (H.length + 1) xss i⟩ :: rowsB (xss.take i))
 refine SW.seq ?_;refine SW.seq ?_;refine SW.row ?_;simp only [go_sem,Nat.reduceAdd,Nat.reduceEqDiff,Nat.reduceLeDiff,reduceIte,qG,qH,qK,qL,qJ,qM,qD,qF,decide_true,decide_false,Bool.not_true,Bool.not_false,true_and,and_true,ne_eq,not_true_eq_false,not_false_eq_true,forall_const,qA,q9,a1'];(first|refine SW.cond rfl (fun h=>?_) (fun h=>?_)|(intro _;refine SW.cond rfl (fun h=>?_) (fun h=>?_))|(intro _ _;refine SW.cond rfl (fun h=>?_) (fun h=>?_)))
 ·have hx : i < xss.length:=by have:=of_decide_eq_true h;omega
  have hci : cells[i]? = some cells[i]:=qB (by omega)
  refine SW.skip ?_;simp only [go_sem,Nat.reduceAdd,Nat.reduceEqDiff,Nat.reduceLeDiff,reduceIte,qG,qH,qK,qL,qJ,qM,qD,qF,decide_true,decide_false,Bool.not_true,Bool.not_false,true_and,and_true,ne_eq,not_true_eq_false,not_false_eq_true,forall_const,qA,q9]
  refine SW.seq ?_;refine q8 ?_;refine SW.row ?_;simp only [go_sem,Nat.reduceAdd,Nat.reduceEqDiff,Nat.reduceLeDiff,reduceIte,qG,qH,qK,qL,qJ,qM,qD,qF,decide_true,decide_false,Bool.not_true,Bool.not_false,true_and,and_true,ne_eq,not_true_eq_false,not_false_eq_true,forall_const,qA,q9,idxc a1' hx,ldc a1' hci]
  refine (toInt64S_ok _ _ xss[i] (RdS.append (a3 i _ _ hci (qB hx)) _) (hs' _ (List.getElem_mem hx))).mono ?_
  rintro r H' ⟨rfl,rfl⟩
  have hlen : (H ++ ⟨0,tySS,1,cts (H.length + 1) xss i⟩ :: rowsB (xss.take i)).length = H.length + 1 + i:=by simp [rowsB];omega
  rw [hlen]
  have hcell : ((H ++ ⟨0,tySS,1,cts (H.length + 1) xss i⟩ :: rowsB (xss.take i)) ++ [(⟨0,2,1,xss[i].map I⟩ : Blk)])[H.length]? = some ⟨0,tySS,1,cts (H.length + 1) xss i⟩:=by simp
  have hv:=view_nm hcell (n:=xss.length) (cts_length _ _ hi)
  simp only [go_sem,Nat.reduceAdd,Nat.reduceEqDiff,Nat.reduceLeDiff,reduceIte,qG,qH,qK,qL,qJ,qM,qD,qF,decide_true,decide_false,Bool.not_true,Bool.not_false,true_and,and_true,ne_eq,not_true_eq_false,not_false_eq_true,forall_const,qA,q9,idxc hv hx,store_nm hcell (show i < (cts (H.length + 1) xss i).length by rw [cts_length _ _ hi];exact hx),partsOf_nm,cell1_nm]
  refine SW.row ?_;simp only [go_sem,Nat.reduceAdd,Nat.reduceEqDiff,Nat.reduceLeDiff,reduceIte,qG,qH,qK,qL,qJ,qM,qD,qF,decide_true,decide_false,Bool.not_true,Bool.not_false,true_and,and_true,ne_eq,not_true_eq_false,not_false_eq_true,forall_const,qA,q9,w64_succ hx hl]
  refine wB (xss.length - (i + 1)) (by omega) ⟨i + 1,by omega,rfl,?_,?_⟩
  ·simp only [go_sem,Nat.reduceAdd,Nat.reduceEqDiff,Nat.reduceLeDiff,reduceIte,qG,qH,qK,qL,qJ,qM,qD,qF,decide_true,decide_false,Bool.not_true,Bool.not_false,true_and,and_true,ne_eq,not_true_eq_false,not_false_eq_true,forall_const,qA,q9] <;> rfl
  ·rw [wV,hset0,y7,xG,cts_set _ _ hx]
   congr 2
   rw [xO,qB hx]
   simp only [rowsB,xB,Option.toList_some,qJ,qM]
 ·have hx : i = xss.length:=by have:=of_decide_eq_false h;omega
  subst hx
  refine SW.exit ?_;simp only [go_sem,Nat.reduceAdd,Nat.reduceEqDiff,Nat.reduceLeDiff,reduceIte,qG,qH,qK,qL,qJ,qM,qD,qF,decide_true,decide_false,Bool.not_true,Bool.not_false,true_and,and_true,ne_eq,not_true_eq_false,not_false_eq_true,forall_const,qA,q9]
  refine SW.seq ?_;refine SW.row ?_;simp only [go_sem,Nat.reduceAdd,Nat.reduceEqDiff,Nat.reduceLeDiff,reduceIte,qG,qH,qK,qL,qJ,qM,qD,qF,decide_true,decide_false,Bool.not_true,Bool.not_false,true_and,and_true,ne_eq,not_true_eq_false,not_false_eq_true,forall_const,qA,q9]
  refine SW.ret ?_;(try simp only [go_sem]);refine qP (GR.of ?_);(try simp only [go_sem,Nat.reduceAdd,Nat.reduceEqDiff,Nat.reduceLeDiff,reduceIte,qG,qH,qK,qL,qJ,qM,qD,qF,decide_true,decide_false,Bool.not_true,Bool.not_false,true_and,and_true,ne_eq,not_true_eq_false,not_false_eq_true,forall_const,qA,q9])
  rw [cts_all,wW]
theorem OwnC.names {H : List Blk} {ext : List Blk} {ver ty : Nat} (xss : List (List Int)) : OwnC (H ++ ⟨ver,ty,1,nmsB (H.length + 1) xss⟩ :: (rowsB xss ++ ext)) (Btw H.length (H.length + 1 + xss.length)) H.length ver ty (nmsB (H.length + 1) xss) xss:=by
 refine ⟨⟨by omega,by omega⟩,by simp,nmsB_length _ _,?_,?_⟩
 ·intro j c xs h1 h2
  rw [nmsB_get,h2] at h1
  simp only [Option.map_some,Option.some.injEq] at h1
  subst h1
  have hlt:=(qC.1 h2).1
  refine .inl ⟨_,0,2,rfl,⟨by omega,by omega⟩,by omega,?_⟩
  rw [show H.length + 1 + j = H.length + (j + 1) by omega,hget,q9,qN (by simpa [rowsB] using hlt)]
  simp [rowsB,h2]
 ·intro i j r v o l v' o' l' hij h1 h2
  rw [nmsB_get] at h1 h2
  cases hi : xss[i]? with
  | none=>rw [hi] at h1;simp at h1
  | some x =>
   cases hj : xss[j]? with
   | none=>rw [hj] at h2;simp at h2
   | some y =>
    rw [hi] at h1;rw [hj] at h2
    simp at h1 h2
    omega
theorem _root_.Go.Av.ACalls.gr {P : Program} {f : FuncId} {args : List AV} {H : List Blk} {R0 R : AV → List Blk → Prop} (h : ACalls P f args H R0) (hg : ∀ r H',R0 r H' → GR H R r H') : ACalls P f args H R:=by
 intro B W0 F m w vs h1 h2
 refine (h B W0 F m w vs h1 h2).mono ?_
 rintro e w' ⟨F',m',H',r,v,rfl,g2,g3,g4,g5,g6⟩
 obtain ⟨F2,m2,r2,H2,k1,k2,k3,k4,k5⟩:=hg r H' g6 B W0 F m w F' m' w' v h2 g2 g3 g4 g5
 exact ⟨F2,m2,H2,r2,v,rfl,k1,k2,k3,k4,k5⟩
theorem small_rows {xss : List (List Int)} {z k : Int} (h : 0 ≤ z) (he : z = k - xss.length - total xss) (hk : k ≤ 1073741824) : xss.length ≤ 1073741824 ∧ ∀ xs ∈ xss,xs.length ≤ 1073741824:=by
 refine ⟨by omega,fun xs hx=>?_⟩
 obtain ⟨i,hi,rfl⟩:=List.getElem_of_mem hx
 have h1:=total_take_succ xss hi
 have h2:=total_take_le xss (i + 1)
 omega
end Go.Proofs.YtclfmfabcnbbpaaGreat