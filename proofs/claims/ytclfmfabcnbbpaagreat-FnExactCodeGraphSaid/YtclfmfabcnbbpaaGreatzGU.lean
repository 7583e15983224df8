/- Elimination: the reference. -/
import Derived.Test.YtclfmfabcnbbpaaGreatProg
import Derived.KernelRfl
import Derived.Test.YtclfmfabcnbbpaaGreatzGT
import Derived.Test.YtclfmfabcnbbpaaGreatzGW
import Derived.Test.YtclfmfabcnbbpaaGreatzL8
set_option linter.unusedSimpArgs false
set_option linter.unusedVariables false
set_option maxHeartbeats 4000000
set_option maxRecDepth 100000
open Go.Operand renaming tmp→t'
open Option renaming none→n',some→s'
open Go.Av.SW renaming block→q8,loopE→wJ,condD→wK,condN→wL,condNB→wF,condB→wH,condF→wE,condT→wM
open List renaming getElem?_append_left→qN,length_set→w6,getElem?_eq_some_iff→qC,getD_eq_getElem?_getD→qE,getElem?_map→qX,getElem?_eq_getElem→qB,length_map→w8,getElem_mem→wQ,all_eq_true→w9,take_succ_cons→qI,take_zero→qO,take_succ_eq_append_getElem→xN,mem_append→xA,mem_singleton→xE,take_length→wW,length_take→wT
open Go.Av.SLoop renaming next→wB
open Go.Av.FunPost renaming one→qP,two→qS,three→qQ
open Int renaming eq_ofNat_of_zero_le→wC,toNat_natCast→wA
open Nat renaming pow_pos→yX
namespace Go.Proofs.YtclfmfabcnbbpaaGreat
open Go.Av
abbrev f_spec_l17Own : Nat:=81
def c_spec_l17Own : SC :=
 .seq (.reg [⟨s' 2,.mv (.const (.slice none 0 0)),n'⟩] [0]) (.seq (.reg [⟨s' 5,.bslice 22 1 0 [] [],n'⟩,⟨s' 3,.mv (t' 5),n'⟩] [0,3]) (.seq (.seq (.reg [
 ⟨s' 4,.mv (.const (.int .i64 0)),n'⟩] [0,3,4]) (.block 0 (.loop [0,3,4] (.seq (.seq (.reg [⟨s' 6,.mv (t' 4),n'⟩,⟨s' 7,.mv (t' 0),n'⟩,⟨s' 8,.len (t' 7),n'⟩,
 ⟨s' 9,.bin .lss (t' 6) (t' 8),n'⟩] [0,3,4,9]) (.cond (t' 9) (.skip) (.exit 0))) (.seq (.block 1 (.reg [⟨s' 12,.mv (t' 3),n'⟩,⟨s' 13,.mv (t' 0),n'⟩,⟨s' 14,.mv (t' 4),n'⟩,
 ⟨s' 15,.iaddr 1 (t' 13) (t' 14),n'⟩,⟨s' 16,.load 1 false (t' 15),n'⟩,⟨s' 17,.call 99 [(t' 16)],n'⟩,⟨s' 18,.bslice 22 1 1 [(.slice none 0 0)] [(0,(t' 17))],n'⟩,
 ⟨s' 19,.app 22 1 24 (t' 12) (t' 18),n'⟩,⟨s' 3,.mv (t' 19),n'⟩] [0,3,4])) (.reg [⟨s' 10,.mv (t' 4),n'⟩,⟨s' 11,.bin .add (t' 10) (.const (.int .i64 1)),n'⟩,
 ⟨s' 4,.mv (t' 11),n'⟩] [0,3,4])))))) (.seq (.reg [⟨s' 20,.mv (t' 3),n'⟩,⟨s' 2,.mv (t' 20),n'⟩] [2]) (.ret))))
theorem s_spec_l17Own : stripF Tryz.prog 81 [[0],[0,3],[0,3,4],[0,3,4],[0,3,4,9],[0,3,4],[0,3,4],[2]] = some (c_spec_l17Own,[.tmp 2],21):=by kernel_rfl
theorem l17Own_g (H : List Blk) (xss : List (List Int)) (hl : xss.length ≤ 1000) (hr : ∀ x ∈ xss,x.length ≤ 1000) : ACalls Tryz.prog f_spec_l17Own [ilSS xss] H (fun r H'=>H.length ≤ H'.length ∧ (∀ j,j < H.length → H'[j]? = H[j]?) ∧ TabF H' (fun r=>H.length ≤ r) r xss):=by
 refine ACalls.introB s_spec_l17Own (by simp) ?_;intro hB hA;unfold c_spec_l17Own;simp (disch:=(first|omega|(simp only [go_sem];try omega))) only [go_sem,Nat.reduceAdd,Nat.reduceEqDiff,Nat.reduceLeDiff,reduceIte,w64_id,cast_succ]
 repeat (first|(with_reducible first|refine SW.seq ?_|refine q8 ?_|refine SW.rowC ?_|refine SW.skip ?_|refine SW.exit ?_|intro _|refine And.intro (by omega) ?_)|simp (disch:=(first|omega|(simp only [go_sem];try omega))) only [go_sem,Nat.reduceAdd,Nat.reduceEqDiff,Nat.reduceLeDiff,reduceIte,w64_id,cast_succ])
 refine wJ (fun E0 H0 q E' H'=>∃ (pre post : List (List Int)) (v : AV),xss = pre ++ post ∧ q = post.length ∧ E' = aput (aput E0 4 (I pre.length)) 3 v ∧ TabF H' (fun r=>H.length ≤ r) v pre ∧ H.length ≤ H'.length ∧ ∀ j,j < H.length → H'[j]? = H[j]?) xss.length ⟨[],xss,.nm H.length 0 0 0,rfl,rfl,rfl,.inr ⟨H.length,0,[],rfl,Nat.le_refl _,by simp,rfl,fun j c xs h=>by simp at h⟩,by simp,fun j hj=>by rw [qN hj]⟩ ?_
 rintro q E' H1 ⟨pre,post,v,hpp,rfl,rfl,b2,b3,b4⟩
 simp (disch:=(first|omega|(simp only [go_sem];try omega))) only [go_sem,Nat.reduceAdd,Nat.reduceEqDiff,Nat.reduceLeDiff,reduceIte,w64_id,cast_succ]
 repeat (first|(with_reducible first|refine SW.seq ?_|refine q8 ?_|refine SW.rowC ?_|refine SW.skip ?_|refine SW.exit ?_|intro _|refine And.intro (by omega) ?_)|simp (disch:=(first|omega|(simp only [go_sem];try omega))) only [go_sem,Nat.reduceAdd,Nat.reduceEqDiff,Nat.reduceLeDiff,reduceIte,w64_id,cast_succ])
 (first|refine wK rfl (fun h=>?_) (fun h=>?_)|refine wL rfl (fun h=>?_) (fun h=>?_)|refine wF rfl (fun h=>?_) (fun h=>?_)|refine wH rfl (fun h=>?_) (fun h=>?_))
 ·obtain ⟨y,post,rfl,hg,-⟩:=consOf (d:=[]) hpp (by omega)
  have hyl:=hr y (by rw [hpp];simp)
  have hpl : pre.length + 1 ≤ 1000:=by rw [hpp] at hl;simp at hl;omega
  repeat (first|(with_reducible first|refine SW.seq ?_|refine q8 ?_|refine SW.rowC ?_|refine SW.skip ?_|refine SW.exit ?_|intro _|refine And.intro (by omega) ?_)|simp (disch:=(first|omega|(simp only [go_sem];try omega))) only [go_sem,Nat.reduceAdd,Nat.reduceEqDiff,Nat.reduceLeDiff,reduceIte,w64_id,cast_succ,hg])
  refine (l00OwnB_ok _ y (by omega)).mono ?_
  rintro r H2 ⟨rfl,rfl⟩
  repeat (first|(with_reducible first|refine SW.seq ?_|refine q8 ?_|refine SW.rowC ?_|refine SW.skip ?_|refine SW.exit ?_|intro _|refine And.intro (by omega) ?_)|simp (disch:=(first|omega|(simp only [go_sem];try omega))) only [go_sem,Nat.reduceAdd,Nat.reduceEqDiff,Nat.reduceLeDiff,reduceIte,w64_id,cast_succ])
  have b2':=b2.same (H':=H1 ++ [(⟨1,2,1,y.map I⟩ : Blk),⟨0,22,1,[.nm H1.length 1 0 y.length]⟩]) (N':=fun r=>H.length ≤ r) (fun r hr _=>hr) (fun j b _ hb=>get_appU hb _)
  refine b2'.app (yss:=[y]) rfl (fun j c ys g1 g2=>?_) (by simp;omega) (by simp;omega) ?_
  ·cases j with
   | zero=>cases g1;cases g2;exact .inr (.inr ⟨H1.length,1,rfl,b3,by simp⟩)
   | succ j=>simp at g1
  intro v3 H3 c1 d2 d1 d3 d4
  repeat (first|(with_reducible first|refine SW.seq ?_|refine q8 ?_|refine SW.rowC ?_|refine SW.skip ?_|refine SW.exit ?_|intro _|refine And.intro (by omega) ?_)|simp (disch:=(first|omega|(simp only [go_sem];try omega))) only [go_sem,Nat.reduceAdd,Nat.reduceEqDiff,Nat.reduceLeDiff,reduceIte,w64_id,cast_succ,c1.1,c1.2])
  refine wB post.length (by simp) ⟨pre ++ [y],post,v3,by simp [hpp],rfl,by simp [go_sem],d1,by simp at d2;omega,fun j hj=>?_⟩
  rw [d4 j (by omega) (by simp;omega),qN (by omega)];exact b4 j hj
 ·obtain ⟨rfl,rfl⟩:=nilOf hpp (by omega)
  repeat (first|(with_reducible first|refine SW.seq ?_|refine q8 ?_|refine SW.rowC ?_|refine SW.skip ?_|refine SW.exit ?_|intro _|refine And.intro (by omega) ?_)|simp (disch:=(first|omega|(simp only [go_sem];try omega))) only [go_sem,Nat.reduceAdd,Nat.reduceEqDiff,Nat.reduceLeDiff,reduceIte,w64_id,cast_succ])
  refine SW.ret ?_;(try simp only [go_sem]);(first|refine qP ?_|refine qS ?_|refine qQ ?_);(try simp (disch:=(first|omega|(simp only [go_sem];try omega))) only [go_sem,Nat.reduceAdd,Nat.reduceEqDiff,Nat.reduceLeDiff,reduceIte,w64_id,cast_succ])
  exact GR.of ⟨b3,b4,b2⟩
end Go.Proofs.YtclfmfabcnbbpaaGreat
namespace Go.Proofs.YtclfmfabcnbbpaaGreat
open Go.Av
abbrev f_spec_l17Reduce : Nat:=59
def c_spec_l17Reduce : SC :=
 .seq (.reg [⟨s' 6,.mv (.const (.slice none 0 0)),n'⟩,⟨s' 7,.mv (.const (.slice none 0 0)),n'⟩] [0,1,2]) (.seq (.reg [⟨s' 15,.mv (t' 1),n'⟩,⟨s' 16,.call 81 [(t' 15)],n'⟩,
 ⟨s' 8,.mv (t' 16),n'⟩] [0,2,8]) (.seq (.reg [⟨s' 17,.bslice 2 1 0 [] [],n'⟩,⟨s' 9,.mv (t' 17),n'⟩] [0,2,8,9]) (.seq (.seq (.reg [
 ⟨s' 10,.mv (.const (.int .i64 0)),n'⟩] [0,2,8,9,10]) (.block 0 (.loop [0,2,8,9,10] (.seq (.seq (.reg [⟨s' 18,.mv (t' 10),n'⟩,⟨s' 19,.mv (t' 2),n'⟩,
 ⟨s' 20,.bin .lss (t' 18) (t' 19),n'⟩,⟨s' 21,.mv (t' 20),n'⟩,⟨s' 22,.mv (t' 9),(some (21,true))⟩,⟨s' 23,.len (t' 22),(some (21,true))⟩,⟨s' 24,.mv (t' 8),(some (21,true))⟩,
 ⟨s' 25,.len (t' 24),(some (21,true))⟩,⟨s' 26,.bin .lss (t' 23) (t' 25),(some (21,true))⟩,⟨s' 27,.pick (t' 21) (t' 26) (.const (.bool false)),n'⟩] [0,2,8,9,10,27]) (.cond (t' 27)
 (.skip) (.exit 0))) (.seq (.block 1 (.seq (.reg [⟨s' 30,.mv (t' 9),n'⟩,⟨s' 31,.len (t' 30),n'⟩,⟨s' 11,.mv (t' 31),n'⟩] [0,2,8,9,10,11]) (.seq (.reg [⟨s' 32,.mv (t' 11),n'⟩,
 ⟨s' 12,.mv (t' 32),n'⟩] [0,2,8,9,10,11,12]) (.seq (.block 2 (.loop [0,2,8,9,10,11,12] (.seq (.seq (.reg [⟨s' 33,.mv (t' 12),n'⟩,⟨s' 34,.mv (t' 8),n'⟩,⟨s' 35,.len (t' 34),n'⟩,
 ⟨s' 36,.bin .lss (t' 33) (t' 35),n'⟩,⟨s' 37,.mv (t' 36),n'⟩,⟨s' 38,.mv (t' 8),(some (37,true))⟩,⟨s' 39,.mv (t' 12),(some (37,true))⟩,
 ⟨s' 40,.iaddr 1 (t' 38) (t' 39),(some (37,true))⟩,⟨s' 41,.load 1 false (t' 40),(some (37,true))⟩,⟨s' 42,.mv (t' 10),(some (37,true))⟩,
 ⟨s' 43,.iaddr 1 (t' 41) (t' 42),(some (37,true))⟩,⟨s' 44,.load 1 false (t' 43),(some (37,true))⟩,⟨s' 45,.bin .eql (t' 44) (.const (.int .i64 0)),(some (37,true))⟩,
 ⟨s' 46,.pick (t' 37) (t' 45) (.const (.bool false)),n'⟩] [0,2,8,9,10,11,12,46]) (.cond (t' 46) (.skip) (.exit 2))) (.block 3 (.reg [⟨s' 47,.mv (t' 12),n'⟩,
 ⟨s' 48,.bin .add (t' 47) (.const (.int .i64 1)),n'⟩,⟨s' 12,.mv (t' 48),n'⟩] [0,2,8,9,10,11,12]))))) (.seq (.seq (.reg [⟨s' 49,.mv (t' 12),n'⟩,⟨s' 50,.mv (t' 8),n'⟩,
 ⟨s' 51,.len (t' 50),n'⟩,⟨s' 52,.bin .eql (t' 49) (t' 51),n'⟩] [0,2,8,9,10,11,12,52]) (.cond (t' 52) (.exit 1) (.skip))) (.seq (.reg [⟨s' 53,.mv (t' 0),n'⟩,⟨s' 54,.mv (t' 8),n'⟩,
 ⟨s' 55,.mv (t' 12),n'⟩,⟨s' 56,.iaddr 1 (t' 54) (t' 55),n'⟩,⟨s' 57,.load 1 false (t' 56),n'⟩,⟨s' 58,.mv (t' 0),n'⟩,⟨s' 59,.mv (t' 8),n'⟩,⟨s' 60,.mv (t' 12),n'⟩,
 ⟨s' 61,.iaddr 1 (t' 59) (t' 60),n'⟩,⟨s' 62,.load 1 false (t' 61),n'⟩,⟨s' 63,.mv (t' 10),n'⟩,⟨s' 64,.iaddr 1 (t' 62) (t' 63),n'⟩,⟨s' 65,.load 1 false (t' 64),n'⟩,
 ⟨s' 66,.qcall 82 [(t' 58),(t' 65)],n'⟩,⟨s' 67,.qcall 60 [(t' 53),(t' 57),(t' 66)],n'⟩,⟨s' 13,.mv (t' 67),n'⟩] [0,2,8,9,10,11,12,13]) (.seq (.reg [⟨s' 68,.mv (t' 8),n'⟩,
 ⟨s' 69,.mv (t' 12),n'⟩,⟨s' 70,.mv (t' 8),n'⟩,⟨s' 71,.mv (t' 11),n'⟩,⟨s' 72,.iaddr 1 (t' 70) (t' 71),n'⟩,⟨s' 73,.load 1 false (t' 72),n'⟩,⟨s' 74,.iaddr 1 (t' 68) (t' 69),n'⟩,
 ⟨n',.store 1 (t' 74) (t' 73),n'⟩] [0,2,8,9,10,11,13]) (.seq (.reg [⟨s' 75,.mv (t' 8),n'⟩,⟨s' 76,.mv (t' 11),n'⟩,⟨s' 77,.mv (t' 13),n'⟩,⟨s' 78,.iaddr 1 (t' 75) (t' 76),n'⟩,
 ⟨n',.store 1 (t' 78) (t' 77),n'⟩] [0,2,8,9,10,11,13]) (.seq (.seq (.reg [⟨s' 14,.mv (.const (.int .i64 0)),n'⟩] [0,2,8,9,10,11,13,14]) (.block 4 (.loop [0,2,8,9,10,11,13,14]
 (.seq (.seq (.reg [⟨s' 79,.mv (t' 14),n'⟩,⟨s' 80,.mv (t' 8),n'⟩,⟨s' 81,.len (t' 80),n'⟩,⟨s' 82,.bin .lss (t' 79) (t' 81),n'⟩] [0,2,8,9,10,11,13,14,82]) (.cond (t' 82) (.skip)
 (.exit 4))) (.seq (.block 5 (.seq (.reg [⟨s' 85,.mv (t' 14),n'⟩,⟨s' 86,.mv (t' 11),n'⟩,⟨s' 87,.bin .neq (t' 85) (t' 86),n'⟩] [0,2,8,9,10,11,13,14,87]) (.cond (t' 87) (.reg [
 ⟨s' 88,.mv (t' 8),n'⟩,⟨s' 89,.mv (t' 14),n'⟩,⟨s' 90,.mv (t' 0),n'⟩,⟨s' 91,.mv (t' 8),n'⟩,⟨s' 92,.mv (t' 14),n'⟩,⟨s' 93,.iaddr 1 (t' 91) (t' 92),n'⟩,
 ⟨s' 94,.load 1 false (t' 93),n'⟩,⟨s' 95,.mv (t' 13),n'⟩,⟨s' 96,.mv (t' 8),n'⟩,⟨s' 97,.mv (t' 14),n'⟩,⟨s' 98,.iaddr 1 (t' 96) (t' 97),n'⟩,⟨s' 99,.load 1 false (t' 98),n'⟩,
 ⟨s' 100,.mv (t' 10),n'⟩,⟨s' 101,.iaddr 1 (t' 99) (t' 100),n'⟩,⟨s' 102,.load 1 false (t' 101),n'⟩,⟨s' 103,.qcall 83 [(t' 90),(t' 94),(t' 95),(t' 102)],n'⟩,
 ⟨s' 104,.iaddr 1 (t' 88) (t' 89),n'⟩,⟨n',.store 1 (t' 104) (t' 103),n'⟩] [0,2,8,9,10,11,13,14]) (.skip)))) (.reg [⟨s' 83,.mv (t' 14),n'⟩,
 ⟨s' 84,.bin .add (t' 83) (.const (.int .i64 1)),n'⟩,⟨s' 14,.mv (t' 84),n'⟩] [0,2,8,9,10,11,13,14])))))) (.reg [⟨s' 105,.mv (t' 9),n'⟩,⟨s' 106,.mv (t' 10),n'⟩,
 ⟨s' 107,.bslice 2 1 1 [(.int .i64 0)] [(0,(t' 106))],n'⟩,⟨s' 108,.app 2 1 8 (t' 105) (t' 107),n'⟩,⟨s' 9,.mv (t' 108),n'⟩] [0,2,8,9,10])))))))))) (.reg [⟨s' 28,.mv (t' 10),n'⟩,
 ⟨s' 29,.bin .add (t' 28) (.const (.int .i64 1)),n'⟩,⟨s' 10,.mv (t' 29),n'⟩] [0,2,8,9,10])))))) (.seq (.reg [⟨s' 109,.mv (t' 8),n'⟩,⟨s' 110,.mv (t' 9),n'⟩,⟨s' 6,.mv (t' 109),n'⟩,
 ⟨s' 7,.mv (t' 110),n'⟩] [6,7]) (.ret)))))
theorem s_spec_l17Reduce : stripF Tryz.prog 59 [[0,1,2],[0,2,8],[0,2,8,9],[0,2,8,9,10],[0,2,8,9,10],[0,2,8,9,10,27],[0,2,8,9,10,11],[0,2,8,9,10,11,12],[0,2,8,9,10,11,12],[0,2,8,9,10,11,12,46],[0,2,8,9,10,11,12],[0,2,8,9,10,11,12,52],[0,2,8,9,10,11,12,13],[0,2,8,9,10,11,13],[0,2,8,9,10,11,13],[0,2,8,9,10,11,13,14],[0,2,8,9,10,11,13,14],[0,2,8,9,10,11,13,14,82],[0,2,8,9,10,11,13,14,87],[0,2,8,9,10,11,13,14],[0,2,8,9,10,11,13,14],[0,2,8,9,10],[0,2,8,9,10],[6,7]] = some (c_spec_l17Reduce,[.tmp 6,.tmp 7],111):=by kernel_rfl
structure ElR (H X : List Blk) (pp : Nat) (v pv : AV) (xs : List (List Int)) (t : Nat) : Prop where
 len : H.length ≤ X.length
 fr : ∀ j,j < H.length → X[j]? = H[j]?
 tab : TabF X (fun r=>H.length ≤ r ∧ r ≠ pp) v xs
 piv : ∃ (pvr : Nat) (ps : List Int),pv = .nm pp pvr 0 t ∧ ps.length = t ∧ X[pp]? = some ⟨pvr,2,1,ps.map I⟩
 pl : H.length ≤ pp
theorem ElR.put {H X : List Blk} {pp t j : Nat} {v pv c : AV} {xs : List (List Int)} {ys : List Int} (h : ElR H X pp v pv xs t) (hj : j < xs.length) (hc : RowF X (fun r=>H.length ≤ r ∧ r ≠ pp) c ys) :
  ∃ X',astore X [c] (.el v j) = some X' ∧ ElR H X' pp v pv (xs.set j ys) t:=by
 obtain ⟨X',h1,h2,h3,h4,h5⟩:=h.tab.put hj hc
 obtain ⟨pvr,ps,e1,e2,e3⟩:=h.piv
 exact ⟨X',h1,by rw [h2];exact h.len,fun i hi=>by rw [h5 i (by omega)];exact h.fr i hi,h3,⟨pvr,ps,e1,e2,h4 _ _ e3 (show (2 : Nat) ≠ tyLL by decide)⟩,h.pl⟩
theorem ElR.cell {H X : List Blk} {pp t j : Nat} {v pv : AV} {xs : List (List Int)} (h : ElR H X pp v pv xs t) (hj : j < xs.length) : ∃ c cells,aview X v = some (xs.length,cells) ∧ cells[j]? = some c ∧ RowF X (fun r=>H.length ≤ r ∧ r ≠ pp) c (xs.getD j []):=h.tab.cell hj
theorem appN8e {X : List Blk} {t ver n ty : Nat} {cells : List AV} {c : AV} {K : AV → List Blk → Prop} (hX : X[t]? = some ⟨ver,ty,1,cells⟩) (hl : cells.length = n) (hn : n ≤ 100000) (hk : ∀ Z : List Blk,Z.length = X.length → Z[t]? = some ⟨ver + 1,ty,1,cells ++ [c]⟩ → (∀ j,j ≠ t → Z[j]? = X[j]?) → K (.nm t (ver + 1) 0 (n + 1)) Z) :
  AppN ty 1 8 t ver n 1 [c] X K X[t]?:=by
 have htl : cells.take (n * 1) = cells:=List.take_of_length_le (by omega)
 simp only [AppN,hX]
 refine ⟨trivial,trivial,trivial,by simp [hl],by omega,by omega,?_⟩
 rw [htl]
 exact hk _ w6 (List.getElem?_set_self (qC.1 hX).1) fun j hj=>List.getElem?_set_ne (Ne.symm hj)
def midR (P K : Nat) (L : List Int) (xs : List (List Int)) (R : List Int) (t i k j : Nat) : List (List Int) :=
 (List.range xs.length).map fun q=>if q = t then R else if q < j then lsL P K L (oldR xs t i q) R ((oldR xs t i q).getD k 0).toNat else oldR xs t i q
section
variable {P K : Nat} {L : List Int} {xs : List (List Int)} {R : List Int} {t i k j : Nat}
theorem midR_len : (midR P K L xs R t i k j).length = xs.length:=by simp [midR]
theorem midR_get {q : Nat} (hq : q < xs.length) : (midR P K L xs R t i k j).getD q [] = if q = t then R else if q < j then lsL P K L (oldR xs t i q) R ((oldR xs t i q).getD k 0).toNat else oldR xs t i q:=by
 unfold midR
 rw [qE,qX,List.getElem?_range hq];rfl
theorem lists_ext {A B : List (List Int)} (hl : A.length = B.length) (h : ∀ q,q < A.length → A.getD q [] = B.getD q []) : A = B:=by
 refine List.ext_getElem hl fun q h1 h2=>?_
 have:=h q h1
 rw [qE,qE,qB h1,qB h2] at this
 exact this
theorem getD_set' {A : List (List Int)} {q p : Nat} {y : List Int} (hq : q < A.length) : (A.set p y).getD q [] = if q = p then y else A.getD q []:=by
 rw [qE,List.getElem?_set]
 by_cases h : p = q
 ·rw [if_pos h,if_pos h.symm,if_pos (by omega)];rfl
 ·rw [if_neg h,if_neg (Ne.symm h),qE]
theorem midR_zero (ht : t < xs.length) (hi : i < xs.length) : (xs.set i (xs.getD t [])).set t R = midR P K L xs R t i k 0:=by
 refine lists_ext (by rw [midR_len];simp) fun q hq=>?_
 simp only [w6] at hq
 rw [midR_get hq,getD_set' (by simpa using hq),getD_set' hq]
 by_cases h : q = t
 ·rw [if_pos h,if_pos h]
 ·rw [if_neg h,if_neg h,if_neg (show ¬ q < 0 by omega)]
  unfold oldR
  rfl
theorem midR_succ (hj : j < xs.length) (hjt : j ≠ t) : (midR P K L xs R t i k j).set j (lsL P K L (oldR xs t i j) R ((oldR xs t i j).getD k 0).toNat) = midR P K L xs R t i k (j + 1):=by
 refine lists_ext (by rw [midR_len,w6,midR_len]) fun q hq=>?_
 rw [w6,midR_len] at hq
 rw [midR_get hq,getD_set' (by rw [midR_len];exact hq),midR_get hq]
 by_cases h : q = j
 ·rw [if_pos h,h,if_neg hjt,if_pos (by omega)]
 ·rw [if_neg h]
  by_cases h2 : q = t
  ·rw [if_pos h2,if_pos h2]
  ·rw [if_neg h2,if_neg h2]
   by_cases h3 : q < j
   ·rw [if_pos h3,if_pos (by omega)]
   ·rw [if_neg h3,if_neg (by omega)]
theorem midR_skip (hj : j < xs.length) (hjt : j = t) : midR P K L xs R t i k j = midR P K L xs R t i k (j + 1):=by
 refine lists_ext (by rw [midR_len,midR_len]) fun q hq=>?_
 rw [midR_len] at hq
 rw [midR_get hq,midR_get hq]
 by_cases h2 : q = t
 ·rw [if_pos h2,if_pos h2]
 ·rw [if_neg h2,if_neg h2]
  by_cases h3 : q < j
  ·rw [if_pos h3,if_pos (by omega)]
  ·rw [if_neg h3,if_neg (by omega)]
theorem midR_end (b : Nat) (hR : scL P K L (xs.getD i []) b = R) : midR P K L xs R t i k xs.length = stepR P K L xs t i k b:=by
 unfold midR stepR
 rw [hR]
 refine List.map_congr_left fun q hq=>?_
 rw [if_pos (List.mem_range.1 hq)]
end
theorem l17Reduce_g (H : List Blk) (r ty P K : Nat) (L : List Int) (rest : List AV) (m : List (List Int)) (w : Nat) (hr : H[r]? = some (fdC ty P K L rest)) (hpb : 2 ≤ P ∧ P ≤ 64) (hkb : 1 ≤ K ∧ K ≤ 6) (hLb : OkD P L ∧ L.length = K + 1) (hF : FldR P K L) (hq : P ^ K ≤ 64) (hm : MatB (P ^ K) w m) (hn : 1 ≤ m.length ∧ m.length ≤ 32) (hw : 1 ≤ w ∧ w ≤ 32) :
  ACalls Tryz.prog f_spec_l17Reduce [.pc r 0 0,ilSS m,I w] H (fun v H'=>∃ (pp : Nat) (out pv : AV) (xs : List (List Int)) (t k : Nat),v = .tup [out,pv] ∧ InvE m w xs k t ∧ (k = w ∨ t = m.length) ∧ ElR H H' pp out pv xs t):=by
 have hP : P ≤ P ^ K:=Nat.le_self_pow (by omega) P
 refine ACalls.introB s_spec_l17Reduce (by simp) ?_;intro hB hA;unfold c_spec_l17Reduce;simp (disch:=(first|omega|(simp only [go_sem];try omega))) only [go_sem,Nat.reduceAdd,Nat.reduceEqDiff,Nat.reduceLeDiff,reduceIte,w64_id,cast_succ]
 repeat (first|(with_reducible first|refine SW.seq ?_|refine q8 ?_|refine SW.rowC ?_|refine SW.skip ?_|refine SW.exit ?_|intro _|refine And.intro (by omega) ?_)|simp (disch:=(first|omega|(simp only [go_sem];try omega))) only [go_sem,Nat.reduceAdd,Nat.reduceEqDiff,Nat.reduceLeDiff,reduceIte,w64_id,cast_succ])
 refine (l17Own_g H m (by omega) (fun x hx=>by have:=(hm x hx).1;omega)).mono ?_
 rintro v X ⟨hXl,hXf,htab⟩
 repeat (first|(with_reducible first|refine SW.seq ?_|refine q8 ?_|refine SW.rowC ?_|refine SW.skip ?_|refine SW.exit ?_|intro _|refine And.intro (by omega) ?_)|simp (disch:=(first|omega|(simp only [go_sem];try omega))) only [go_sem,Nat.reduceAdd,Nat.reduceEqDiff,Nat.reduceLeDiff,reduceIte,w64_id,cast_succ])
 have hml:=hn
 have hE0 : ElR H (X ++ [⟨0,2,1,[]⟩]) X.length v (.nm X.length 0 0 0) m 0:=by
  refine ⟨by simp;omega,fun j hj=>by rw [qN (by omega)];exact hXf j hj,htab.same (fun r hr hl=>⟨hr,by omega⟩) (fun j b _ hb=>get_appU hb _),⟨0,[],rfl,rfl,by simp⟩,hXl⟩
 refine wJ (fun E0 H0 q E' H'=>∃ (k t : Nat) (pv : AV) (xs : List (List Int)),k ≤ w ∧ q = w - k ∧ E' = aput (aput E0 10 (I k)) 9 pv ∧ ElR H H' X.length v pv xs t ∧ InvE m w xs k t ∧ MatB (P ^ K) w xs) w ⟨0,0,_,m,by omega,by omega,rfl,hE0,InvE.zero m w,hm⟩ ?_
 clear hE0
 obtain ⟨pp,hpp⟩ : ∃ pp,pp = X.length:=⟨_,rfl⟩
 rw [← hpp]
 clear hXl hXf htab
 rintro q E' Y ⟨k,t,pv,xs,hk,rfl,rfl,hE,hI,hM⟩
 obtain ⟨pvr,ps,rfl,hps,hpb2⟩:=hE.piv
 have hxl : xs.length = m.length:=hI.1
 have htl : t ≤ m.length:=hI.2.1
 obtain ⟨c0,cells,hvw,-,-⟩:=hE.tab.cell (j:=0) (by omega)
 have hpvw : aview Y (.nm pp pvr 0 t) = some (t,ps.map I):=view_nm hpb2 (by simp [hps])
 simp (disch:=(first|omega|(simp only [go_sem];try omega))) only [go_sem,Nat.reduceAdd,Nat.reduceEqDiff,Nat.reduceLeDiff,reduceIte,w64_id,cast_succ]
 repeat (first|(with_reducible first|refine SW.seq ?_|refine q8 ?_|refine SW.rowC ?_|refine SW.skip ?_|refine SW.exit ?_|intro _|refine And.intro (by omega) ?_)|simp (disch:=(first|omega|(simp only [go_sem];try omega))) only [go_sem,Nat.reduceAdd,Nat.reduceEqDiff,Nat.reduceLeDiff,reduceIte,w64_id,cast_succ,hvw,hpvw])
 by_cases hkw : k < w
 rotate_left
 ·have hke : k = w:=by omega
  subst hke
  have d1 : decide ((k : Int) < k) = false:=decide_eq_false (by omega)
  repeat (first|(with_reducible first|refine SW.seq ?_|refine q8 ?_|refine SW.rowC ?_|refine SW.skip ?_|refine SW.exit ?_|intro _|refine And.intro (by omega) ?_)|simp (disch:=(first|omega|(simp only [go_sem];try omega))) only [go_sem,Nat.reduceAdd,Nat.reduceEqDiff,Nat.reduceLeDiff,reduceIte,w64_id,cast_succ,hvw,hpvw,d1])
  refine wE rfl ?_
  repeat (first|(with_reducible first|refine SW.seq ?_|refine q8 ?_|refine SW.rowC ?_|refine SW.skip ?_|refine SW.exit ?_|intro _|refine And.intro (by omega) ?_)|simp (disch:=(first|omega|(simp only [go_sem];try omega))) only [go_sem,Nat.reduceAdd,Nat.reduceEqDiff,Nat.reduceLeDiff,reduceIte,w64_id,cast_succ])
  refine SW.ret ?_;(try simp only [go_sem]);(first|refine qP ?_|refine qS ?_|refine qQ ?_);(try simp (disch:=(first|omega|(simp only [go_sem];try omega))) only [go_sem,Nat.reduceAdd,Nat.reduceEqDiff,Nat.reduceLeDiff,reduceIte,w64_id,cast_succ])
  exact GR.of ⟨pp,v,_,xs,t,k,rfl,hI,.inl rfl,hE⟩
 ·have d1 : decide ((k : Int) < w) = true:=decide_eq_true (by omega)
  by_cases htn : t < xs.length
  rotate_left
  ·have d2 : decide ((t : Int) < xs.length) = false:=decide_eq_false (by omega)
   repeat (first|(with_reducible first|refine SW.seq ?_|refine q8 ?_|refine SW.rowC ?_|refine SW.skip ?_|refine SW.exit ?_|intro _|refine And.intro (by omega) ?_)|simp (disch:=(first|omega|(simp only [go_sem];try omega))) only [go_sem,Nat.reduceAdd,Nat.reduceEqDiff,Nat.reduceLeDiff,reduceIte,w64_id,cast_succ,hvw,hpvw,d1,d2])
   refine wE rfl ?_
   repeat (first|(with_reducible first|refine SW.seq ?_|refine q8 ?_|refine SW.rowC ?_|refine SW.skip ?_|refine SW.exit ?_|intro _|refine And.intro (by omega) ?_)|simp (disch:=(first|omega|(simp only [go_sem];try omega))) only [go_sem,Nat.reduceAdd,Nat.reduceEqDiff,Nat.reduceLeDiff,reduceIte,w64_id,cast_succ])
   refine SW.ret ?_;(try simp only [go_sem]);(first|refine qP ?_|refine qS ?_|refine qQ ?_);(try simp (disch:=(first|omega|(simp only [go_sem];try omega))) only [go_sem,Nat.reduceAdd,Nat.reduceEqDiff,Nat.reduceLeDiff,reduceIte,w64_id,cast_succ])
   exact GR.of ⟨pp,v,_,xs,t,k,rfl,hI,.inr (by omega),hE⟩
  ·have d2 : decide ((t : Int) < xs.length) = true:=decide_eq_true (by omega)
   repeat (first|(with_reducible first|refine SW.seq ?_|refine q8 ?_|refine SW.rowC ?_|refine SW.skip ?_|refine SW.exit ?_|intro _|refine And.intro (by omega) ?_)|simp (disch:=(first|omega|(simp only [go_sem];try omega))) only [go_sem,Nat.reduceAdd,Nat.reduceEqDiff,Nat.reduceLeDiff,reduceIte,w64_id,cast_succ,hvw,hpvw,d1,d2])
   refine wM rfl ?_
   repeat (first|(with_reducible first|refine SW.seq ?_|refine q8 ?_|refine SW.rowC ?_|refine SW.skip ?_|refine SW.exit ?_|intro _|refine And.intro (by omega) ?_)|simp (disch:=(first|omega|(simp only [go_sem];try omega))) only [go_sem,Nat.reduceAdd,Nat.reduceEqDiff,Nat.reduceLeDiff,reduceIte,w64_id,cast_succ,hpvw])
   have cel : ∀ j,j < xs.length → ∃ c,cells[j]? = some c ∧ RowF Y (fun r=>H.length ≤ r ∧ r ≠ pp) c (xs.getD j []):=fun j hj=>by
    obtain ⟨c,cells2,h1,h2,h3⟩:=hE.tab.cell hj
    rw [hvw] at h1;cases h1
    exact ⟨c,h2,h3⟩
   refine wJ (fun E0 H0 q E' H'=>∃ i : Nat,t ≤ i ∧ i ≤ xs.length ∧ q = xs.length - i ∧ E' = aput E0 12 (I i) ∧ H' = H0 ∧ ∀ i',t ≤ i' → i' < i → ent xs i' k = 0) (xs.length - t) ⟨t,Nat.le_refl _,by omega,rfl,rfl,rfl,fun i' h1 h2=>by omega⟩ ?_
   rintro q E' Y ⟨i,hti,hin,rfl,rfl,rfl,hzero⟩
   by_cases hi : i < xs.length
   rotate_left
   ·have hie : i = xs.length:=by omega
    have d3 : decide ((i : Int) < xs.length) = false:=decide_eq_false (by omega)
    have d4 : decide ((i : Int) = xs.length) = true:=decide_eq_true (by omega)
    have hcz : colZ xs k t = true:=colZ_iff.2 fun i' h1 h2=>hzero i' h2 (by omega)
    simp (disch:=(first|omega|(simp only [go_sem];try omega))) only [go_sem,Nat.reduceAdd,Nat.reduceEqDiff,Nat.reduceLeDiff,reduceIte,w64_id,cast_succ]
    repeat (first|(with_reducible first|refine SW.seq ?_|refine q8 ?_|refine SW.rowC ?_|refine SW.skip ?_|refine SW.exit ?_|intro _|refine And.intro (by omega) ?_)|simp (disch:=(first|omega|(simp only [go_sem];try omega))) only [go_sem,Nat.reduceAdd,Nat.reduceEqDiff,Nat.reduceLeDiff,reduceIte,w64_id,cast_succ,hvw,d3])
    refine wE rfl ?_
    repeat (first|(with_reducible first|refine SW.seq ?_|refine q8 ?_|refine SW.rowC ?_|refine SW.skip ?_|refine SW.exit ?_|intro _|refine And.intro (by omega) ?_)|simp (disch:=(first|omega|(simp only [go_sem];try omega))) only [go_sem,Nat.reduceAdd,Nat.reduceEqDiff,Nat.reduceLeDiff,reduceIte,w64_id,cast_succ,hvw,d4])
    refine wM rfl ?_
    repeat (first|(with_reducible first|refine SW.seq ?_|refine q8 ?_|refine SW.rowC ?_|refine SW.skip ?_|refine SW.exit ?_|intro _|refine And.intro (by omega) ?_)|simp (disch:=(first|omega|(simp only [go_sem];try omega))) only [go_sem,Nat.reduceAdd,Nat.reduceEqDiff,Nat.reduceLeDiff,reduceIte,w64_id,cast_succ])
    exact wB (w - (k + 1)) (by omega) ⟨k + 1,t,_,xs,by omega,rfl,by simp [go_sem],hE,hI.skip hkw (by omega) hcz,hM⟩
   ·have d3 : decide ((i : Int) < xs.length) = true:=decide_eq_true (by omega)
    obtain ⟨ci,hci,hrow⟩:=cel i hi
    have hrl:=(hM.row hi).1
    have hrd:=hrow.rd
    unfold RdS at hrd
    have hek : ((xs.getD i []).map I)[k]? = some (I (ent xs i k)):=by
     unfold ent
     rw [qX,qE (l:=xs.getD i []),qB (by omega)];rfl
    rw [hrl] at hrd
    simp (disch:=(first|omega|(simp only [go_sem];try omega))) only [go_sem,Nat.reduceAdd,Nat.reduceEqDiff,Nat.reduceLeDiff,reduceIte,w64_id,cast_succ]
    by_cases hz : ent xs i k = 0
    ·have d5 : decide (ent xs i k = 0) = true:=decide_eq_true hz
     repeat (first|(with_reducible first|refine SW.seq ?_|refine q8 ?_|refine SW.rowC ?_|refine SW.skip ?_|refine SW.exit ?_|intro _|refine And.intro (by omega) ?_)|simp (disch:=(first|omega|(simp only [go_sem];try omega))) only [go_sem,Nat.reduceAdd,Nat.reduceEqDiff,Nat.reduceLeDiff,reduceIte,w64_id,cast_succ,hvw,d3,hci,hrd,hek,d5])
     refine wM rfl ?_
     repeat (first|(with_reducible first|refine SW.seq ?_|refine q8 ?_|refine SW.rowC ?_|refine SW.skip ?_|refine SW.exit ?_|intro _|refine And.intro (by omega) ?_)|simp (disch:=(first|omega|(simp only [go_sem];try omega))) only [go_sem,Nat.reduceAdd,Nat.reduceEqDiff,Nat.reduceLeDiff,reduceIte,w64_id,cast_succ])
     exact wB (xs.length - (i + 1)) (by omega) ⟨i + 1,by omega,by omega,rfl,by simp [go_sem],rfl,fun i' h1 h2=>by
      by_cases e : i' = i
      ·rw [e];exact hz
      ·exact hzero i' h1 (by omega)⟩
    ·have d5 : decide (ent xs i k = 0) = false:=decide_eq_false hz
     have d4 : decide ((i : Int) = xs.length) = false:=decide_eq_false (by omega)
     have heb:=hM.ent (by omega) i k
     obtain ⟨x,hxe⟩:=wC heb.1
     rw [hxe] at hek hz heb
     have hxq : x < P ^ K:=by omega
     obtain ⟨b0,hb1,hb2,hb3⟩:=hF.inv x (by omega) hxq
     have hrY : Y[r]? = some (fdC ty P K L rest):=by rw [hE.fr r (qC.1 hr).1];exact hr
     obtain ⟨b,hbb1,hbb2,hbm,hbmin⟩:=min_of (p:=fun b=>mulG P K L x b = 1) b0 hb1 hb3
     have d6 : decide ((x : Int) = 0) = false:=decide_eq_false (by omega)
     repeat (first|(with_reducible first|refine SW.seq ?_|refine q8 ?_|refine SW.rowC ?_|refine SW.skip ?_|refine SW.exit ?_|intro _|refine And.intro (by omega) ?_)|simp (disch:=(first|omega|(simp only [go_sem];try omega))) only [go_sem,Nat.reduceAdd,Nat.reduceEqDiff,Nat.reduceLeDiff,reduceIte,w64_id,cast_succ,hvw,d3,hci,hrd,hek,d5,d6])
     refine wE rfl ?_
     repeat (first|(with_reducible first|refine SW.seq ?_|refine q8 ?_|refine SW.rowC ?_|refine SW.skip ?_|refine SW.exit ?_|intro _|refine And.intro (by omega) ?_)|simp (disch:=(first|omega|(simp only [go_sem];try omega))) only [go_sem,Nat.reduceAdd,Nat.reduceEqDiff,Nat.reduceLeDiff,reduceIte,w64_id,cast_succ,hvw,d4])
     refine wE rfl ?_
     repeat (first|(with_reducible first|refine SW.seq ?_|refine q8 ?_|refine SW.rowC ?_|refine SW.skip ?_|refine SW.exit ?_|intro _|refine And.intro (by omega) ?_)|simp (disch:=(first|omega|(simp only [go_sem];try omega))) only [go_sem,Nat.reduceAdd,Nat.reduceEqDiff,Nat.reduceLeDiff,reduceIte,w64_id,cast_succ,hvw,hci,hrd,hek])
     refine QcallW.of (fun ext=>l03Inverse_g (Y ++ ext) r ty P K L rest x b (get_appU hrY ext) hpb hkb hLb (by omega) hbb1 (by omega) hbm hbmin) ?_
     repeat (first|(with_reducible first|refine SW.seq ?_|refine q8 ?_|refine SW.rowC ?_|refine SW.skip ?_|refine SW.exit ?_|intro _|refine And.intro (by omega) ?_)|simp (disch:=(first|omega|(simp only [go_sem];try omega))) only [go_sem,Nat.reduceAdd,Nat.reduceEqDiff,Nat.reduceLeDiff,reduceIte,w64_id,cast_succ,hvw,hci])
     have hri:=hM.row hi
     refine QcallW.of (fun ext=>l17Scale_q (Y ++ ext) r ty P K L rest ci (xs.getD i []) b (get_appU hrY ext) hpb hkb hLb (by omega) (hrow.rd.append ext) (by omega) (fun y hy=>by have:=hri.2 y hy;omega)) ?_
     have hst:=stepR_ok (i:=i) hpb.1 hpb.2 hLb hF (by omega) hP hM htn hi hti hkw (show b < P ^ K by omega) (by rw [hxe];omega) hzero (by rw [hxe];exact hbm) (by rw [hxe];exact hbmin) hbb1
     have hsm:=stepR_mat (i:=i) (k:=k) (b:=b) hpb.1 hpb.2 hLb hM htn hi
     have hsl : (stepR P K L xs t i k b).length = xs.length:=stepR_len
     have hsr:=fun j (hj : j < xs.length)=>stepR_row (P:=P) (K:=K) (L:=L) (t:=t) (i:=i) (k:=k) (b:=b) hj
     have hzc : colZ xs k t = false:=by
      rw [Bool.eq_false_iff]
      intro h
      rw [colZ_iff] at h
      have:=h i hi hti
      rw [hxe] at this;omega
     have hrowl : (scL P K L (xs.getD i []) b).length = w:=by unfold scL;rw [w8];exact hri.1
     have hrowx : ∀ y ∈ scL P K L (xs.getD i []) b,0 ≤ y ∧ y < ((P ^ K : Nat) : Int):=fun y hy=>by
      obtain ⟨u,_,rfl⟩:=List.mem_map.1 hy
      exact mulG_bd hpb.1 hpb.2 hLb
     have hend:=fun (R : List Int) (h : scL P K L (xs.getD i []) b = R)=>midR_end (t:=t) (k:=k) b h
     generalize hR : scL P K L (xs.getD i []) b = R at *
     replace hend:=hend R rfl
     obtain ⟨ct,hct,hrt⟩:=cel t htn
     have ht1:=hrt.one
     obtain ⟨Y1,w1,hE1⟩:=hE.put hi hrt
     obtain ⟨c1,cells1,hv1,-,-⟩:=hE1.cell (j:=0) (by simp;omega)
     rw [w6] at hv1
     obtain ⟨Y2,w2,hE2⟩:=hE1.put (j:=t) (c:=ilS R) (ys:=R) (by simp;omega) (.inl rfl)
     rw [midR_zero (P:=P) (K:=K) (L:=L) (k:=k) htn hi] at hE2
     have hRo : (ilS R).cell1 = true ∧ partsOf (ilS R) = [ilS R]:=⟨rfl,rfl⟩
     repeat (first|(with_reducible first|refine SW.seq ?_|refine q8 ?_|refine SW.rowC ?_|refine SW.skip ?_|refine SW.exit ?_|intro _|refine And.intro (by omega) ?_)|simp (disch:=(first|omega|(simp only [go_sem];try omega))) only [go_sem,Nat.reduceAdd,Nat.reduceEqDiff,Nat.reduceLeDiff,reduceIte,w64_id,cast_succ,hvw,hct,ht1.1,ht1.2,w1,hv1,w2])
     refine wJ (fun E0 H0 q E' H'=>∃ j : Nat,j ≤ xs.length ∧ q = xs.length - j ∧ E' = aput E0 14 (I j) ∧ ElR H H' pp v (.nm pp pvr 0 t) (midR P K L xs R t i k j) t) xs.length ⟨0,by omega,by omega,rfl,hE2⟩ ?_
     clear hE2 hE1 w1 w2 hv1
     rintro q E' Z ⟨j,hj,rfl,rfl,hZ⟩
     have hzl : (midR P K L xs R t i k j).length = xs.length:=midR_len
     obtain ⟨c2,cells2,hv2,-,-⟩:=hZ.cell (j:=0) (by omega)
     rw [hzl] at hv2
     simp (disch:=(first|omega|(simp only [go_sem];try omega))) only [go_sem,Nat.reduceAdd,Nat.reduceEqDiff,Nat.reduceLeDiff,reduceIte,w64_id,cast_succ]
     repeat (first|(with_reducible first|refine SW.seq ?_|refine q8 ?_|refine SW.rowC ?_|refine SW.skip ?_|refine SW.exit ?_|intro _|refine And.intro (by omega) ?_)|simp (disch:=(first|omega|(simp only [go_sem];try omega))) only [go_sem,Nat.reduceAdd,Nat.reduceEqDiff,Nat.reduceLeDiff,reduceIte,w64_id,cast_succ,hv2])
     (first|refine wK rfl (fun h8=>?_) (fun h8=>?_)|refine wL rfl (fun h8=>?_) (fun h8=>?_)|refine wF rfl (fun h8=>?_) (fun h8=>?_)|refine wH rfl (fun h8=>?_) (fun h8=>?_))
     ·have hjl : j < xs.length:=by omega
      by_cases hjt : j = t
      ·have d7 : decide ((j : Int) = t) = true:=decide_eq_true (by omega)
       repeat (first|(with_reducible first|refine SW.seq ?_|refine q8 ?_|refine SW.rowC ?_|refine SW.skip ?_|refine SW.exit ?_|intro _|refine And.intro (by omega) ?_)|simp (disch:=(first|omega|(simp only [go_sem];try omega))) only [go_sem,Nat.reduceAdd,Nat.reduceEqDiff,Nat.reduceLeDiff,reduceIte,w64_id,cast_succ,hv2,d7])
       refine wE rfl ?_
       repeat (first|(with_reducible first|refine SW.seq ?_|refine q8 ?_|refine SW.rowC ?_|refine SW.skip ?_|refine SW.exit ?_|intro _|refine And.intro (by omega) ?_)|simp (disch:=(first|omega|(simp only [go_sem];try omega))) only [go_sem,Nat.reduceAdd,Nat.reduceEqDiff,Nat.reduceLeDiff,reduceIte,w64_id,cast_succ])
       exact wB (xs.length - (j + 1)) (by omega) ⟨j + 1,by omega,rfl,by simp [go_sem],by rw [← midR_skip hjl hjt];exact hZ⟩
      ·have d7 : decide ((j : Int) = t) = false:=decide_eq_false (by omega)
       obtain ⟨cj,cells3,hv3,hcj,hrj⟩:=hZ.cell (j:=j) (by omega)
       rw [hzl,hv2] at hv3
       cases hv3
       rw [midR_get hjl,if_neg hjt,if_neg (by omega)] at hrj
       have hro:=oldR_ok (i:=i) hM htn hjl
       have hsucc:=midR_succ (P:=P) (K:=K) (L:=L) (R:=R) (t:=t) (i:=i) (k:=k) hjl hjt
       generalize hO : oldR xs t i j = O at *
       have hrd2:=hrj.rd
       unfold RdS at hrd2
       rw [hro.1] at hrd2
       have hok : (O.map I)[k]? = some (I (O.getD k 0)):=by
        rw [qX,qE,qB (by omega)];rfl
       have hob : 0 ≤ O.getD k 0 ∧ O.getD k 0 < ((P ^ K : Nat) : Int):=hro.2 _ (by rw [qE,qB (show k < O.length by omega)];exact wQ _)
       obtain ⟨y,hye⟩:=wC hob.1
       rw [hye] at hok hob
       rw [hye,wA] at hsucc
       have hrZ : Z[r]? = some (fdC ty P K L rest):=by rw [hZ.fr r (qC.1 hr).1];exact hr
       obtain ⟨Z2,w3,hZ2⟩:=hZ.put (j:=j) (c:=ilS (lsL P K L O R y)) (ys:=lsL P K L O R y) (by omega) (.inl rfl)
       rw [hsucc] at hZ2
       repeat (first|(with_reducible first|refine SW.seq ?_|refine q8 ?_|refine SW.rowC ?_|refine SW.skip ?_|refine SW.exit ?_|intro _|refine And.intro (by omega) ?_)|simp (disch:=(first|omega|(simp only [go_sem];try omega))) only [go_sem,Nat.reduceAdd,Nat.reduceEqDiff,Nat.reduceLeDiff,reduceIte,w64_id,cast_succ,hv2,d7])
       refine wM rfl ?_
       repeat (first|(with_reducible first|refine SW.seq ?_|refine q8 ?_|refine SW.rowC ?_|refine SW.skip ?_|refine SW.exit ?_|intro _|refine And.intro (by omega) ?_)|simp (disch:=(first|omega|(simp only [go_sem];try omega))) only [go_sem,Nat.reduceAdd,Nat.reduceEqDiff,Nat.reduceLeDiff,reduceIte,w64_id,cast_succ,hv2,hcj,hrd2,hok])
       refine QcallW.of (fun ext=>l17Less_q (Z ++ ext) r ty P K L rest cj (ilS R) O R y (get_appU hrZ ext) hpb hkb hLb hq (by omega) (hrj.rd.append ext) (rd_ilS _ _) (by omega) (by omega) (fun u hu=>by have:=hro.2 u hu;omega) (fun u hu=>by have:=hrowx u hu;omega)) ?_
       repeat (first|(with_reducible first|refine SW.seq ?_|refine q8 ?_|refine SW.rowC ?_|refine SW.skip ?_|refine SW.exit ?_|intro _|refine And.intro (by omega) ?_)|simp (disch:=(first|omega|(simp only [go_sem];try omega))) only [go_sem,Nat.reduceAdd,Nat.reduceEqDiff,Nat.reduceLeDiff,reduceIte,w64_id,cast_succ,hv2,w3])
       exact wB (xs.length - (j + 1)) (by omega) ⟨j + 1,by omega,rfl,by simp [go_sem],hZ2⟩
     ·have hjl : j = xs.length:=by omega
      subst hjl
      rw [hend] at hZ
      obtain ⟨pvr2,ps2,e1,e2,e3⟩:=hZ.piv
      cases e1
      have hsl2 : 2 * ps2.length ≤ 100:=by omega
      repeat (first|(with_reducible first|refine SW.seq ?_|refine q8 ?_|refine SW.rowC ?_|refine SW.skip ?_|refine SW.exit ?_|intro _|refine And.intro (by omega) ?_)|simp (disch:=(first|omega|(simp only [go_sem];try omega))) only [go_sem,Nat.reduceAdd,Nat.reduceEqDiff,Nat.reduceLeDiff,reduceIte,w64_id,cast_succ])
      have hpl2:=(qC.1 e3).1
      have hps3:=get_appU e3 [(⟨0,2,1,[I (k : Int)]⟩ : Blk)]
      refine appN8e hps3 (by rw [w8];exact e2) (by omega) ?_
      intro Z2 hZl hZt hZf
      have hZl2 : Z2.length = Z.length + 1:=by rw [hZl];simp
      have hE3 : ElR H Z2 pp v (.nm pp (pvr + 1) 0 (t + 1)) (stepR P K L xs t i k b) (t + 1):=by
       refine ⟨by have:=hZ.len;omega,fun q hq=>?_,hZ.tab.same (fun r hr _=>hr) (fun q bl hq hb=>by rw [hZf q hq.2];exact get_appU hb _),⟨pvr + 1,ps2 ++ [(k : Int)],rfl,by simp [e2],by rw [hZt];simp⟩,hZ.pl⟩
       have:=hZ.len
       have:=hZ.pl
       rw [hZf q (by omega),qN (by omega)];exact hZ.fr q hq
      repeat (first|(with_reducible first|refine SW.seq ?_|refine q8 ?_|refine SW.rowC ?_|refine SW.skip ?_|refine SW.exit ?_|intro _|refine And.intro (by omega) ?_)|simp (disch:=(first|omega|(simp only [go_sem];try omega))) only [go_sem,Nat.reduceAdd,Nat.reduceEqDiff,Nat.reduceLeDiff,reduceIte,w64_id,cast_succ])
      exact wB (w - (k + 1)) (by omega) ⟨k + 1,t + 1,_,_,by omega,rfl,by simp [go_sem],hE3,hI.step hkw (by omega) hzc hsl hst.1 hst.2.1 hst.2.2,hsm⟩
end Go.Proofs.YtclfmfabcnbbpaaGreat
namespace Go.Proofs.YtclfmfabcnbbpaaGreat
open Go.Av
abbrev f_spec_l18Ok : Nat:=15
def c_spec_l18Ok : SC :=
 .seq (.reg [⟨s' 2,.mv (.const (.bool false)),n'⟩] [0]) (.seq (.seq (.reg [⟨s' 3,.mv (t' 0),n'⟩,⟨s' 4,.nilc (t' 3),n'⟩,⟨s' 5,.faddr 0 (t' 4),n'⟩,⟨s' 6,.mv (t' 0),n'⟩,
 ⟨s' 7,.nilc (t' 6),n'⟩,⟨s' 8,.faddr 3 (t' 7),n'⟩,⟨s' 9,.load 1 false (t' 8),n'⟩,⟨s' 10,.qcall 36 [(t' 5),(t' 9)],n'⟩,⟨s' 11,.un .not (t' 10),n'⟩,⟨s' 12,.mv (t' 11),n'⟩,
 ⟨s' 13,.mv (t' 0),(some (12,false))⟩,⟨s' 14,.nilc (t' 13),(some (12,false))⟩,⟨s' 15,.faddr 3 (t' 14),(some (12,false))⟩,⟨s' 16,.load 1 false (t' 15),(some (12,false))⟩,
 ⟨s' 17,.iaddr 1 (t' 16) (.const (.int .i64 0)),(some (12,false))⟩,⟨s' 18,.load 1 false (t' 17),(some (12,false))⟩,⟨s' 19,.qlen (t' 18),(some (12,false))⟩,
 ⟨s' 20,.bin .gtr (t' 19) (.const (.int .i64 32)),(some (12,false))⟩,⟨s' 21,.pick (t' 12) (.const (.bool true)) (t' 20),n'⟩,⟨s' 22,.mv (t' 21),n'⟩,
 ⟨s' 23,.mv (t' 0),(some (22,false))⟩,⟨s' 24,.nilc (t' 23),(some (22,false))⟩,⟨s' 25,.faddr 3 (t' 24),(some (22,false))⟩,⟨s' 26,.load 1 false (t' 25),(some (22,false))⟩,
 ⟨s' 27,.qlen (t' 26),(some (22,false))⟩,⟨s' 28,.bin .gtr (t' 27) (.const (.int .i64 8)),(some (22,false))⟩,⟨s' 29,.pick (t' 22) (.const (.bool true)) (t' 28),n'⟩] [0,29])
 (.cond (t' 29) (.seq (.reg [⟨s' 2,.mv (.const (.bool false)),n'⟩] [2]) (.ret)) (.skip))) (.seq (.seq (.reg [⟨s' 30,.mv (t' 0),n'⟩,⟨s' 31,.nilc (t' 30),n'⟩,
 ⟨s' 32,.faddr 0 (t' 31),n'⟩,⟨s' 33,.qcall 38 [(t' 32)],n'⟩,⟨s' 34,.mv (t' 0),n'⟩,⟨s' 35,.nilc (t' 34),n'⟩,⟨s' 36,.faddr 3 (t' 35),n'⟩,⟨s' 37,.load 1 false (t' 36),n'⟩,
 ⟨s' 38,.qlen (t' 37),n'⟩,⟨s' 39,.qcall 37 [(t' 33),(t' 38)],n'⟩,⟨s' 40,.bin .eql (t' 39) (.const (.int .i64 0)),n'⟩] [0,40]) (.cond (t' 40) (.seq (.reg [
 ⟨s' 2,.mv (.const (.bool false)),n'⟩] [2]) (.ret)) (.skip))) (.seq (.mix (.one ⟨s' 41,.mv (t' 0),n'⟩ (.one ⟨s' 42,.nilc (t' 41),n'⟩ (.one ⟨s' 43,.faddr 0 (t' 42),n'⟩
 (.one ⟨s' 44,.mv (t' 0),n'⟩ (.one ⟨s' 45,.nilc (t' 44),n'⟩ (.one ⟨s' 46,.faddr 3 (t' 45),n'⟩ (.one ⟨s' 47,.load 1 false (t' 46),n'⟩ (.one ⟨s' 49,.mv (t' 0),n'⟩
 (.both (.one ⟨s' 48,.call 40 [(t' 43),(t' 47)],n'⟩ (.one ⟨s' 50,.nilc (t' 49),n'⟩ (.one ⟨s' 51,.faddr 3 (t' 50),n'⟩ (.one ⟨s' 52,.load 1 false (t' 51),n'⟩
 (.one ⟨s' 53,.qcall 39 [(t' 48),(t' 52)],n'⟩ (.one ⟨s' 2,.mv (t' 53),n'⟩ (.done))))))) (.one ⟨s' 50,.nilc (t' 49),n'⟩ (.both (.one ⟨s' 48,.call 40 [(t' 43),(t' 47)],n'⟩
 (.one ⟨s' 51,.faddr 3 (t' 50),n'⟩ (.one ⟨s' 52,.load 1 false (t' 51),n'⟩ (.one ⟨s' 53,.qcall 39 [(t' 48),(t' 52)],n'⟩ (.one ⟨s' 2,.mv (t' 53),n'⟩ (.done))))))
 (.one ⟨s' 51,.faddr 3 (t' 50),n'⟩ (.both (.one ⟨s' 48,.call 40 [(t' 43),(t' 47)],n'⟩ (.one ⟨s' 52,.load 1 false (t' 51),n'⟩ (.one ⟨s' 53,.qcall 39 [(t' 48),(t' 52)],n'⟩
 (.one ⟨s' 2,.mv (t' 53),n'⟩ (.done))))) (.one ⟨s' 52,.load 1 false (t' 51),n'⟩ (.one ⟨s' 48,.call 40 [(t' 43),(t' 47)],n'⟩ (.one ⟨s' 53,.qcall 39 [(t' 48),(t' 52)],n'⟩
 (.one ⟨s' 2,.mv (t' 53),n'⟩ (.done)))))))))))))))))) [2]) (.ret))))
theorem s_spec_l18Ok : stripF Tryz.prog 15 [[0],[0,29],[2],[0,40],[2],[2,1000007]] = some (c_spec_l18Ok,[.tmp 2],54):=by kernel_rfl
abbrev f_spec_l17Ok : Nat:=36
def c_spec_l17Ok : SC :=
 .seq (.reg [⟨s' 4,.mv (.const (.bool false)),n'⟩] [0,1]) (.seq (.seq (.reg [⟨s' 6,.mv (t' 0),n'⟩,⟨s' 7,.call 55 [(t' 6)],n'⟩,⟨s' 8,.un .not (t' 7),n'⟩,⟨s' 9,.mv (t' 8),n'⟩,
 ⟨s' 10,.mv (t' 1),(some (9,false))⟩,⟨s' 11,.len (t' 10),(some (9,false))⟩,⟨s' 12,.bin .eql (t' 11) (.const (.int .i64 0)),(some (9,false))⟩,
 ⟨s' 13,.pick (t' 9) (.const (.bool true)) (t' 12),n'⟩,⟨s' 14,.mv (t' 13),n'⟩,⟨s' 15,.mv (t' 1),(some (14,false))⟩,⟨s' 16,.len (t' 15),(some (14,false))⟩,
 ⟨s' 17,.bin .gtr (t' 16) (.const (.int .i64 32)),(some (14,false))⟩,⟨s' 18,.pick (t' 14) (.const (.bool true)) (t' 17),n'⟩,⟨s' 19,.mv (t' 18),n'⟩,
 ⟨s' 20,.mv (t' 1),(some (19,false))⟩,⟨s' 21,.iaddr 1 (t' 20) (.const (.int .i64 0)),(some (19,false))⟩,⟨s' 22,.load 1 false (t' 21),(some (19,false))⟩,
 ⟨s' 23,.len (t' 22),(some (19,false))⟩,⟨s' 24,.bin .eql (t' 23) (.const (.int .i64 0)),(some (19,false))⟩,⟨s' 25,.pick (t' 19) (.const (.bool true)) (t' 24),n'⟩,
 ⟨s' 26,.mv (t' 25),n'⟩,⟨s' 27,.mv (t' 1),(some (26,false))⟩,⟨s' 28,.iaddr 1 (t' 27) (.const (.int .i64 0)),(some (26,false))⟩,⟨s' 29,.load 1 false (t' 28),(some (26,false))⟩,
 ⟨s' 30,.len (t' 29),(some (26,false))⟩,⟨s' 31,.bin .gtr (t' 30) (.const (.int .i64 32)),(some (26,false))⟩,⟨s' 32,.pick (t' 26) (.const (.bool true)) (t' 31),n'⟩] [0,1,32])
 (.cond (t' 32) (.seq (.reg [⟨s' 4,.mv (.const (.bool false)),n'⟩] [4]) (.ret)) (.skip))) (.seq (.seq (.reg [⟨s' 5,.mv (.const (.int .i64 0)),n'⟩] [0,1,5]) (.block 0 (.loop [0,1,5]
 (.seq (.seq (.reg [⟨s' 33,.mv (t' 5),n'⟩,⟨s' 34,.mv (t' 1),n'⟩,⟨s' 35,.len (t' 34),n'⟩,⟨s' 36,.bin .lss (t' 33) (t' 35),n'⟩] [0,1,5,36]) (.cond (t' 36) (.skip) (.exit 0)))
 (.seq (.block 1 (.seq (.reg [⟨s' 39,.mv (t' 1),n'⟩,⟨s' 40,.mv (t' 5),n'⟩,⟨s' 41,.iaddr 1 (t' 39) (t' 40),n'⟩,⟨s' 42,.load 1 false (t' 41),n'⟩,⟨s' 43,.qlen (t' 42),n'⟩,
 ⟨s' 44,.mv (t' 1),n'⟩,⟨s' 45,.iaddr 1 (t' 44) (.const (.int .i64 0)),n'⟩,⟨s' 46,.load 1 false (t' 45),n'⟩,⟨s' 47,.qlen (t' 46),n'⟩,⟨s' 48,.bin .neq (t' 43) (t' 47),n'⟩,
 ⟨s' 49,.mv (t' 48),n'⟩,⟨s' 50,.mv (t' 0),(some (49,false))⟩,⟨s' 51,.mv (t' 1),(some (49,false))⟩,⟨s' 52,.mv (t' 5),(some (49,false))⟩,
 ⟨s' 53,.iaddr 1 (t' 51) (t' 52),(some (49,false))⟩,⟨s' 54,.load 1 false (t' 53),(some (49,false))⟩,⟨s' 55,.qcall 56 [(t' 50),(t' 54)],(some (49,false))⟩,
 ⟨s' 56,.un .not (t' 55),(some (49,false))⟩,⟨s' 57,.pick (t' 49) (.const (.bool true)) (t' 56),n'⟩] [0,1,5,57]) (.cond (t' 57) (.seq (.reg [
 ⟨s' 4,.mv (.const (.bool false)),n'⟩] [4]) (.ret)) (.skip)))) (.reg [⟨s' 37,.mv (t' 5),n'⟩,⟨s' 38,.bin .add (t' 37) (.const (.int .i64 1)),n'⟩,
 ⟨s' 5,.mv (t' 38),n'⟩] [0,1,5])))))) (.seq (.reg [⟨s' 4,.mv (.const (.bool true)),n'⟩] [4]) (.ret))))
theorem s_spec_l17Ok : stripF Tryz.prog 36 [[0,1],[0,1,32],[4],[0,1,5],[0,1,5],[0,1,5,36],[0,1,5,57],[4],[0,1,5],[4]] = some (c_spec_l17Ok,[.tmp 4],58):=by kernel_rfl
abbrev f_spec_l18Count : Nat:=37
def c_spec_l18Count : SC :=
 .seq (.reg [⟨s' 4,.mv (.const (.int .i64 0)),n'⟩] [0,1]) (.seq (.reg [⟨s' 5,.mv (.const (.int .i64 1)),n'⟩] [0,1,5]) (.seq (.block 0 (.loop [0,1,5] (.seq (.seq (.reg [
 ⟨s' 6,.mv (t' 1),n'⟩,⟨s' 7,.bin .gtr (t' 6) (.const (.int .i64 0)),n'⟩] [0,1,5,7]) (.cond (t' 7) (.skip) (.exit 0))) (.seq (.block 1 (.seq (.reg [⟨s' 10,.mv (t' 5),n'⟩,
 ⟨s' 11,.mv (t' 0),n'⟩,⟨s' 12,.bin .mul (t' 10) (t' 11),n'⟩,⟨s' 5,.mv (t' 12),n'⟩] [0,1,5]) (.seq (.reg [⟨s' 13,.mv (t' 5),n'⟩,
 ⟨s' 14,.bin .gtr (t' 13) (.const (.int .i64 4096)),n'⟩] [0,1,5,14]) (.cond (t' 14) (.seq (.reg [⟨s' 4,.mv (.const (.int .i64 0)),n'⟩] [4]) (.ret)) (.skip))))) (.reg [
 ⟨s' 8,.mv (t' 1),n'⟩,⟨s' 9,.bin .sub (t' 8) (.const (.int .i64 1)),n'⟩,⟨s' 1,.mv (t' 9),n'⟩] [0,1,5]))))) (.seq (.reg [⟨s' 15,.mv (t' 5),n'⟩,⟨s' 4,.mv (t' 15),n'⟩] [4]) (.ret))))
theorem s_spec_l18Count : stripF Tryz.prog 37 [[0,1],[0,1,5],[0,1,5],[0,1,5,7],[0,1,5],[0,1,5,14],[4],[0,1,5],[4]] = some (c_spec_l18Count,[.tmp 4],16):=by kernel_rfl
abbrev f_spec_l17Form : Nat:=40
def c_spec_l17Form : SC :=
 .seq (.reg [⟨s' 4,.mv (.const (.slice none 0 0)),n'⟩] [0,1]) (.seq (.reg [⟨s' 8,.mv (t' 0),n'⟩,⟨s' 9,.mv (t' 1),n'⟩,⟨s' 10,.mv (t' 1),n'⟩,
 ⟨s' 11,.iaddr 1 (t' 10) (.const (.int .i64 0)),n'⟩,⟨s' 12,.load 1 false (t' 11),n'⟩,⟨s' 13,.len (t' 12),n'⟩,⟨s' 14,.call 59 [(t' 8),(t' 9),(t' 13)],n'⟩,⟨s' 7,.mv (t' 14),n'⟩,
 ⟨s' 15,.ext (t' 7) 0,n'⟩,⟨s' 16,.ext (t' 7) 1,n'⟩,⟨s' 5,.mv (t' 15),n'⟩,⟨s' 6,.mv (t' 16),n'⟩] [5,6]) (.seq (.reg [⟨s' 17,.mv (t' 5),n'⟩,⟨s' 18,.mv (t' 6),n'⟩,
 ⟨s' 19,.len (t' 18),n'⟩,⟨s' 20,.slc 1 (t' 17) none (some (t' 19)),n'⟩,⟨s' 4,.mv (t' 20),n'⟩] [4]) (.ret)))
theorem s_spec_l17Form : stripF Tryz.prog 40 [[0,1],[5,6],[4]] = some (c_spec_l17Form,[.tmp 4],21):=by kernel_rfl
abbrev f_spec_l17Vector : Nat:=56
def c_spec_l17Vector : SC :=
 .seq (.reg [⟨s' 4,.mv (.const (.bool false)),n'⟩] [0,1]) (.seq (.reg [⟨s' 7,.mv (t' 0),n'⟩,⟨s' 8,.call 38 [(t' 7)],n'⟩,⟨s' 5,.mv (t' 8),n'⟩] [1,5]) (.seq (.seq (.reg [
 ⟨s' 6,.mv (.const (.int .i64 0)),n'⟩] [1,5,6]) (.block 0 (.loop [1,5,6] (.seq (.seq (.reg [⟨s' 9,.mv (t' 6),n'⟩,⟨s' 10,.mv (t' 1),n'⟩,⟨s' 11,.len (t' 10),n'⟩,
 ⟨s' 12,.bin .lss (t' 9) (t' 11),n'⟩] [1,5,6,12]) (.cond (t' 12) (.skip) (.exit 0))) (.seq (.block 1 (.seq (.reg [⟨s' 15,.mv (t' 1),n'⟩,⟨s' 16,.mv (t' 6),n'⟩,
 ⟨s' 17,.iaddr 1 (t' 15) (t' 16),n'⟩,⟨s' 18,.load 1 false (t' 17),n'⟩,⟨s' 19,.mv (t' 5),n'⟩,⟨s' 20,.bin .sub (t' 19) (.const (.int .i64 1)),n'⟩,
 ⟨s' 21,.call 78 [(t' 18),(.const (.int .i64 0)),(t' 20)],n'⟩,⟨s' 22,.un .not (t' 21),n'⟩] [1,5,6,22]) (.cond (t' 22) (.seq (.reg [⟨s' 4,.mv (.const (.bool false)),n'⟩] [4])
 (.ret)) (.skip)))) (.reg [⟨s' 13,.mv (t' 6),n'⟩,⟨s' 14,.bin .add (t' 13) (.const (.int .i64 1)),n'⟩,⟨s' 6,.mv (t' 14),n'⟩] [1,5,6])))))) (.seq (.reg [
 ⟨s' 4,.mv (.const (.bool true)),n'⟩] [4]) (.ret))))
theorem s_spec_l17Vector : stripF Tryz.prog 56 [[0,1],[1,5],[1,5,6],[1,5,6],[1,5,6,12],[1,5,6,22],[4],[1,5,6],[4]] = some (c_spec_l17Vector,[.tmp 4],23):=by kernel_rfl
def vecB (q : Nat) (v : List Int) : Bool:=v.all fun x=>decide (0 ≤ x) && decide (x ≤ (q : Int) - 1)
theorem l17Vector_g (H : List Blk) (r ty P K : Nat) (L : List Int) (rest : List AV) (v : List Int) (hr : H[r]? = some (fdC ty P K L rest)) (hpb : 2 ≤ P ∧ P ≤ 64) (hkb : 1 ≤ K ∧ K ≤ 6) (hq : P ^ K ≤ 64) :
  ACalls Tryz.prog f_spec_l17Vector [.pc r 0 0,ilS v] H (fun w H'=>w = Bv (vecB (P ^ K) v) ∧ H' = H):=by
 have xa:=fun o=>pc_alive (off:=o) hr
 have xl:=fun o=>pc_ld (off:=o) hr
 refine ACalls.introB s_spec_l17Vector (by simp) ?_;intro hB hA;unfold c_spec_l17Vector;simp (disch:=(first|omega|(simp only [go_sem];try omega))) only [go_sem,Nat.reduceAdd,Nat.reduceEqDiff,Nat.reduceLeDiff,reduceIte,w64_id,cast_succ]
 repeat (first|(with_reducible first|refine SW.seq ?_|refine q8 ?_|refine SW.rowC ?_|refine SW.skip ?_|refine SW.exit ?_|intro _|refine And.intro (by omega) ?_)|simp (disch:=(first|omega|(simp only [go_sem];try omega))) only [go_sem,Nat.reduceAdd,Nat.reduceEqDiff,Nat.reduceLeDiff,reduceIte,w64_id,cast_succ])
 refine (l03Size_g H r ty P K L rest hr hpb hkb).mono ?_
 rintro z H ⟨rfl,rfl⟩
 generalize P ^ K = Q at *
 repeat (first|(with_reducible first|refine SW.seq ?_|refine q8 ?_|refine SW.rowC ?_|refine SW.skip ?_|refine SW.exit ?_|intro _|refine And.intro (by omega) ?_)|simp (disch:=(first|omega|(simp only [go_sem];try omega))) only [go_sem,Nat.reduceAdd,Nat.reduceEqDiff,Nat.reduceLeDiff,reduceIte,w64_id,cast_succ])
 refine wJ (fun E0 H0 m E' H'=>∃ i : Nat,i ≤ v.length ∧ m = v.length - i ∧ E' = aput E0 6 (I i) ∧ H' = H0 ∧ ∀ x ∈ v.take i,(decide (0 ≤ x) && decide (x ≤ (Q : Int) - 1)) = true) v.length ⟨0,by omega,by omega,rfl,rfl,fun c h=>by simp at h⟩ ?_
 rintro m E' H' ⟨i,hi,rfl,rfl,rfl,hall⟩
 simp (disch:=(first|omega|(simp only [go_sem];try omega))) only [go_sem,Nat.reduceAdd,Nat.reduceEqDiff,Nat.reduceLeDiff,reduceIte,w64_id,cast_succ]
 repeat (first|(with_reducible first|refine SW.seq ?_|refine q8 ?_|refine SW.rowC ?_|refine SW.skip ?_|refine SW.exit ?_|intro _|refine And.intro (by omega) ?_)|simp (disch:=(first|omega|(simp only [go_sem];try omega))) only [go_sem,Nat.reduceAdd,Nat.reduceEqDiff,Nat.reduceLeDiff,reduceIte,w64_id,cast_succ])
 (first|refine wK rfl (fun h6=>?_) (fun h6=>?_)|refine wL rfl (fun h6=>?_) (fun h6=>?_)|refine wF rfl (fun h6=>?_) (fun h6=>?_)|refine wH rfl (fun h6=>?_) (fun h6=>?_))
 ·have hil : i < v.length:=by omega
  have hwp : w64 ((Q : Int) - 1) = (Q : Int) - 1:=w64_id (by omega) (by omega)
  have w3:=l00In_fn (v.getD i 0) 0 ((Q : Int) - 1)
  have hge : v.getD i 0 = v[i]:=by rw [qE,qB hil];rfl
  have hmem : v.getD i 0 ∈ v:=by rw [hge];exact wQ _
  cases h7 : (decide (0 ≤ v.getD i 0) && decide (v.getD i 0 ≤ (Q : Int) - 1))
  ·have hno : vecB Q v = false:=by
    rw [Bool.eq_false_iff]
    intro h8
    unfold vecB at h8
    rw [w9] at h8
    rw [h8 _ hmem] at h7;cases h7
   rw [hno]
   rw [h7] at w3
   repeat (first|(with_reducible first|refine SW.seq ?_|refine q8 ?_|refine SW.rowC ?_|refine SW.skip ?_|refine SW.exit ?_|refine PFn.use (w3) ?_|refine PFn.useq (w3) ?_|intro _|refine And.intro (by omega) ?_)|simp (disch:=(first|omega|(simp only [go_sem];try omega))) only [go_sem,Nat.reduceAdd,Nat.reduceEqDiff,Nat.reduceLeDiff,reduceIte,w64_id,cast_succ,hwp])
   refine wM rfl ?_
   repeat (first|(with_reducible first|refine SW.seq ?_|refine q8 ?_|refine SW.rowC ?_|refine SW.skip ?_|refine SW.exit ?_|intro _|refine And.intro (by omega) ?_)|simp (disch:=(first|omega|(simp only [go_sem];try omega))) only [go_sem,Nat.reduceAdd,Nat.reduceEqDiff,Nat.reduceLeDiff,reduceIte,w64_id,cast_succ])
   refine SW.ret ?_;(try simp only [go_sem]);(first|refine qP ?_|refine qS ?_|refine qQ ?_);(try simp (disch:=(first|omega|(simp only [go_sem];try omega))) only [go_sem,Nat.reduceAdd,Nat.reduceEqDiff,Nat.reduceLeDiff,reduceIte,w64_id,cast_succ]);(first|(with_reducible refine GR.drop ?_ ?_;(simp only [go_sem,and_self,and_true,true_and,implies_true,qI,qO]))|refine GR.of ?_);refine ⟨?_,rfl⟩;(try with_reducible rfl)
  ·rw [h7] at w3
   repeat (first|(with_reducible first|refine SW.seq ?_|refine q8 ?_|refine SW.rowC ?_|refine SW.skip ?_|refine SW.exit ?_|refine PFn.use (w3) ?_|refine PFn.useq (w3) ?_|intro _|refine And.intro (by omega) ?_)|simp (disch:=(first|omega|(simp only [go_sem];try omega))) only [go_sem,Nat.reduceAdd,Nat.reduceEqDiff,Nat.reduceLeDiff,reduceIte,w64_id,cast_succ,hwp])
   refine wE rfl ?_
   repeat (first|(with_reducible first|refine SW.seq ?_|refine q8 ?_|refine SW.rowC ?_|refine SW.skip ?_|refine SW.exit ?_|intro _|refine And.intro (by omega) ?_)|simp (disch:=(first|omega|(simp only [go_sem];try omega))) only [go_sem,Nat.reduceAdd,Nat.reduceEqDiff,Nat.reduceLeDiff,reduceIte,w64_id,cast_succ])
   refine wB (v.length - (i + 1)) (by omega) ⟨i + 1,by omega,rfl,by simp [go_sem],rfl,fun c hc=>?_⟩
   rw [xN hil] at hc
   rcases xA.1 hc with h|h
   ·exact hall c h
   ·rw [xE.1 h,← hge];exact h7
 ·have hil : i = v.length:=by omega
  rw [hil,wW] at hall
  have hyes : vecB Q v = true:=by
   unfold vecB
   rw [w9]
   exact hall
  rw [hyes]
  repeat (first|(with_reducible first|refine SW.seq ?_|refine q8 ?_|refine SW.rowC ?_|refine SW.skip ?_|refine SW.exit ?_|intro _|refine And.intro (by omega) ?_)|simp (disch:=(first|omega|(simp only [go_sem];try omega))) only [go_sem,Nat.reduceAdd,Nat.reduceEqDiff,Nat.reduceLeDiff,reduceIte,w64_id,cast_succ])
  refine SW.ret ?_;(try simp only [go_sem]);(first|refine qP ?_|refine qS ?_|refine qQ ?_);(try simp (disch:=(first|omega|(simp only [go_sem];try omega))) only [go_sem,Nat.reduceAdd,Nat.reduceEqDiff,Nat.reduceLeDiff,reduceIte,w64_id,cast_succ]);(first|(with_reducible refine GR.drop ?_ ?_;(simp only [go_sem,and_self,and_true,true_and,implies_true,qI,qO]))|refine GR.of ?_);refine ⟨?_,rfl⟩;(try with_reducible rfl)
def matC (q : Nat) (m : List (List Int)) : Bool:=decide (1 ≤ m.length) && decide (m.length ≤ 32) && (decide (1 ≤ (m.getD 0 []).length) && decide ((m.getD 0 []).length ≤ 32)) && m.all fun r=>decide (r.length = (m.getD 0 []).length) && vecB q r
theorem fieldB_facts {p d : Int} {poly : List Int} (h : fieldB p d poly = true) : ∃ P K : Nat,p = P ∧ d = K ∧ (2 ≤ P ∧ P ≤ 64) ∧ (1 ≤ K ∧ K ≤ 6) ∧ (OkD P poly ∧ poly.length = K + 1) ∧ P ^ K ≤ 64 ∧ poly.getD K 0 = 1 ∧ splV (P ^ K) = P ∧ irrG poly P = true:=by
 unfold fieldB at h
 simp only [Bool.and_eq_true,decide_eq_true_eq,w9] at h
 obtain ⟨⟨⟨⟨⟨⟨⟨h1,h2⟩,h3,h4⟩,h5⟩,h6⟩,h7⟩,h8⟩,h9⟩:=h
 obtain ⟨P,rfl⟩:=wC (show 0 ≤ p by omega)
 obtain ⟨K,rfl⟩:=wC (show 0 ≤ d by omega)
 simp only [wA] at h6 h7 h9
 have h7' : splV (P ^ K) = P:=by omega
 refine ⟨P,K,rfl,rfl,by omega,by omega,⟨fun z hz=>by have:=h8 z hz;omega,by omega⟩,?_,h6,h7',h9⟩
 have h10:=h7'
 unfold splV at h10
 split at h10
 ·rename_i h11;exact h11.2
 ·omega
theorem l17Ok_g (H : List Blk) (r ty : Nat) (p d : Int) (poly : List Int) (rest : List AV) (m : List (List Int)) (hr : H[r]? = some ⟨0,ty,1,I p :: I d :: ilS poly :: rest⟩) (hl : poly.length ≤ 2000000) (hw : -9223372036854775808 ≤ d ∧ d ≤ 9223372036854775807) (hm : m.length ≤ 2000000) (hm2 : ∀ x ∈ m,x.length ≤ 2000000) :
  ACalls Tryz.prog f_spec_l17Ok [.pc r 0 0,ilSS m] H (fun v H'=>v = Bv (fieldB p d poly && matC (p.toNat ^ d.toNat) m) ∧ H' = H):=by
 refine ACalls.introB s_spec_l17Ok (by simp) ?_;intro hB hA;unfold c_spec_l17Ok;simp (maxSteps:=1000000) (disch:=(first|omega|(simp only [go_sem];try omega))) only [go_sem,Nat.reduceAdd,Nat.reduceEqDiff,Nat.reduceLeDiff,Nat.reduceMul,Nat.reduceLT,reduceIte,Int.reduceToNat,w64_id,cast_succ]
 repeat (first|(with_reducible first|refine SW.seq ?_|refine q8 ?_|refine SW.rowC ?_|refine SW.skip ?_|refine SW.exit ?_|intro _|refine And.intro (by omega) ?_)|simp (maxSteps:=1000000) (disch:=(first|omega|(simp only [go_sem];try omega))) only [go_sem,Nat.reduceAdd,Nat.reduceEqDiff,Nat.reduceLeDiff,Nat.reduceMul,Nat.reduceLT,reduceIte,Int.reduceToNat,w64_id,cast_succ])
 refine (l03Ok_g H r ty p d poly rest hr hl hw).mono ?_
 rintro z H ⟨rfl,rfl⟩
 cases hf : fieldB p d poly
 ·repeat (first|(with_reducible first|refine SW.seq ?_|refine q8 ?_|refine SW.rowC ?_|refine SW.skip ?_|refine SW.exit ?_|intro _|refine And.intro (by omega) ?_)|simp (maxSteps:=1000000) (disch:=(first|omega|(simp only [go_sem];try omega))) only [go_sem,Nat.reduceAdd,Nat.reduceEqDiff,Nat.reduceLeDiff,Nat.reduceMul,Nat.reduceLT,reduceIte,Int.reduceToNat,w64_id,cast_succ])
  refine wM rfl ?_
  repeat (first|(with_reducible first|refine SW.seq ?_|refine q8 ?_|refine SW.rowC ?_|refine SW.skip ?_|refine SW.exit ?_|intro _|refine And.intro (by omega) ?_)|simp (maxSteps:=1000000) (disch:=(first|omega|(simp only [go_sem];try omega))) only [go_sem,Nat.reduceAdd,Nat.reduceEqDiff,Nat.reduceLeDiff,Nat.reduceMul,Nat.reduceLT,reduceIte,Int.reduceToNat,w64_id,cast_succ])
  refine SW.ret ?_;(try simp only [go_sem]);(first|refine qP ?_|refine qS ?_|refine qQ ?_);(try simp (maxSteps:=1000000) (disch:=(first|omega|(simp only [go_sem];try omega))) only [go_sem,Nat.reduceAdd,Nat.reduceEqDiff,Nat.reduceLeDiff,Nat.reduceMul,Nat.reduceLT,reduceIte,Int.reduceToNat,w64_id,cast_succ]);(first|(with_reducible refine GR.drop ?_ ?_;(simp only [go_sem,and_self,and_true,true_and,implies_true,qI,qO]))|refine GR.of ?_);refine ⟨?_,rfl⟩;(try with_reducible rfl)
 obtain ⟨P,K,rfl,rfl,hpb,hkb,hLb,hq,-,-,-⟩:=fieldB_facts hf
 simp only [wA,Bool.true_and]
 have hvec:=fun v ext=>l17Vector_g (H ++ ext) r ty P K poly rest v (get_appU hr ext) hpb hkb hq
 generalize P ^ K = Q at *
 unfold matC
 by_cases h1 : 1 ≤ m.length
 rotate_left
 ·have d1 : decide ((m.length : Int) = 0) = true:=decide_eq_true (by omega)
  rw [decide_eq_false h1]
  repeat (first|(with_reducible first|refine SW.seq ?_|refine q8 ?_|refine SW.rowC ?_|refine SW.skip ?_|refine SW.exit ?_|intro _|refine And.intro (by omega) ?_)|simp (maxSteps:=1000000) (disch:=(first|omega|(simp only [go_sem];try omega))) only [go_sem,Nat.reduceAdd,Nat.reduceEqDiff,Nat.reduceLeDiff,Nat.reduceMul,Nat.reduceLT,reduceIte,Int.reduceToNat,w64_id,cast_succ,d1])
  refine wM rfl ?_
  repeat (first|(with_reducible first|refine SW.seq ?_|refine q8 ?_|refine SW.rowC ?_|refine SW.skip ?_|refine SW.exit ?_|intro _|refine And.intro (by omega) ?_)|simp (maxSteps:=1000000) (disch:=(first|omega|(simp only [go_sem];try omega))) only [go_sem,Nat.reduceAdd,Nat.reduceEqDiff,Nat.reduceLeDiff,Nat.reduceMul,Nat.reduceLT,reduceIte,Int.reduceToNat,w64_id,cast_succ])
  refine SW.ret ?_;(try simp only [go_sem]);(first|refine qP ?_|refine qS ?_|refine qQ ?_);(try simp (maxSteps:=1000000) (disch:=(first|omega|(simp only [go_sem];try omega))) only [go_sem,Nat.reduceAdd,Nat.reduceEqDiff,Nat.reduceLeDiff,Nat.reduceMul,Nat.reduceLT,reduceIte,Int.reduceToNat,w64_id,cast_succ]);(first|(with_reducible refine GR.drop ?_ ?_;(simp only [go_sem,and_self,and_true,true_and,implies_true,qI,qO]))|refine GR.of ?_);refine ⟨?_,rfl⟩;(try with_reducible rfl)
 have d1 : decide ((m.length : Int) = 0) = false:=decide_eq_false (by omega)
 rw [decide_eq_true h1]
 by_cases h2 : m.length ≤ 32
 rotate_left
 ·have d2 : decide (32 < (m.length : Int)) = true:=decide_eq_true (by omega)
  rw [decide_eq_false h2]
  repeat (first|(with_reducible first|refine SW.seq ?_|refine q8 ?_|refine SW.rowC ?_|refine SW.skip ?_|refine SW.exit ?_|intro _|refine And.intro (by omega) ?_)|simp (maxSteps:=1000000) (disch:=(first|omega|(simp only [go_sem];try omega))) only [go_sem,Nat.reduceAdd,Nat.reduceEqDiff,Nat.reduceLeDiff,Nat.reduceMul,Nat.reduceLT,reduceIte,Int.reduceToNat,w64_id,cast_succ,d1,d2])
  refine wM rfl ?_
  repeat (first|(with_reducible first|refine SW.seq ?_|refine q8 ?_|refine SW.rowC ?_|refine SW.skip ?_|refine SW.exit ?_|intro _|refine And.intro (by omega) ?_)|simp (maxSteps:=1000000) (disch:=(first|omega|(simp only [go_sem];try omega))) only [go_sem,Nat.reduceAdd,Nat.reduceEqDiff,Nat.reduceLeDiff,Nat.reduceMul,Nat.reduceLT,reduceIte,Int.reduceToNat,w64_id,cast_succ])
  refine SW.ret ?_;(try simp only [go_sem]);(first|refine qP ?_|refine qS ?_|refine qQ ?_);(try simp (maxSteps:=1000000) (disch:=(first|omega|(simp only [go_sem];try omega))) only [go_sem,Nat.reduceAdd,Nat.reduceEqDiff,Nat.reduceLeDiff,Nat.reduceMul,Nat.reduceLT,reduceIte,Int.reduceToNat,w64_id,cast_succ]);(first|(with_reducible refine GR.drop ?_ ?_;(simp only [go_sem,and_self,and_true,true_and,implies_true,qI,qO]))|refine GR.of ?_);refine ⟨?_,rfl⟩;(try with_reducible rfl)
 have d2 : decide (32 < (m.length : Int)) = false:=decide_eq_false (by omega)
 rw [decide_eq_true h2]
 have hg0 : (m.map ilS)[0]? = some (ilS (m.getD 0 [])):=by rw [qX,qE,qB (by omega)];rfl
 generalize hR0 : m.getD 0 [] = R0 at *
 by_cases h3 : 1 ≤ R0.length
 rotate_left
 ·have d3 : decide ((R0.length : Int) = 0) = true:=decide_eq_true (by omega)
  rw [decide_eq_false h3]
  repeat (first|(with_reducible first|refine SW.seq ?_|refine q8 ?_|refine SW.rowC ?_|refine SW.skip ?_|refine SW.exit ?_|intro _|refine And.intro (by omega) ?_)|simp (maxSteps:=1000000) (disch:=(first|omega|(simp only [go_sem];try omega))) only [go_sem,Nat.reduceAdd,Nat.reduceEqDiff,Nat.reduceLeDiff,Nat.reduceMul,Nat.reduceLT,reduceIte,Int.reduceToNat,w64_id,cast_succ,d1,d2,hg0,d3])
  refine wM rfl ?_
  repeat (first|(with_reducible first|refine SW.seq ?_|refine q8 ?_|refine SW.rowC ?_|refine SW.skip ?_|refine SW.exit ?_|intro _|refine And.intro (by omega) ?_)|simp (maxSteps:=1000000) (disch:=(first|omega|(simp only [go_sem];try omega))) only [go_sem,Nat.reduceAdd,Nat.reduceEqDiff,Nat.reduceLeDiff,Nat.reduceMul,Nat.reduceLT,reduceIte,Int.reduceToNat,w64_id,cast_succ])
  refine SW.ret ?_;(try simp only [go_sem]);(first|refine qP ?_|refine qS ?_|refine qQ ?_);(try simp (maxSteps:=1000000) (disch:=(first|omega|(simp only [go_sem];try omega))) only [go_sem,Nat.reduceAdd,Nat.reduceEqDiff,Nat.reduceLeDiff,Nat.reduceMul,Nat.reduceLT,reduceIte,Int.reduceToNat,w64_id,cast_succ]);(first|(with_reducible refine GR.drop ?_ ?_;(simp only [go_sem,and_self,and_true,true_and,implies_true,qI,qO]))|refine GR.of ?_);refine ⟨?_,rfl⟩;(try with_reducible rfl)
 have d3 : decide ((R0.length : Int) = 0) = false:=decide_eq_false (by omega)
 rw [decide_eq_true h3]
 by_cases h4 : R0.length ≤ 32
 rotate_left
 ·have d4 : decide (32 < (R0.length : Int)) = true:=decide_eq_true (by omega)
  rw [decide_eq_false h4]
  repeat (first|(with_reducible first|refine SW.seq ?_|refine q8 ?_|refine SW.rowC ?_|refine SW.skip ?_|refine SW.exit ?_|intro _|refine And.intro (by omega) ?_)|simp (maxSteps:=1000000) (disch:=(first|omega|(simp only [go_sem];try omega))) only [go_sem,Nat.reduceAdd,Nat.reduceEqDiff,Nat.reduceLeDiff,Nat.reduceMul,Nat.reduceLT,reduceIte,Int.reduceToNat,w64_id,cast_succ,d1,d2,hg0,d3,d4])
  refine wM rfl ?_
  repeat (first|(with_reducible first|refine SW.seq ?_|refine q8 ?_|refine SW.rowC ?_|refine SW.skip ?_|refine SW.exit ?_|intro _|refine And.intro (by omega) ?_)|simp (maxSteps:=1000000) (disch:=(first|omega|(simp only [go_sem];try omega))) only [go_sem,Nat.reduceAdd,Nat.reduceEqDiff,Nat.reduceLeDiff,Nat.reduceMul,Nat.reduceLT,reduceIte,Int.reduceToNat,w64_id,cast_succ])
  refine SW.ret ?_;(try simp only [go_sem]);(first|refine qP ?_|refine qS ?_|refine qQ ?_);(try simp (maxSteps:=1000000) (disch:=(first|omega|(simp only [go_sem];try omega))) only [go_sem,Nat.reduceAdd,Nat.reduceEqDiff,Nat.reduceLeDiff,Nat.reduceMul,Nat.reduceLT,reduceIte,Int.reduceToNat,w64_id,cast_succ]);(first|(with_reducible refine GR.drop ?_ ?_;(simp only [go_sem,and_self,and_true,true_and,implies_true,qI,qO]))|refine GR.of ?_);refine ⟨?_,rfl⟩;(try with_reducible rfl)
 have d4 : decide (32 < (R0.length : Int)) = false:=decide_eq_false (by omega)
 rw [decide_eq_true h4]
 repeat (first|(with_reducible first|refine SW.seq ?_|refine q8 ?_|refine SW.rowC ?_|refine SW.skip ?_|refine SW.exit ?_|intro _|refine And.intro (by omega) ?_)|simp (maxSteps:=1000000) (disch:=(first|omega|(simp only [go_sem];try omega))) only [go_sem,Nat.reduceAdd,Nat.reduceEqDiff,Nat.reduceLeDiff,Nat.reduceMul,Nat.reduceLT,reduceIte,Int.reduceToNat,w64_id,cast_succ,d1,d2,hg0,d3,d4])
 refine wE rfl ?_
 repeat (first|(with_reducible first|refine SW.seq ?_|refine q8 ?_|refine SW.rowC ?_|refine SW.skip ?_|refine SW.exit ?_|intro _|refine And.intro (by omega) ?_)|simp (maxSteps:=1000000) (disch:=(first|omega|(simp only [go_sem];try omega))) only [go_sem,Nat.reduceAdd,Nat.reduceEqDiff,Nat.reduceLeDiff,Nat.reduceMul,Nat.reduceLT,reduceIte,Int.reduceToNat,w64_id,cast_succ])
 refine wJ (fun E0 H0 q E' H'=>∃ i : Nat,i ≤ m.length ∧ q = m.length - i ∧ E' = aput E0 5 (I i) ∧ H' = H0 ∧ ∀ x ∈ m.take i,(decide (x.length = R0.length) && vecB Q x) = true) m.length ⟨0,by omega,by omega,rfl,rfl,fun c h=>by simp at h⟩ ?_
 rintro q E' H' ⟨i,hi,rfl,rfl,rfl,hall⟩
 simp (maxSteps:=1000000) (disch:=(first|omega|(simp only [go_sem];try omega))) only [go_sem,Nat.reduceAdd,Nat.reduceEqDiff,Nat.reduceLeDiff,Nat.reduceMul,Nat.reduceLT,reduceIte,Int.reduceToNat,w64_id,cast_succ]
 repeat (first|(with_reducible first|refine SW.seq ?_|refine q8 ?_|refine SW.rowC ?_|refine SW.skip ?_|refine SW.exit ?_|intro _|refine And.intro (by omega) ?_)|simp (maxSteps:=1000000) (disch:=(first|omega|(simp only [go_sem];try omega))) only [go_sem,Nat.reduceAdd,Nat.reduceEqDiff,Nat.reduceLeDiff,Nat.reduceMul,Nat.reduceLT,reduceIte,Int.reduceToNat,w64_id,cast_succ])
 (first|refine wK rfl (fun h6=>?_) (fun h6=>?_)|refine wL rfl (fun h6=>?_) (fun h6=>?_)|refine wF rfl (fun h6=>?_) (fun h6=>?_)|refine wH rfl (fun h6=>?_) (fun h6=>?_))
 ·have hil : i < m.length:=by omega
  have hge : m.getD i [] = m[i]:=by rw [qE,qB hil];rfl
  have hmem : m.getD i [] ∈ m:=by rw [hge];exact wQ _
  have hgi : (m.map ilS)[i]? = some (ilS (m.getD i [])):=by rw [qX,qB hil,hge];rfl
  have hxl:=hm2 _ hmem
  have hno : (decide ((m.getD i []).length = R0.length) && vecB Q (m.getD i [])) = false → (m.all fun r=>decide (r.length = R0.length) && vecB Q r) = false:=fun h=>by
   rw [Bool.eq_false_iff]
   intro h8
   rw [w9] at h8
   rw [h8 _ hmem] at h;cases h
  have hyes : (decide ((m.getD i []).length = R0.length) && vecB Q (m.getD i [])) = true → ∀ x ∈ m.take (i + 1),(decide (x.length = R0.length) && vecB Q x) = true:=fun h c hc=>by
   rw [xN hil] at hc
   rcases xA.1 hc with h9|h9
   ·exact hall c h9
   ·rw [xE.1 h9,← hge];exact h
  generalize hRi : m.getD i [] = Ri at *
  have hv:=hvec Ri
  by_cases h7 : Ri.length = R0.length
  rotate_left
  ·have d7 : decide ((Ri.length : Int) = R0.length) = false:=decide_eq_false (by omega)
   rw [hno (by rw [decide_eq_false h7];rfl)]
   repeat (first|(with_reducible first|refine SW.seq ?_|refine q8 ?_|refine SW.rowC ?_|refine SW.skip ?_|refine SW.exit ?_|intro _|refine And.intro (by omega) ?_)|simp (maxSteps:=1000000) (disch:=(first|omega|(simp only [go_sem];try omega))) only [go_sem,Nat.reduceAdd,Nat.reduceEqDiff,Nat.reduceLeDiff,Nat.reduceMul,Nat.reduceLT,reduceIte,Int.reduceToNat,w64_id,cast_succ,hgi,hg0,d7])
   refine wM rfl ?_
   repeat (first|(with_reducible first|refine SW.seq ?_|refine q8 ?_|refine SW.rowC ?_|refine SW.skip ?_|refine SW.exit ?_|intro _|refine And.intro (by omega) ?_)|simp (maxSteps:=1000000) (disch:=(first|omega|(simp only [go_sem];try omega))) only [go_sem,Nat.reduceAdd,Nat.reduceEqDiff,Nat.reduceLeDiff,Nat.reduceMul,Nat.reduceLT,reduceIte,Int.reduceToNat,w64_id,cast_succ])
   refine SW.ret ?_;(try simp only [go_sem]);(first|refine qP ?_|refine qS ?_|refine qQ ?_);(try simp (maxSteps:=1000000) (disch:=(first|omega|(simp only [go_sem];try omega))) only [go_sem,Nat.reduceAdd,Nat.reduceEqDiff,Nat.reduceLeDiff,Nat.reduceMul,Nat.reduceLT,reduceIte,Int.reduceToNat,w64_id,cast_succ]);(first|(with_reducible refine GR.drop ?_ ?_;(simp only [go_sem,and_self,and_true,true_and,implies_true,qI,qO]))|refine GR.of ?_);refine ⟨?_,rfl⟩;(try with_reducible rfl)
  ·have d7 : decide ((Ri.length : Int) = R0.length) = true:=decide_eq_true (by omega)
   cases h8 : vecB Q Ri
   ·rw [hno (by rw [h8,Bool.and_false])]
    rw [h8] at hv
    repeat (first|(with_reducible first|refine SW.seq ?_|refine q8 ?_|refine SW.rowC ?_|refine SW.skip ?_|refine SW.exit ?_|intro _|refine And.intro (by omega) ?_)|simp (maxSteps:=1000000) (disch:=(first|omega|(simp only [go_sem];try omega))) only [go_sem,Nat.reduceAdd,Nat.reduceEqDiff,Nat.reduceLeDiff,Nat.reduceMul,Nat.reduceLT,reduceIte,Int.reduceToNat,w64_id,cast_succ,hgi,hg0,d7])
    refine QcallW.of hv ?_
    repeat (first|(with_reducible first|refine SW.seq ?_|refine q8 ?_|refine SW.rowC ?_|refine SW.skip ?_|refine SW.exit ?_|intro _|refine And.intro (by omega) ?_)|simp (maxSteps:=1000000) (disch:=(first|omega|(simp only [go_sem];try omega))) only [go_sem,Nat.reduceAdd,Nat.reduceEqDiff,Nat.reduceLeDiff,Nat.reduceMul,Nat.reduceLT,reduceIte,Int.reduceToNat,w64_id,cast_succ])
    refine wM rfl ?_
    repeat (first|(with_reducible first|refine SW.seq ?_|refine q8 ?_|refine SW.rowC ?_|refine SW.skip ?_|refine SW.exit ?_|intro _|refine And.intro (by omega) ?_)|simp (maxSteps:=1000000) (disch:=(first|omega|(simp only [go_sem];try omega))) only [go_sem,Nat.reduceAdd,Nat.reduceEqDiff,Nat.reduceLeDiff,Nat.reduceMul,Nat.reduceLT,reduceIte,Int.reduceToNat,w64_id,cast_succ])
    refine SW.ret ?_;(try simp only [go_sem]);(first|refine qP ?_|refine qS ?_|refine qQ ?_);(try simp (maxSteps:=1000000) (disch:=(first|omega|(simp only [go_sem];try omega))) only [go_sem,Nat.reduceAdd,Nat.reduceEqDiff,Nat.reduceLeDiff,Nat.reduceMul,Nat.reduceLT,reduceIte,Int.reduceToNat,w64_id,cast_succ]);(first|(with_reducible refine GR.drop ?_ ?_;(simp only [go_sem,and_self,and_true,true_and,implies_true,qI,qO]))|refine GR.of ?_);refine ⟨?_,rfl⟩;(try with_reducible rfl)
   ·rw [h8] at hv
    repeat (first|(with_reducible first|refine SW.seq ?_|refine q8 ?_|refine SW.rowC ?_|refine SW.skip ?_|refine SW.exit ?_|intro _|refine And.intro (by omega) ?_)|simp (maxSteps:=1000000) (disch:=(first|omega|(simp only [go_sem];try omega))) only [go_sem,Nat.reduceAdd,Nat.reduceEqDiff,Nat.reduceLeDiff,Nat.reduceMul,Nat.reduceLT,reduceIte,Int.reduceToNat,w64_id,cast_succ,hgi,hg0,d7])
    refine QcallW.of hv ?_
    repeat (first|(with_reducible first|refine SW.seq ?_|refine q8 ?_|refine SW.rowC ?_|refine SW.skip ?_|refine SW.exit ?_|intro _|refine And.intro (by omega) ?_)|simp (maxSteps:=1000000) (disch:=(first|omega|(simp only [go_sem];try omega))) only [go_sem,Nat.reduceAdd,Nat.reduceEqDiff,Nat.reduceLeDiff,Nat.reduceMul,Nat.reduceLT,reduceIte,Int.reduceToNat,w64_id,cast_succ])
    refine wE rfl ?_
    repeat (first|(with_reducible first|refine SW.seq ?_|refine q8 ?_|refine SW.rowC ?_|refine SW.skip ?_|refine SW.exit ?_|intro _|refine And.intro (by omega) ?_)|simp (maxSteps:=1000000) (disch:=(first|omega|(simp only [go_sem];try omega))) only [go_sem,Nat.reduceAdd,Nat.reduceEqDiff,Nat.reduceLeDiff,Nat.reduceMul,Nat.reduceLT,reduceIte,Int.reduceToNat,w64_id,cast_succ])
    exact wB (m.length - (i + 1)) (by omega) ⟨i + 1,by omega,rfl,by simp [go_sem],rfl,hyes (by rw [decide_eq_true h7,h8];rfl)⟩
 ·have hil : i = m.length:=by omega
  rw [hil,wW] at hall
  have hyes : (m.all fun r=>decide (r.length = R0.length) && vecB Q r) = true:=by
   rw [w9]
   exact hall
  rw [hyes]
  repeat (first|(with_reducible first|refine SW.seq ?_|refine q8 ?_|refine SW.rowC ?_|refine SW.skip ?_|refine SW.exit ?_|intro _|refine And.intro (by omega) ?_)|simp (maxSteps:=1000000) (disch:=(first|omega|(simp only [go_sem];try omega))) only [go_sem,Nat.reduceAdd,Nat.reduceEqDiff,Nat.reduceLeDiff,Nat.reduceMul,Nat.reduceLT,reduceIte,Int.reduceToNat,w64_id,cast_succ])
  refine SW.ret ?_;(try simp only [go_sem]);(first|refine qP ?_|refine qS ?_|refine qQ ?_);(try simp (maxSteps:=1000000) (disch:=(first|omega|(simp only [go_sem];try omega))) only [go_sem,Nat.reduceAdd,Nat.reduceEqDiff,Nat.reduceLeDiff,Nat.reduceMul,Nat.reduceLT,reduceIte,Int.reduceToNat,w64_id,cast_succ]);(first|(with_reducible refine GR.drop ?_ ?_;(simp only [go_sem,and_self,and_true,true_and,implies_true,qI,qO]))|refine GR.of ?_);refine ⟨?_,rfl⟩;(try with_reducible rfl)
theorem l18Count_fn (q k : Nat) (hq : 1 ≤ q ∧ q ≤ 64) (hk : k ≤ 1000) : PFn Tryz.prog f_spec_l18Count [I q,I k] (I (if q ^ k ≤ 4096 then q ^ k else 0 : Nat)):=by
 intro H;refine ACalls.introB s_spec_l18Count (by simp) ?_;intro hB hA;unfold c_spec_l18Count;simp (disch:=(first|omega|(simp only [go_sem];try omega))) only [go_sem,Nat.reduceAdd,Nat.reduceEqDiff,Nat.reduceLeDiff,reduceIte,w64_id,cast_succ]
 repeat (first|(with_reducible first|refine SW.seq ?_|refine q8 ?_|refine SW.rowC ?_|refine SW.skip ?_|refine SW.exit ?_|intro _|refine And.intro (by omega) ?_)|simp (disch:=(first|omega|(simp only [go_sem];try omega))) only [go_sem,Nat.reduceAdd,Nat.reduceEqDiff,Nat.reduceLeDiff,reduceIte,w64_id,cast_succ])
 refine wJ (fun E0 H0 m E' H'=>∃ i : Nat,i ≤ k ∧ m = k - i ∧ E' = aput (aput E0 1 (I (k - i : Nat))) 5 (I (q ^ i : Nat)) ∧ H' = H0 ∧ q ^ i ≤ 4096) k ⟨0,by omega,by omega,by simp [go_sem],rfl,by simp⟩ ?_
 rintro m E' H' ⟨i,hi,rfl,rfl,rfl,hpw⟩
 simp (disch:=(first|omega|(simp only [go_sem];try omega))) only [go_sem,Nat.reduceAdd,Nat.reduceEqDiff,Nat.reduceLeDiff,reduceIte,w64_id,cast_succ]
 repeat (first|(with_reducible first|refine SW.seq ?_|refine q8 ?_|refine SW.rowC ?_|refine SW.skip ?_|refine SW.exit ?_|intro _|refine And.intro (by omega) ?_)|simp (disch:=(first|omega|(simp only [go_sem];try omega))) only [go_sem,Nat.reduceAdd,Nat.reduceEqDiff,Nat.reduceLeDiff,reduceIte,w64_id,cast_succ])
 (first|refine wK rfl (fun h3=>?_) (fun h3=>?_)|refine wL rfl (fun h3=>?_) (fun h3=>?_)|refine wF rfl (fun h3=>?_) (fun h3=>?_)|refine wH rfl (fun h3=>?_) (fun h3=>?_))
 ·have hik : i < k:=by omega
  have e1 : ((q ^ i : Nat) : Int) * (q : Int) = ((q ^ (i + 1) : Nat) : Int):=by rw [Nat.pow_succ];simp
  have e2 : ((k - i : Nat) : Int) - 1 = ((k - (i + 1) : Nat) : Int):=by omega
  have hmul : q ^ (i + 1) ≤ 4096 * 64:=by rw [Nat.pow_succ];exact Nat.mul_le_mul hpw hq.2
  have hmono : q ^ (i + 1) ≤ q ^ k:=Nat.pow_le_pow_right (by omega) (by omega)
  generalize hP1 : q ^ (i + 1) = P1 at *
  by_cases h4 : P1 ≤ 4096
  ·have d4 : decide (4096 < (P1 : Int)) = false:=decide_eq_false (by omega)
   repeat (first|(with_reducible first|refine SW.seq ?_|refine q8 ?_|refine SW.rowC ?_|refine SW.skip ?_|refine SW.exit ?_|intro _|refine And.intro (by omega) ?_)|simp (disch:=(first|omega|(simp only [go_sem];try omega))) only [go_sem,Nat.reduceAdd,Nat.reduceEqDiff,Nat.reduceLeDiff,reduceIte,w64_id,cast_succ,e1,e2,d4])
   refine wE rfl ?_
   repeat (first|(with_reducible first|refine SW.seq ?_|refine q8 ?_|refine SW.rowC ?_|refine SW.skip ?_|refine SW.exit ?_|intro _|refine And.intro (by omega) ?_)|simp (disch:=(first|omega|(simp only [go_sem];try omega))) only [go_sem,Nat.reduceAdd,Nat.reduceEqDiff,Nat.reduceLeDiff,reduceIte,w64_id,cast_succ,e2])
   refine wB (k - (i + 1)) (by omega) ⟨i + 1,by omega,rfl,by simp [go_sem,hP1],rfl,by rw [hP1];exact h4⟩
  ·have d4 : decide (4096 < (P1 : Int)) = true:=decide_eq_true (by omega)
   rw [if_neg (by omega)]
   repeat (first|(with_reducible first|refine SW.seq ?_|refine q8 ?_|refine SW.rowC ?_|refine SW.skip ?_|refine SW.exit ?_|intro _|refine And.intro (by omega) ?_)|simp (disch:=(first|omega|(simp only [go_sem];try omega))) only [go_sem,Nat.reduceAdd,Nat.reduceEqDiff,Nat.reduceLeDiff,reduceIte,w64_id,cast_succ,e1,e2,d4])
   refine wM rfl ?_
   repeat (first|(with_reducible first|refine SW.seq ?_|refine q8 ?_|refine SW.rowC ?_|refine SW.skip ?_|refine SW.exit ?_|intro _|refine And.intro (by omega) ?_)|simp (disch:=(first|omega|(simp only [go_sem];try omega))) only [go_sem,Nat.reduceAdd,Nat.reduceEqDiff,Nat.reduceLeDiff,reduceIte,w64_id,cast_succ])
   refine SW.ret ?_;(try simp only [go_sem]);(first|refine qP ?_|refine qS ?_|refine qQ ?_);(try simp (disch:=(first|omega|(simp only [go_sem];try omega))) only [go_sem,Nat.reduceAdd,Nat.reduceEqDiff,Nat.reduceLeDiff,reduceIte,w64_id,cast_succ]);(first|(with_reducible refine GR.drop ?_ ?_;(simp only [go_sem,and_self,and_true,true_and,implies_true,qI,qO]))|refine GR.of ?_);refine ⟨?_,rfl⟩;(try with_reducible rfl)
   rfl
 ·have hik : i = k:=by omega
  subst hik
  rw [if_pos hpw]
  repeat (first|(with_reducible first|refine SW.seq ?_|refine q8 ?_|refine SW.rowC ?_|refine SW.skip ?_|refine SW.exit ?_|intro _|refine And.intro (by omega) ?_)|simp (disch:=(first|omega|(simp only [go_sem];try omega))) only [go_sem,Nat.reduceAdd,Nat.reduceEqDiff,Nat.reduceLeDiff,reduceIte,w64_id,cast_succ])
  refine SW.ret ?_;(try simp only [go_sem]);(first|refine qP ?_|refine qS ?_|refine qQ ?_);(try simp (disch:=(first|omega|(simp only [go_sem];try omega))) only [go_sem,Nat.reduceAdd,Nat.reduceEqDiff,Nat.reduceLeDiff,reduceIte,w64_id,cast_succ]);(first|(with_reducible refine GR.drop ?_ ?_;(simp only [go_sem,and_self,and_true,true_and,implies_true,qI,qO]))|refine GR.of ?_);refine ⟨?_,rfl⟩;(try with_reducible rfl)
theorem TabF.rdTake {X : List Blk} {N : Nat → Prop} {v : AV} {xss : List (List Int)} (h : TabF X N v xss) {t tt ver n : Nat} (hv : v = .nm tt ver 0 n) (ht : t ≤ xss.length) : RdSS X (.nm tt ver 0 t) (xss.take t):=by
 rcases h with ⟨h1,_⟩|⟨t',ver',cells,h1,h2,h3,h4,h5⟩
 ·rw [hv] at h1;cases h1
 ·rw [hv] at h1
  cases h1
  have hl : (xss.take t).length = t:=by rw [wT];omega
  refine ⟨cells.take t,?_,by rw [wT,hl];omega,fun j c xs g1 g2=>?_⟩
  ·rw [hl]
   have : aview X (.nm tt ver 0 t) = some (t,(cells.drop 0).take t):=by simp [aview,h3]
   rw [this,List.drop_zero]
  ·have hj : j < t:=by have:=(qC.1 g2).1;omega
   rw [List.getElem?_take_of_lt hj] at g1 g2
   exact (h5 j c xs g1 g2).rd
theorem l17Form_g (H : List Blk) (r ty P K : Nat) (L : List Int) (rest : List AV) (m : List (List Int)) (w : Nat) (hr : H[r]? = some (fdC ty P K L rest)) (hpb : 2 ≤ P ∧ P ≤ 64) (hkb : 1 ≤ K ∧ K ≤ 6) (hLb : OkD P L ∧ L.length = K + 1) (hF : FldR P K L) (hq : P ^ K ≤ 64) (hm : MatB (P ^ K) w m) (hn : 1 ≤ m.length ∧ m.length ≤ 32) (hw : 1 ≤ w ∧ w ≤ 32) :
  ACalls Tryz.prog f_spec_l17Form [.pc r 0 0,ilSS m] H (fun v H'=>∃ zs,RdSS H' v zs ∧ decide (zs = m) = goodC m w w 0 ∧ H.length ≤ H'.length ∧ ∀ j,j < H.length → H'[j]? = H[j]?):=by
 have hw0 : (m.getD 0 []).length = w:=(hm.row (by omega)).1
 have hg0 : (m.map ilS)[0]? = some (ilS (m.getD 0 [])):=by rw [qX,qE,qB (by omega)];rfl
 refine ACalls.introB s_spec_l17Form (by simp) ?_;intro hB hA;unfold c_spec_l17Form;simp (maxSteps:=1000000) (disch:=(first|omega|(simp only [go_sem];try omega))) only [go_sem,Nat.reduceAdd,Nat.reduceEqDiff,Nat.reduceLeDiff,Nat.reduceMul,Nat.reduceLT,reduceIte,Int.reduceToNat,w64_id,cast_succ]
 repeat (first|(with_reducible first|refine SW.seq ?_|refine q8 ?_|refine SW.rowC ?_|refine SW.skip ?_|refine SW.exit ?_|intro _|refine And.intro (by omega) ?_)|simp (maxSteps:=1000000) (disch:=(first|omega|(simp only [go_sem];try omega))) only [go_sem,Nat.reduceAdd,Nat.reduceEqDiff,Nat.reduceLeDiff,Nat.reduceMul,Nat.reduceLT,reduceIte,Int.reduceToNat,w64_id,cast_succ,hg0,hw0])
 refine (l17Reduce_g H r ty P K L rest m w hr hpb hkb hLb hF hq hm hn hw).mono ?_
 rintro z X ⟨pp,out,pv,xs,t,k,rfl,hI,hkt,hE⟩
 obtain ⟨pvr,ps,rfl,hps,hpb2⟩:=hE.piv
 have hpvw : aview X (.nm pp pvr 0 t) = some (t,ps.map I):=view_nm hpb2 (by simp [hps])
 have hxl : xs.length = m.length:=hI.1
 have htl : t ≤ m.length:=hI.2.1
 rcases hE.tab with ⟨-,e⟩|⟨tt,ver,cells,rfl,t2,t3,t4,t5⟩
 ·rw [e] at hxl;simp at hxl;omega
 have hvw : aview X (.nm tt ver 0 xs.length) = some (xs.length,cells):=view_nm t3 t4
 repeat (first|(with_reducible first|refine SW.seq ?_|refine q8 ?_|refine SW.rowC ?_|refine SW.skip ?_|refine SW.exit ?_|intro _|refine And.intro (by omega) ?_)|simp (maxSteps:=1000000) (disch:=(first|omega|(simp only [go_sem];try omega))) only [go_sem,Nat.reduceAdd,Nat.reduceEqDiff,Nat.reduceLeDiff,Nat.reduceMul,Nat.reduceLT,reduceIte,Int.reduceToNat,w64_id,cast_succ,hpvw,hvw,Option.map_some,Option.map_none])
 rw [SlcG_nm (by simp [t3]) (by omega) (by omega),wA]
 repeat (first|(with_reducible first|refine SW.seq ?_|refine q8 ?_|refine SW.rowC ?_|refine SW.skip ?_|refine SW.exit ?_|intro _|refine And.intro (by omega) ?_)|simp (maxSteps:=1000000) (disch:=(first|omega|(simp only [go_sem];try omega))) only [go_sem,Nat.reduceAdd,Nat.reduceEqDiff,Nat.reduceLeDiff,Nat.reduceMul,Nat.reduceLT,reduceIte,Int.reduceToNat,w64_id,cast_succ])
 refine SW.ret ?_;(try simp only [go_sem]);(first|refine qP ?_|refine qS ?_|refine qQ ?_);(try simp (maxSteps:=1000000) (disch:=(first|omega|(simp only [go_sem];try omega))) only [go_sem,Nat.reduceAdd,Nat.reduceEqDiff,Nat.reduceLeDiff,Nat.reduceMul,Nat.reduceLT,reduceIte,Int.reduceToNat,w64_id,cast_succ])
 have hE2:=hE.tab.rdTake rfl (t:=t) (by omega)
 exact GR.of ⟨xs.take t,hE2,hI.done hkt,hE.len,hE.fr⟩
def codeB (p d : Int) (poly : List Int) (m : List (List Int)) : Bool :=
 fieldB p d poly && matC (p.toNat ^ d.toNat) m && decide (m.length ≤ 8) && decide ((p.toNat ^ d.toNat) ^ m.length ≤ 4096) && goodC m (m.getD 0 []).length (m.getD 0 []).length 0
theorem matC_facts {q : Nat} {m : List (List Int)} (h : matC q m = true) : (1 ≤ m.length ∧ m.length ≤ 32) ∧ (1 ≤ (m.getD 0 []).length ∧ (m.getD 0 []).length ≤ 32) ∧ MatB q (m.getD 0 []).length m:=by
 unfold matC vecB at h
 simp only [Bool.and_eq_true,decide_eq_true_eq,w9] at h
 obtain ⟨⟨⟨h1,h2⟩,h3,h4⟩,h5⟩:=h
 exact ⟨⟨h1,h2⟩,⟨h3,h4⟩,fun r hr=>⟨(h5 r hr).1,fun x hx=>by have:=(h5 r hr).2 x hx;omega⟩⟩
theorem l18Ok_g (H : List Blk) (r ty : Nat) (p d : Int) (poly : List Int) (m : List (List Int)) (hr : H[r]? = some ⟨0,ty,1,I p :: I d :: ilS poly :: [ilSS m]⟩) (hl : poly.length ≤ 2000000) (hw : -9223372036854775808 ≤ d ∧ d ≤ 9223372036854775807) (hm : m.length ≤ 2000000) (hm2 : ∀ x ∈ m,x.length ≤ 2000000)
  (hFld : fieldB p d poly = true → FldR p.toNat d.toNat poly) :
  ACalls Tryz.prog f_spec_l18Ok [.pc r 0 0] H (fun v H'=>v = Bv (codeB p d poly m) ∧ H' = H):=by
 have xa:=fun o=>pc_alive (off:=o) hr
 have xl:=fun o=>pc_ld (off:=o) hr
 refine ACalls.introB s_spec_l18Ok (by simp) ?_;intro hB hA;unfold c_spec_l18Ok;simp (maxSteps:=1000000) (disch:=(first|omega|(simp only [go_sem];try omega))) only [go_sem,Nat.reduceAdd,Nat.reduceEqDiff,Nat.reduceLeDiff,Nat.reduceMul,Nat.reduceLT,reduceIte,Int.reduceToNat,w64_id,cast_succ]
 repeat (first|(with_reducible first|refine SW.seq ?_|refine q8 ?_|refine SW.rowC ?_|refine SW.skip ?_|refine SW.exit ?_|intro _|refine And.intro (by omega) ?_)|simp (maxSteps:=1000000) (disch:=(first|omega|(simp only [go_sem];try omega))) only [go_sem,Nat.reduceAdd,Nat.reduceEqDiff,Nat.reduceLeDiff,Nat.reduceMul,Nat.reduceLT,reduceIte,Int.reduceToNat,w64_id,cast_succ,xa,xl])
 refine QcallW.of (fun ext=>l17Ok_g (H ++ ext) r ty p d poly _ m (get_appU hr ext) hl hw hm hm2) ?_
 unfold codeB
 cases h1 : (fieldB p d poly && matC (p.toNat ^ d.toNat) m)
 ·repeat (first|(with_reducible first|refine SW.seq ?_|refine q8 ?_|refine SW.rowC ?_|refine SW.skip ?_|refine SW.exit ?_|intro _|refine And.intro (by omega) ?_)|simp (maxSteps:=1000000) (disch:=(first|omega|(simp only [go_sem];try omega))) only [go_sem,Nat.reduceAdd,Nat.reduceEqDiff,Nat.reduceLeDiff,Nat.reduceMul,Nat.reduceLT,reduceIte,Int.reduceToNat,w64_id,cast_succ])
  refine wM rfl ?_
  repeat (first|(with_reducible first|refine SW.seq ?_|refine q8 ?_|refine SW.rowC ?_|refine SW.skip ?_|refine SW.exit ?_|intro _|refine And.intro (by omega) ?_)|simp (maxSteps:=1000000) (disch:=(first|omega|(simp only [go_sem];try omega))) only [go_sem,Nat.reduceAdd,Nat.reduceEqDiff,Nat.reduceLeDiff,Nat.reduceMul,Nat.reduceLT,reduceIte,Int.reduceToNat,w64_id,cast_succ])
  refine SW.ret ?_;(try simp only [go_sem]);(first|refine qP ?_|refine qS ?_|refine qQ ?_);(try simp (maxSteps:=1000000) (disch:=(first|omega|(simp only [go_sem];try omega))) only [go_sem,Nat.reduceAdd,Nat.reduceEqDiff,Nat.reduceLeDiff,Nat.reduceMul,Nat.reduceLT,reduceIte,Int.reduceToNat,w64_id,cast_succ]);(first|(with_reducible refine GR.drop ?_ ?_;(simp only [go_sem,and_self,and_true,true_and,implies_true,qI,qO]))|refine GR.of ?_);refine ⟨?_,rfl⟩;(try with_reducible rfl)
 rw [Bool.and_eq_true] at h1
 obtain ⟨P,K,rfl,rfl,hpb,hkb,hLb,hq,-,-,-⟩:=fieldB_facts h1.1
 have hF:=hFld h1.1
 simp only [wA] at h1 hF ⊢
 obtain ⟨hn,hw2,hM⟩:=matC_facts h1.2
 have hg0 : (m.map ilS)[0]? = some (ilS (m.getD 0 [])):=by rw [qX,qE,qB (by omega)];rfl
 generalize hR0 : m.getD 0 [] = R0 at *
 have d4 : decide (32 < (R0.length : Int)) = false:=decide_eq_false (by omega)
 by_cases h8 : m.length ≤ 8
 rotate_left
 ·have d5 : decide (8 < (m.length : Int)) = true:=decide_eq_true (by omega)
  rw [decide_eq_false h8]
  repeat (first|(with_reducible first|refine SW.seq ?_|refine q8 ?_|refine SW.rowC ?_|refine SW.skip ?_|refine SW.exit ?_|intro _|refine And.intro (by omega) ?_)|simp (maxSteps:=1000000) (disch:=(first|omega|(simp only [go_sem];try omega))) only [go_sem,Nat.reduceAdd,Nat.reduceEqDiff,Nat.reduceLeDiff,Nat.reduceMul,Nat.reduceLT,reduceIte,Int.reduceToNat,w64_id,cast_succ,xa,xl,hg0,d4,d5])
  refine wM rfl ?_
  repeat (first|(with_reducible first|refine SW.seq ?_|refine q8 ?_|refine SW.rowC ?_|refine SW.skip ?_|refine SW.exit ?_|intro _|refine And.intro (by omega) ?_)|simp (maxSteps:=1000000) (disch:=(first|omega|(simp only [go_sem];try omega))) only [go_sem,Nat.reduceAdd,Nat.reduceEqDiff,Nat.reduceLeDiff,Nat.reduceMul,Nat.reduceLT,reduceIte,Int.reduceToNat,w64_id,cast_succ])
  refine SW.ret ?_;(try simp only [go_sem]);(first|refine qP ?_|refine qS ?_|refine qQ ?_);(try simp (maxSteps:=1000000) (disch:=(first|omega|(simp only [go_sem];try omega))) only [go_sem,Nat.reduceAdd,Nat.reduceEqDiff,Nat.reduceLeDiff,Nat.reduceMul,Nat.reduceLT,reduceIte,Int.reduceToNat,w64_id,cast_succ]);(first|(with_reducible refine GR.drop ?_ ?_;(simp only [go_sem,and_self,and_true,true_and,implies_true,qI,qO]))|refine GR.of ?_);refine ⟨?_,rfl⟩;(try with_reducible rfl)
 have d5 : decide (8 < (m.length : Int)) = false:=decide_eq_false (by omega)
 rw [decide_eq_true h8]
 have hcnt:=l18Count_fn (P ^ K) m.length ⟨Nat.pos_of_ne_zero (by have:=yX (n:=K) (show 0 < P by omega);omega),hq⟩ (by omega)
 repeat (first|(with_reducible first|refine SW.seq ?_|refine q8 ?_|refine SW.rowC ?_|refine SW.skip ?_|refine SW.exit ?_|intro _|refine And.intro (by omega) ?_)|simp (maxSteps:=1000000) (disch:=(first|omega|(simp only [go_sem];try omega))) only [go_sem,Nat.reduceAdd,Nat.reduceEqDiff,Nat.reduceLeDiff,Nat.reduceMul,Nat.reduceLT,reduceIte,Int.reduceToNat,w64_id,cast_succ,xa,xl,hg0,d4,d5])
 refine wE rfl ?_
 repeat (first|(with_reducible first|refine SW.seq ?_|refine q8 ?_|refine SW.rowC ?_|refine SW.skip ?_|refine SW.exit ?_|intro _|refine And.intro (by omega) ?_)|simp (maxSteps:=1000000) (disch:=(first|omega|(simp only [go_sem];try omega))) only [go_sem,Nat.reduceAdd,Nat.reduceEqDiff,Nat.reduceLeDiff,Nat.reduceMul,Nat.reduceLT,reduceIte,Int.reduceToNat,w64_id,cast_succ,xa,xl])
 first
  | refine QcallW.of (fun ext=>l03Size_g (H ++ ext) r ty P K poly _ (get_appU hr ext) hpb hkb) ?_
  | (refine (l03Size_g H r ty P K poly _ hr hpb hkb).mono ?_
     rintro z H ⟨rfl, rfl⟩)
 repeat (first|(with_reducible first|refine SW.seq ?_|refine q8 ?_|refine SW.rowC ?_|refine SW.skip ?_|refine SW.exit ?_|refine PFn.use (hcnt) ?_|refine PFn.useq (hcnt) ?_|intro _|refine And.intro (by omega) ?_)|simp (maxSteps:=1000000) (disch:=(first|omega|(simp only [go_sem];try omega))) only [go_sem,Nat.reduceAdd,Nat.reduceEqDiff,Nat.reduceLeDiff,Nat.reduceMul,Nat.reduceLT,reduceIte,Int.reduceToNat,w64_id,cast_succ,xa,xl])
 by_cases h9 : (P ^ K) ^ m.length ≤ 4096
 rotate_left
 ·rw [if_neg h9,decide_eq_false h9]
  refine wM rfl ?_
  repeat (first|(with_reducible first|refine SW.seq ?_|refine q8 ?_|refine SW.rowC ?_|refine SW.skip ?_|refine SW.exit ?_|intro _|refine And.intro (by omega) ?_)|simp (maxSteps:=1000000) (disch:=(first|omega|(simp only [go_sem];try omega))) only [go_sem,Nat.reduceAdd,Nat.reduceEqDiff,Nat.reduceLeDiff,Nat.reduceMul,Nat.reduceLT,reduceIte,Int.reduceToNat,w64_id,cast_succ])
  refine SW.ret ?_;(try simp only [go_sem]);(first|refine qP ?_|refine qS ?_|refine qQ ?_);(try simp (maxSteps:=1000000) (disch:=(first|omega|(simp only [go_sem];try omega))) only [go_sem,Nat.reduceAdd,Nat.reduceEqDiff,Nat.reduceLeDiff,Nat.reduceMul,Nat.reduceLT,reduceIte,Int.reduceToNat,w64_id,cast_succ]);(first|(with_reducible refine GR.drop ?_ ?_;(simp only [go_sem,and_self,and_true,true_and,implies_true,qI,qO]))|refine GR.of ?_);refine ⟨?_,rfl⟩;(try with_reducible rfl)
 have hpos : 0 < (P ^ K) ^ m.length:=yX (yX (by omega))
 have d6 : decide ((((P ^ K) ^ m.length : Nat) : Int) = 0) = false:=decide_eq_false (by omega)
 rw [if_pos h9,decide_eq_true h9,d6]
 refine wE rfl ?_
 repeat (first|(with_reducible first|refine SW.seq ?_|refine q8 ?_|refine SW.rowC ?_|refine SW.skip ?_|refine SW.exit ?_|intro _|refine And.intro (by omega) ?_)|simp (maxSteps:=1000000) (disch:=(first|omega|(simp only [go_sem];try omega))) only [go_sem,Nat.reduceAdd,Nat.reduceEqDiff,Nat.reduceLeDiff,Nat.reduceMul,Nat.reduceLT,reduceIte,Int.reduceToNat,w64_id,cast_succ,xa,xl])
 refine SW.mixR (fun E' Z=>keep [2] E' = [(2,Bv (goodC m R0.length R0.length 0))] ∧ H.length ≤ Z.length ∧ ∀ j,j < H.length → Z[j]? = H[j]?) ?_ ?_
 ·simp (maxSteps:=1000000) (disch:=(first|omega|(simp only [go_sem];try omega))) only [go_sem,Nat.reduceAdd,Nat.reduceEqDiff,Nat.reduceLeDiff,Nat.reduceMul,Nat.reduceLT,reduceIte,Int.reduceToNat,w64_id,cast_succ,xa,xl]
  repeat' (with_reducible refine And.intro ?_ ?_)
  all_goals
   refine (l17Form_g H r ty P K poly _ m R0.length hr hpb hkb hLb hF hq hM hn hw2).mono ?_
   rintro z X ⟨zs,hzs,hzd,hzl,hzf⟩
   have hrX : X[r]? = some ⟨0,ty,1,I P :: I K :: ilS poly :: [ilSS m]⟩:=by rw [hzf r (qC.1 hr).1];exact hr
   have ya:=fun o=>pc_alive (off:=o) hrX
   have yl:=fun o=>pc_ld (off:=o) hrX
   (try simp (maxSteps:=1000000) (disch:=(first|omega|(simp only [go_sem];try omega))) only [go_sem,Nat.reduceAdd,Nat.reduceEqDiff,Nat.reduceLeDiff,Nat.reduceMul,Nat.reduceLT,reduceIte,Int.reduceToNat,w64_id,cast_succ,ya,yl])
   refine QcallW.of (fun ext=>l10Same_ok (X ++ ext) z (ilSS m) zs m (hzs.append ext) (rd_ilSS _ _)) ?_
   rw [hzd]
   (try simp (maxSteps:=1000000) (disch:=(first|omega|(simp only [go_sem];try omega))) only [go_sem,Nat.reduceAdd,Nat.reduceEqDiff,Nat.reduceLeDiff,Nat.reduceMul,Nat.reduceLT,reduceIte,Int.reduceToNat,w64_id,cast_succ])
   exact ⟨hzl,hzf⟩
 ·rintro E2 Z ⟨hk2,hzl,hzf⟩
  obtain ⟨ext,rfl⟩:=prefix_of hzl hzf
  rw [hk2]
  repeat (first|(with_reducible first|refine SW.seq ?_|refine q8 ?_|refine SW.rowC ?_|refine SW.skip ?_|refine SW.exit ?_|intro _|refine And.intro (by omega) ?_)|simp (maxSteps:=1000000) (disch:=(first|omega|(simp only [go_sem];try omega))) only [go_sem,Nat.reduceAdd,Nat.reduceEqDiff,Nat.reduceLeDiff,Nat.reduceMul,Nat.reduceLT,reduceIte,Int.reduceToNat,w64_id,cast_succ])
  refine SW.ret ?_;(try simp only [go_sem]);(first|refine qP ?_|refine qS ?_|refine qQ ?_);(try simp (maxSteps:=1000000) (disch:=(first|omega|(simp only [go_sem];try omega))) only [go_sem,Nat.reduceAdd,Nat.reduceEqDiff,Nat.reduceLeDiff,Nat.reduceMul,Nat.reduceLT,reduceIte,Int.reduceToNat,w64_id,cast_succ]);(first|(with_reducible refine GR.drop ?_ ?_;(simp only [go_sem,and_self,and_true,true_and,implies_true,qI,qO]))|refine GR.of ?_);refine ⟨?_,rfl⟩;(try with_reducible rfl)
end Go.Proofs.YtclfmfabcnbbpaaGreat