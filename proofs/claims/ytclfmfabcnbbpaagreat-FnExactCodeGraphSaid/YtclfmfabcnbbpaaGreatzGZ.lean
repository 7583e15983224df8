/- Which polynomials are irreducible. -/
import Derived.Test.YtclfmfabcnbbpaaGreatProg
import Derived.KernelRfl
import Derived.Test.YtclfmfabcnbbpaaGreatzGQ
import Derived.Test.YtclfmfabcnbbpaaGreatzL1
set_option linter.unusedSimpArgs false
set_option linter.unusedVariables false
set_option maxHeartbeats 4000000
set_option maxRecDepth 100000
open Go.Operand renaming tmp→t'
open Option renaming none→n',some→s'
open List renaming range→w7,all_eq_true→w9,mem_range→wP,take_of_length_le→qW,mem_append→xA,mem_singleton→xE,take_succ_cons→qI,take_zero→qO,range'→yJ,getD_eq_getElem?_getD→qE,getElem?_eq_getElem→qB,getElem_mem→wQ,take_succ_eq_append_getElem→xN,take_length→wW,getElem?_eq_some_iff→qC,getElem?_map→qX,map_append→xB,length_map→w8
open Go.Av.SW renaming block→q8,loopE→wJ,condD→wK,condN→wL,condNB→wF,condB→wH,condT→wM,condF→wE
open Go.Av.FunPost renaming one→qP,two→qS,three→qQ
open Go.Av.SLoop renaming nextT→y4,next→wB
open Nat renaming lt_or_eq_of_le→yH,le_refl→qZ
open Int renaming eq_ofNat_of_zero_le→wC,toNat_natCast→wA
namespace Go.Proofs.YtclfmfabcnbbpaaGreat
open Go.Av
abbrev f_spec_l03Irreducible : Nat:=80
def c_spec_l03Irreducible : SC :=
 .seq (.reg [⟨s' 4,.mv (.const (.bool false)),n'⟩] [0,1]) (.seq (.reg [⟨s' 10,.mv (t' 0),n'⟩,⟨s' 11,.len (t' 10),n'⟩,⟨s' 12,.bin .sub (t' 11) (.const (.int .i64 1)),n'⟩,
 ⟨s' 5,.mv (t' 12),n'⟩] [0,1,5]) (.seq (.seq (.reg [⟨s' 6,.mv (.const (.int .i64 1)),n'⟩] [0,1,5,6]) (.block 0 (.loop [0,1,5,6] (.seq (.seq (.reg [⟨s' 13,.mv (t' 6),n'⟩,
 ⟨s' 14,.bin .mul (.const (.int .i64 2)) (t' 13),n'⟩,⟨s' 15,.mv (t' 5),n'⟩,⟨s' 16,.bin .leq (t' 14) (t' 15),n'⟩] [0,1,5,6,16]) (.cond (t' 16) (.skip) (.exit 0)))
 (.seq (.block 1 (.seq (.reg [⟨s' 7,.mv (.const (.int .i64 0)),n'⟩] [0,1,5,6,7]) (.block 2 (.loop [0,1,5,6,7] (.seq (.seq (.reg [⟨s' 19,.mv (t' 7),n'⟩,⟨s' 20,.mv (t' 1),n'⟩,
 ⟨s' 21,.mv (t' 6),n'⟩,⟨s' 22,.call 57 [(t' 20),(t' 21)],n'⟩,⟨s' 23,.bin .lss (t' 19) (t' 22),n'⟩] [0,1,5,6,7,23]) (.cond (t' 23) (.skip) (.exit 2))) (.seq (.block 3 (.seq (.reg [
 ⟨s' 26,.mv (t' 7),n'⟩,⟨s' 27,.mv (t' 1),n'⟩,⟨s' 28,.mv (t' 6),n'⟩,⟨s' 29,.call 96 [(t' 26),(t' 27),(t' 28)],n'⟩,
 ⟨s' 30,.bslice 2 1 1 [(.int .i64 0)] [(0,(.const (.int .i64 1)))],n'⟩,⟨s' 31,.app 2 1 8 (t' 29) (t' 30),n'⟩,⟨s' 8,.mv (t' 31),n'⟩] [0,1,5,6,7,8]) (.seq (.reg [
 ⟨s' 32,.mv (t' 0),n'⟩,⟨s' 33,.mv (t' 8),n'⟩,⟨s' 34,.mv (t' 1),n'⟩,⟨s' 35,.call 97 [(t' 32),(t' 33),(t' 34)],n'⟩,⟨s' 9,.mv (t' 35),n'⟩] [0,1,5,6,7,9]) (.seq (.reg [
 ⟨s' 36,.mv (t' 9),n'⟩,⟨s' 37,.mv (t' 1),n'⟩,⟨s' 38,.call 98 [(t' 36),(t' 37)],n'⟩,⟨s' 39,.bin .eql (t' 38) (.const (.int .i64 0)),n'⟩] [0,1,5,6,7,39]) (.cond (t' 39) (.seq (.reg [
 ⟨s' 4,.mv (.const (.bool false)),n'⟩] [4]) (.ret)) (.skip)))))) (.reg [⟨s' 24,.mv (t' 7),n'⟩,⟨s' 25,.bin .add (t' 24) (.const (.int .i64 1)),n'⟩,
 ⟨s' 7,.mv (t' 25),n'⟩] [0,1,5,6,7]))))))) (.reg [⟨s' 17,.mv (t' 6),n'⟩,⟨s' 18,.bin .add (t' 17) (.const (.int .i64 1)),n'⟩,⟨s' 6,.mv (t' 18),n'⟩] [0,1,5,6])))))) (.seq (.reg [
 ⟨s' 4,.mv (.const (.bool true)),n'⟩] [4]) (.ret))))
theorem s_spec_l03Irreducible : stripF Tryz.prog 80 [[0,1],[0,1,5],[0,1,5,6],[0,1,5,6],[0,1,5,6,16],[0,1,5,6,7],[0,1,5,6,7],[0,1,5,6,7,23],[0,1,5,6,7,8],[0,1,5,6,7,9],[0,1,5,6,7,39],[4],[0,1,5,6,7],[0,1,5,6],[4]] = some (c_spec_l03Irreducible,[.tmp 4],40):=by kernel_rfl
abbrev tyFd : Nat:=34
def irrD (poly : List Int) (p d : Nat) : Bool:=(w7 (p ^ d)).all fun n=>decide (numL p (restL poly (digL p d n ++ [1]) p) ≠ 0)
def irrG (poly : List Int) (p : Nat) : Bool:=(w7 ((poly.length - 1) / 2)).all fun d=>irrD poly p (d + 1)
theorem l03Irreducible_g (poly : List Int) (p : Nat) (h2 : 2 ≤ p) (hp : p ≤ 64) (hx : OkD p poly) (hl : 2 ≤ poly.length ∧ poly.length ≤ 7) (hq : p ^ (poly.length - 1) ≤ 64) : PFn Tryz.prog f_spec_l03Irreducible [ilS poly,I p] (Bv (irrG poly p)):=by
 intro H;refine ACalls.introB s_spec_l03Irreducible (by simp) ?_;intro hB hA;unfold c_spec_l03Irreducible;simp (disch:=(first|omega|(simp only [go_sem];try omega))) only [go_sem,Nat.reduceAdd,Nat.reduceEqDiff,Nat.reduceLeDiff,reduceIte,w64_id,cast_succ]
 repeat (first|(with_reducible first|refine SW.seq ?_|refine q8 ?_|refine SW.rowC ?_|refine SW.skip ?_|refine SW.exit ?_|intro _|refine And.intro (by omega) ?_)|simp (disch:=(first|omega|(simp only [go_sem];try omega))) only [go_sem,Nat.reduceAdd,Nat.reduceEqDiff,Nat.reduceLeDiff,reduceIte,w64_id,cast_succ])
 refine wJ (fun E0 H0 q E' H'=>∃ d : Nat,d ≤ (poly.length - 1) / 2 ∧ q = (poly.length - 1) / 2 - d ∧ E' = aput E0 6 (I (d + 1 : Nat)) ∧ H' = H0 ∧ ∀ d',d' < d → irrD poly p (d' + 1) = true) ((poly.length - 1) / 2) ⟨0,by omega,by omega,rfl,rfl,fun d h=>by omega⟩ ?_
 rintro q E' H' ⟨d,hd,rfl,rfl,rfl,hda⟩
 simp (disch:=(first|omega|(simp only [go_sem];try omega))) only [go_sem,Nat.reduceAdd,Nat.reduceEqDiff,Nat.reduceLeDiff,reduceIte,w64_id,cast_succ]
 repeat (first|(with_reducible first|refine SW.seq ?_|refine q8 ?_|refine SW.rowC ?_|refine SW.skip ?_|refine SW.exit ?_|intro _|refine And.intro (by omega) ?_)|simp (disch:=(first|omega|(simp only [go_sem];try omega))) only [go_sem,Nat.reduceAdd,Nat.reduceEqDiff,Nat.reduceLeDiff,reduceIte,w64_id,cast_succ])
 (first|refine wK rfl (fun h3=>?_) (fun h3=>?_)|refine wL rfl (fun h3=>?_) (fun h3=>?_)|refine wF rfl (fun h3=>?_) (fun h3=>?_)|refine wH rfl (fun h3=>?_) (fun h3=>?_))
 ·have hdl : d < (poly.length - 1) / 2:=by omega
  have hpd : p ^ (d + 1) ≤ 64:=Nat.le_trans (Nat.pow_le_pow_right (by omega) (by omega)) hq
  have hpp : p ≤ p ^ (d + 1):=Nat.le_self_pow (by omega) p
  have hpw:=l03Power_fn p (d + 1) (by omega) hp (by omega)
  have hno : irrD poly p (d + 1) = false → irrG poly p = false:=fun h=>by
   rw [Bool.eq_false_iff]
   intro h5
   unfold irrG at h5
   rw [w9] at h5
   rw [h5 d (wP.2 hdl)] at h;cases h
  repeat (first|(with_reducible first|refine SW.seq ?_|refine q8 ?_|refine SW.rowC ?_|refine SW.skip ?_|refine SW.exit ?_|intro _|refine And.intro (by omega) ?_)|simp (disch:=(first|omega|(simp only [go_sem];try omega))) only [go_sem,Nat.reduceAdd,Nat.reduceEqDiff,Nat.reduceLeDiff,reduceIte,w64_id,cast_succ])
  refine wJ (fun E0 H0 q E' H'=>∃ n : Nat,n ≤ p ^ (d + 1) ∧ q = p ^ (d + 1) - n ∧ E' = aput E0 7 (I n) ∧ H' = H0 ∧ ∀ i,i < n → numL p (restL poly (digL p (d + 1) i ++ [1]) p) ≠ 0) (p ^ (d + 1)) ⟨0,by omega,by omega,rfl,rfl,fun i hi=>by omega⟩ ?_
  rintro q E' H' ⟨n,hn,rfl,rfl,rfl,hall⟩
  simp (disch:=(first|omega|(simp only [go_sem];try omega))) only [go_sem,Nat.reduceAdd,Nat.reduceEqDiff,Nat.reduceLeDiff,reduceIte,w64_id,cast_succ]
  repeat (first|(with_reducible first|refine SW.seq ?_|refine q8 ?_|refine SW.rowC ?_|refine SW.skip ?_|refine SW.exit ?_|refine PFn.use (hpw) ?_|refine PFn.useq (hpw) ?_|intro _|refine And.intro (by omega) ?_)|simp (disch:=(first|omega|(simp only [go_sem];try omega))) only [go_sem,Nat.reduceAdd,Nat.reduceEqDiff,Nat.reduceLeDiff,reduceIte,w64_id,cast_succ])
  (first|refine wK rfl (fun h4=>?_) (fun h4=>?_)|refine wL rfl (fun h4=>?_) (fun h4=>?_)|refine wF rfl (fun h4=>?_) (fun h4=>?_)|refine wH rfl (fun h4=>?_) (fun h4=>?_))
  ·repeat (first|(with_reducible first|refine SW.seq ?_|refine q8 ?_|refine SW.rowC ?_|refine SW.skip ?_|refine SW.exit ?_|intro _|refine And.intro (by omega) ?_)|simp (disch:=(first|omega|(simp only [go_sem];try omega))) only [go_sem,Nat.reduceAdd,Nat.reduceEqDiff,Nat.reduceLeDiff,reduceIte,w64_id,cast_succ])
   refine (l03Digits_new _ n p (d + 1) (by omega) hp (by omega) (by omega)).mono ?_
   rintro r H1 ⟨ver,rfl,rfl⟩
   have hDl:=digL_len p (d + 1) n
   have hDo:=digL_ok (p:=p) (by omega) (d + 1) n
   have hnp : n < p ^ (d + 1):=by omega
   have han : numL p (restL poly (digL p (d + 1) n ++ [1]) p) = 0 → irrD poly p (d + 1) = false:=fun h=>by
    rw [Bool.eq_false_iff]
    intro h5
    unfold irrD at h5
    rw [w9] at h5
    exact of_decide_eq_true (h5 n (wP.2 hnp)) h
   have hal : numL p (restL poly (digL p (d + 1) n ++ [1]) p) ≠ 0 → ∀ i,i < n + 1 → numL p (restL poly (digL p (d + 1) i ++ [1]) p) ≠ 0:=fun h i hi=>by
    by_cases h5 : i = n
    ·rw [h5];exact h
    ·exact hall i (by omega)
   generalize hD : digL p (d + 1) n = D at *
   have htl : (D.map I).take (d + 1) = D.map I:=qW (by simp [hDl])
   have hBo : OkD p (D ++ [1]):=fun z hz=>by
    rcases xA.1 hz with h|h
    ·exact hDo z h
    ·rw [xE.1 h];omega
   have hBl : (D ++ [1]).length = d + 2:=by simp [hDl]
   repeat (first|(with_reducible first|refine SW.seq ?_|refine q8 ?_|refine SW.rowC ?_|refine SW.skip ?_|refine SW.exit ?_|intro _|refine And.intro (by omega) ?_)|simp (disch:=(first|omega|(simp only [go_sem];try omega))) only [go_sem,Nat.reduceAdd,Nat.reduceEqDiff,Nat.reduceLeDiff,reduceIte,w64_id,cast_succ,htl])
   have hfb:=froz_rowI (H:=H' ++ [⟨ver + 1,2,1,(D ++ [1]).map I⟩,(⟨0,2,1,[I 1]⟩ : Blk)]) (b:=0) (r:=H'.length) (ver:=ver + 1) (ty:=2) (xs:=D ++ [1]) (Nat.zero_le _) (by simp)
   rw [hBl] at hfb
   have hrst:=restL_ok (p:=(p : Int)) (a:=poly) (by omega) (by omega) hBo hx
   refine ACalls.fn ((l03Rest_new p poly (D ++ [1]) (by omega) hp hx hBo (by omega) (by omega) (by omega)).lendf (.cons (.old _ (by rw [Bel_ilS];trivial)) (.cons hfb (.cons (froz_I' _) .nil)))) ?_
   generalize hRs : restL poly (D ++ [1]) p = Rs at *
   have hnum:=l03Number_fn p Rs (by omega) hp hrst.1 (by omega)
   repeat (first|(with_reducible first|refine SW.seq ?_|refine q8 ?_|refine SW.rowC ?_|refine SW.skip ?_|refine SW.exit ?_|refine PFn.use (hnum) ?_|refine PFn.useq (hnum) ?_|intro _|refine And.intro (by omega) ?_)|simp (disch:=(first|omega|(simp only [go_sem];try omega))) only [go_sem,Nat.reduceAdd,Nat.reduceEqDiff,Nat.reduceLeDiff,reduceIte,w64_id,cast_succ])
   by_cases hz : numL (p : Int) Rs = 0
   ·rw [decide_eq_true hz]
    refine wM rfl ?_
    repeat (first|(with_reducible first|refine SW.seq ?_|refine q8 ?_|refine SW.rowC ?_|refine SW.skip ?_|refine SW.exit ?_|intro _|refine And.intro (by omega) ?_)|simp (disch:=(first|omega|(simp only [go_sem];try omega))) only [go_sem,Nat.reduceAdd,Nat.reduceEqDiff,Nat.reduceLeDiff,reduceIte,w64_id,cast_succ])
    rw [hno (han hz)]
    refine SW.ret ?_;(try simp only [go_sem]);(first|refine qP ?_|refine qS ?_|refine qQ ?_);(try simp (disch:=(first|omega|(simp only [go_sem];try omega))) only [go_sem,Nat.reduceAdd,Nat.reduceEqDiff,Nat.reduceLeDiff,reduceIte,w64_id,cast_succ]);(first|(with_reducible refine GR.drop ?_ ?_;(simp only [go_sem,and_self,and_true,true_and,implies_true,qI,qO]))|refine GR.of ?_);refine ⟨?_,rfl⟩;(try with_reducible rfl)
   ·rw [decide_eq_false hz]
    refine wE rfl ?_
    repeat (first|(with_reducible first|refine SW.seq ?_|refine q8 ?_|refine SW.rowC ?_|refine SW.skip ?_|refine SW.exit ?_|intro _|refine And.intro (by omega) ?_)|simp (disch:=(first|omega|(simp only [go_sem];try omega))) only [go_sem,Nat.reduceAdd,Nat.reduceEqDiff,Nat.reduceLeDiff,reduceIte,w64_id,cast_succ])
    refine y4 0 (p ^ (d + 1) - (n + 1)) hB (by omega) (by omega) (by simp) ?_ ?_ ⟨n + 1,by omega,rfl,by simp [go_sem],by simp,fun i hi=>hal hz i hi⟩
    ·(simp only [go_sem,Nat.reduceAdd,Nat.reduceEqDiff,reduceIte,go_sem,and_self,and_true,true_and,implies_true,qI,qO,and_true,true_and];try omega)
    ·(simp only [go_sem,Nat.reduceAdd,Nat.reduceEqDiff,reduceIte,go_sem,and_self,and_true,true_and,implies_true,qI,qO,and_true,true_and];try omega)
  ·have hnp : n = p ^ (d + 1):=by omega
   subst hnp
   repeat (first|(with_reducible first|refine SW.seq ?_|refine q8 ?_|refine SW.rowC ?_|refine SW.skip ?_|refine SW.exit ?_|intro _|refine And.intro (by omega) ?_)|simp (disch:=(first|omega|(simp only [go_sem];try omega))) only [go_sem,Nat.reduceAdd,Nat.reduceEqDiff,Nat.reduceLeDiff,reduceIte,w64_id,cast_succ])
   refine wB ((poly.length - 1) / 2 - (d + 1)) (by omega) ⟨d + 1,by omega,rfl,by simp [go_sem],rfl,fun d' hd'=>?_⟩
   by_cases h5 : d' = d
   ·subst h5
    unfold irrD
    rw [w9]
    exact fun i hi=>decide_eq_true (hall i (wP.1 hi))
   ·exact hda d' (by omega)
 ·have hr : irrG poly p = true:=by
   unfold irrG
   rw [w9]
   exact fun d' hd'=>hda d' (by have:=wP.1 hd';omega)
  rw [hr]
  repeat (first|(with_reducible first|refine SW.seq ?_|refine q8 ?_|refine SW.rowC ?_|refine SW.skip ?_|refine SW.exit ?_|intro _|refine And.intro (by omega) ?_)|simp (disch:=(first|omega|(simp only [go_sem];try omega))) only [go_sem,Nat.reduceAdd,Nat.reduceEqDiff,Nat.reduceLeDiff,reduceIte,w64_id,cast_succ])
  refine SW.ret ?_;(try simp only [go_sem]);(first|refine qP ?_|refine qS ?_|refine qQ ?_);(try simp (disch:=(first|omega|(simp only [go_sem];try omega))) only [go_sem,Nat.reduceAdd,Nat.reduceEqDiff,Nat.reduceLeDiff,reduceIte,w64_id,cast_succ]);(first|(with_reducible refine GR.drop ?_ ?_;(simp only [go_sem,and_self,and_true,true_and,implies_true,qI,qO]))|refine GR.of ?_);refine ⟨?_,rfl⟩;(try with_reducible rfl)
end Go.Proofs.YtclfmfabcnbbpaaGreat
namespace Go.Proofs.YtclfmfabcnbbpaaGreat
open Go.Av
abbrev f_spec_l03Ok : Nat:=55
def c_spec_l03Ok : SC :=
 .seq (.reg [⟨s' 2,.mv (.const (.bool false)),n'⟩] [0]) (.seq (.seq (.reg [⟨s' 7,.mv (t' 0),n'⟩,⟨s' 8,.nilc (t' 7),n'⟩,⟨s' 9,.faddr 0 (t' 8),n'⟩,⟨s' 10,.load 1 false (t' 9),n'⟩,
 ⟨s' 11,.qcall 78 [(t' 10),(.const (.int .i64 2)),(.const (.int .i64 64))],n'⟩,⟨s' 12,.un .not (t' 11),n'⟩,⟨s' 13,.mv (t' 12),n'⟩,⟨s' 14,.mv (t' 0),(some (13,false))⟩,
 ⟨s' 15,.nilc (t' 14),(some (13,false))⟩,⟨s' 16,.faddr 1 (t' 15),(some (13,false))⟩,⟨s' 17,.load 1 false (t' 16),(some (13,false))⟩,
 ⟨s' 18,.qcall 78 [(t' 17),(.const (.int .i64 1)),(.const (.int .i64 6))],(some (13,false))⟩,⟨s' 19,.un .not (t' 18),(some (13,false))⟩,
 ⟨s' 20,.pick (t' 13) (.const (.bool true)) (t' 19),n'⟩,⟨s' 21,.mv (t' 20),n'⟩,⟨s' 22,.mv (t' 0),(some (21,false))⟩,⟨s' 23,.nilc (t' 22),(some (21,false))⟩,
 ⟨s' 24,.faddr 2 (t' 23),(some (21,false))⟩,⟨s' 25,.load 1 false (t' 24),(some (21,false))⟩,⟨s' 26,.qlen (t' 25),(some (21,false))⟩,⟨s' 27,.mv (t' 0),(some (21,false))⟩,
 ⟨s' 28,.nilc (t' 27),(some (21,false))⟩,⟨s' 29,.faddr 1 (t' 28),(some (21,false))⟩,⟨s' 30,.load 1 false (t' 29),(some (21,false))⟩,
 ⟨s' 31,.bin .add (t' 30) (.const (.int .i64 1)),(some (21,false))⟩,⟨s' 32,.bin .neq (t' 26) (t' 31),(some (21,false))⟩,⟨s' 33,.pick (t' 21) (.const (.bool true)) (t' 32),n'⟩,
 ⟨s' 34,.mv (t' 33),n'⟩,⟨s' 35,.mv (t' 0),(some (34,false))⟩,⟨s' 36,.nilc (t' 35),(some (34,false))⟩,⟨s' 37,.faddr 2 (t' 36),(some (34,false))⟩,
 ⟨s' 38,.load 1 false (t' 37),(some (34,false))⟩,⟨s' 39,.mv (t' 0),(some (34,false))⟩,⟨s' 40,.nilc (t' 39),(some (34,false))⟩,⟨s' 41,.faddr 1 (t' 40),(some (34,false))⟩,
 ⟨s' 42,.load 1 false (t' 41),(some (34,false))⟩,⟨s' 43,.iaddr 1 (t' 38) (t' 42),(some (34,false))⟩,⟨s' 44,.load 1 false (t' 43),(some (34,false))⟩,
 ⟨s' 45,.bin .neq (t' 44) (.const (.int .i64 1)),(some (34,false))⟩,⟨s' 46,.pick (t' 34) (.const (.bool true)) (t' 45),n'⟩] [0,46]) (.cond (t' 46) (.seq (.reg [
 ⟨s' 2,.mv (.const (.bool false)),n'⟩] [2]) (.ret)) (.skip))) (.seq (.reg [⟨s' 47,.mv (t' 0),n'⟩,⟨s' 48,.nilc (t' 47),n'⟩,⟨s' 49,.faddr 0 (t' 48),n'⟩,
 ⟨s' 50,.load 1 false (t' 49),n'⟩,⟨s' 51,.mv (t' 0),n'⟩,⟨s' 52,.nilc (t' 51),n'⟩,⟨s' 53,.faddr 1 (t' 52),n'⟩,⟨s' 54,.load 1 false (t' 53),n'⟩,
 ⟨s' 55,.qcall 57 [(t' 50),(t' 54)],n'⟩,⟨s' 3,.mv (t' 55),n'⟩] [0,3]) (.seq (.reg [⟨s' 57,.mv (t' 3),n'⟩,⟨s' 58,.call 79 [(t' 57)],n'⟩,⟨s' 56,.mv (t' 58),n'⟩,
 ⟨s' 59,.ext (t' 56) 0,n'⟩,⟨s' 60,.ext (t' 56) 1,n'⟩,⟨s' 4,.mv (t' 59),n'⟩,⟨s' 5,.mv (t' 60),n'⟩] [0,4]) (.seq (.seq (.reg [⟨s' 61,.mv (t' 4),n'⟩,⟨s' 62,.mv (t' 0),n'⟩,
 ⟨s' 63,.nilc (t' 62),n'⟩,⟨s' 64,.faddr 0 (t' 63),n'⟩,⟨s' 65,.load 1 false (t' 64),n'⟩,⟨s' 66,.bin .neq (t' 61) (t' 65),n'⟩] [0,4,66]) (.cond (t' 66) (.seq (.reg [
 ⟨s' 2,.mv (.const (.bool false)),n'⟩] [2]) (.ret)) (.skip))) (.seq (.seq (.reg [⟨s' 6,.mv (.const (.int .i64 0)),n'⟩] [0,4,6]) (.block 0 (.loop [0,4,6] (.seq (.seq (.reg [
 ⟨s' 67,.mv (t' 6),n'⟩,⟨s' 68,.mv (t' 0),n'⟩,⟨s' 69,.nilc (t' 68),n'⟩,⟨s' 70,.faddr 2 (t' 69),n'⟩,⟨s' 71,.load 1 false (t' 70),n'⟩,⟨s' 72,.len (t' 71),n'⟩,
 ⟨s' 73,.bin .lss (t' 67) (t' 72),n'⟩] [0,4,6,73]) (.cond (t' 73) (.skip) (.exit 0))) (.seq (.block 1 (.seq (.reg [⟨s' 76,.mv (t' 0),n'⟩,⟨s' 77,.nilc (t' 76),n'⟩,
 ⟨s' 78,.faddr 2 (t' 77),n'⟩,⟨s' 79,.load 1 false (t' 78),n'⟩,⟨s' 80,.mv (t' 6),n'⟩,⟨s' 81,.iaddr 1 (t' 79) (t' 80),n'⟩,⟨s' 82,.load 1 false (t' 81),n'⟩,⟨s' 83,.mv (t' 4),n'⟩,
 ⟨s' 84,.bin .sub (t' 83) (.const (.int .i64 1)),n'⟩,⟨s' 85,.call 78 [(t' 82),(.const (.int .i64 0)),(t' 84)],n'⟩,⟨s' 86,.un .not (t' 85),n'⟩] [0,4,6,86]) (.cond (t' 86)
 (.seq (.reg [⟨s' 2,.mv (.const (.bool false)),n'⟩] [2]) (.ret)) (.skip)))) (.reg [⟨s' 74,.mv (t' 6),n'⟩,⟨s' 75,.bin .add (t' 74) (.const (.int .i64 1)),n'⟩,
 ⟨s' 6,.mv (t' 75),n'⟩] [0,4,6])))))) (.seq (.reg [⟨s' 87,.mv (t' 0),n'⟩,⟨s' 88,.nilc (t' 87),n'⟩,⟨s' 89,.faddr 2 (t' 88),n'⟩,⟨s' 90,.load 1 false (t' 89),n'⟩,
 ⟨s' 91,.mv (t' 4),n'⟩,⟨s' 92,.call 80 [(t' 90),(t' 91)],n'⟩,⟨s' 2,.mv (t' 92),n'⟩] [2]) (.ret)))))))
theorem s_spec_l03Ok : stripF Tryz.prog 55 [[0],[0,46],[2],[0,3],[0,4],[0,4,66],[2],[0,4,6],[0,4,6],[0,4,6,73],[0,4,6,86],[2],[0,4,6],[2]] = some (c_spec_l03Ok,[.tmp 2],93):=by kernel_rfl
abbrev f_spec_l03Split : Nat:=79
def c_spec_l03Split : SC :=
 .seq (.reg [⟨s' 2,.mv (.const (.int .i64 0)),n'⟩,⟨s' 3,.mv (.const (.int .i64 0)),n'⟩] [0]) (.seq (.seq (.reg [⟨s' 7,.mv (t' 0),n'⟩,
 ⟨s' 8,.call 78 [(t' 7),(.const (.int .i64 2)),(.const (.int .i64 64))],n'⟩,⟨s' 9,.un .not (t' 8),n'⟩] [0,9]) (.cond (t' 9) (.seq (.reg [⟨s' 2,.mv (.const (.int .i64 0)),n'⟩,
 ⟨s' 3,.mv (.const (.int .i64 0)),n'⟩] [2,3]) (.ret)) (.skip))) (.seq (.reg [⟨s' 4,.mv (.const (.int .i64 2)),n'⟩] [0,4]) (.seq (.block 0 (.loop [0,4] (.seq (.seq (.reg [
 ⟨s' 10,.mv (t' 0),n'⟩,⟨s' 11,.mv (t' 4),n'⟩,⟨s' 12,.bin .rem (t' 10) (t' 11),n'⟩,⟨s' 13,.bin .neq (t' 12) (.const (.int .i64 0)),n'⟩] [0,4,13]) (.cond (t' 13) (.skip) (.exit 0)))
 (.block 1 (.reg [⟨s' 14,.mv (t' 4),n'⟩,⟨s' 15,.bin .add (t' 14) (.const (.int .i64 1)),n'⟩,⟨s' 4,.mv (t' 15),n'⟩] [0,4]))))) (.seq (.reg [
 ⟨s' 5,.mv (.const (.int .i64 0)),n'⟩] [0,4,5]) (.seq (.seq (.reg [⟨s' 16,.mv (t' 0),n'⟩,⟨s' 6,.mv (t' 16),n'⟩] [4,5,6]) (.block 2 (.loop [4,5,6] (.seq (.seq (.reg [
 ⟨s' 17,.mv (t' 6),n'⟩,⟨s' 18,.bin .gtr (t' 17) (.const (.int .i64 1)),n'⟩] [4,5,6,18]) (.cond (t' 18) (.skip) (.exit 2))) (.seq (.block 3 (.seq (.seq (.reg [
 ⟨s' 22,.mv (t' 6),n'⟩,⟨s' 23,.mv (t' 4),n'⟩,⟨s' 24,.bin .rem (t' 22) (t' 23),n'⟩,⟨s' 25,.bin .neq (t' 24) (.const (.int .i64 0)),n'⟩] [4,5,6,25]) (.cond (t' 25) (.seq (.reg [
 ⟨s' 2,.mv (.const (.int .i64 0)),n'⟩,⟨s' 3,.mv (.const (.int .i64 0)),n'⟩] [2,3]) (.ret)) (.skip))) (.reg [⟨s' 26,.mv (t' 5),n'⟩,
 ⟨s' 27,.bin .add (t' 26) (.const (.int .i64 1)),n'⟩,⟨s' 5,.mv (t' 27),n'⟩] [4,5,6]))) (.reg [⟨s' 19,.mv (t' 6),n'⟩,⟨s' 20,.mv (t' 4),n'⟩,⟨s' 21,.bin .quo (t' 19) (t' 20),n'⟩,
 ⟨s' 6,.mv (t' 21),n'⟩] [4,5,6])))))) (.seq (.reg [⟨s' 28,.mv (t' 4),n'⟩,⟨s' 29,.mv (t' 5),n'⟩,⟨s' 2,.mv (t' 28),n'⟩,⟨s' 3,.mv (t' 29),n'⟩] [2,3]) (.ret)))))))
theorem s_spec_l03Split : stripF Tryz.prog 79 [[0],[0,9],[2,3],[0,4],[0,4],[0,4,13],[0,4],[0,4,5],[4,5,6],[4,5,6],[4,5,6,18],[4,5,6,25],[2,3],[4,5,6],[4,5,6],[2,3]] = some (c_spec_l03Split,[.tmp 2,.tmp 3],30):=by kernel_rfl
def pwF : Nat → Nat → Nat → Bool
 | 0,_,_=>true
 | f + 1,n,p=>if n ≤ 1 then true else if n % p = 0 then pwF f (n / p) p else false
def mdv (q : Nat) : Nat:=((yJ 2 q).find? fun p=>q % p == 0).getD 0
def splV (q : Nat) : Nat:=if 2 ≤ q ∧ q ≤ 64 then (if pwF q q (mdv q) = true then mdv q else 0) else 0
theorem mdv_is {q p : Nat} (h2 : 2 ≤ p) (hq : p ≤ q) (hd : q % p = 0) (hm : ∀ p',2 ≤ p' → p' < p → q % p' ≠ 0) : mdv q = p:=by
 unfold mdv
 have e : yJ 2 q = yJ 2 (p - 2) ++ p :: yJ (p + 1) (q - (p - 1)):=by
  have h1:=List.range'_append_1 (s:=2) (m:=p - 2) (n:=(q - (p - 1)) + 1)
  rw [show 2 + (p - 2) = p by omega,show p - 2 + (q - (p - 1) + 1) = q by omega,List.range'_succ] at h1
  exact h1.symm
 rw [e,List.find?_append,List.find?_eq_none.2 (fun x hx=>by
  have:=List.mem_range'_1.1 hx
  have h3:=hm x this.1 (by omega)
  simpa using h3)]
 rw [Option.none_or,List.find?_cons_of_pos (by simpa using hd)]
 rfl
theorem l03Split_g (q : Nat) (hq : q ≤ 68719476736) (H : List Blk) : ACalls Tryz.prog f_spec_l03Split [I q] H (fun r H'=>∃ k : Int,r = .tup [I (splV q),I k] ∧ H' = H):=by
 have w:=l00In_fn (q : Int) 2 64
 by_cases h : 2 ≤ q ∧ q ≤ 64
 rotate_left
 ·have hs : splV q = 0:=by unfold splV;rw [if_neg h]
  have hb : (decide (2 ≤ (q : Int)) && decide ((q : Int) ≤ 64)) = false:=by
   rw [Bool.eq_false_iff,Ne,Bool.and_eq_true,decide_eq_true_eq,decide_eq_true_eq];omega
  rw [hb] at w
  rw [hs]
  refine ACalls.introB s_spec_l03Split (by simp) ?_;intro hB hA;unfold c_spec_l03Split;simp (disch:=(first|omega|(simp only [go_sem];try omega))) only [go_sem,Nat.reduceAdd,Nat.reduceEqDiff,Nat.reduceLeDiff,reduceIte,w64_id,cast_succ]
  repeat (first|(with_reducible first|refine SW.seq ?_|refine q8 ?_|refine SW.rowC ?_|refine SW.skip ?_|refine SW.exit ?_|refine PFn.use (w) ?_|refine PFn.useq (w) ?_|intro _|refine And.intro (by omega) ?_)|simp (disch:=(first|omega|(simp only [go_sem];try omega))) only [go_sem,Nat.reduceAdd,Nat.reduceEqDiff,Nat.reduceLeDiff,reduceIte,w64_id,cast_succ])
  refine wM rfl ?_
  repeat (first|(with_reducible first|refine SW.seq ?_|refine q8 ?_|refine SW.rowC ?_|refine SW.skip ?_|refine SW.exit ?_|intro _|refine And.intro (by omega) ?_)|simp (disch:=(first|omega|(simp only [go_sem];try omega))) only [go_sem,Nat.reduceAdd,Nat.reduceEqDiff,Nat.reduceLeDiff,reduceIte,w64_id,cast_succ])
  refine SW.ret ?_;(try simp only [go_sem]);(first|refine qP ?_|refine qS ?_|refine qQ ?_);(try simp (disch:=(first|omega|(simp only [go_sem];try omega))) only [go_sem,Nat.reduceAdd,Nat.reduceEqDiff,Nat.reduceLeDiff,reduceIte,w64_id,cast_succ])
  exact GR.of ⟨0,rfl,rfl⟩
 have hb : (decide (2 ≤ (q : Int)) && decide ((q : Int) ≤ 64)) = true:=by
  rw [Bool.and_eq_true,decide_eq_true_eq,decide_eq_true_eq];omega
 rw [hb] at w
 refine ACalls.introB s_spec_l03Split (by simp) ?_;intro hB hA;unfold c_spec_l03Split;simp (disch:=(first|omega|(simp only [go_sem];try omega))) only [go_sem,Nat.reduceAdd,Nat.reduceEqDiff,Nat.reduceLeDiff,reduceIte,w64_id,cast_succ]
 repeat (first|(with_reducible first|refine SW.seq ?_|refine q8 ?_|refine SW.rowC ?_|refine SW.skip ?_|refine SW.exit ?_|refine PFn.use (w) ?_|refine PFn.useq (w) ?_|intro _|refine And.intro (by omega) ?_)|simp (disch:=(first|omega|(simp only [go_sem];try omega))) only [go_sem,Nat.reduceAdd,Nat.reduceEqDiff,Nat.reduceLeDiff,reduceIte,w64_id,cast_succ])
 refine wE rfl ?_
 repeat (first|(with_reducible first|refine SW.seq ?_|refine q8 ?_|refine SW.rowC ?_|refine SW.skip ?_|refine SW.exit ?_|intro _|refine And.intro (by omega) ?_)|simp (disch:=(first|omega|(simp only [go_sem];try omega))) only [go_sem,Nat.reduceAdd,Nat.reduceEqDiff,Nat.reduceLeDiff,reduceIte,w64_id,cast_succ])
 refine wJ (fun E0 H0 m E' H'=>∃ p : Nat,2 ≤ p ∧ p ≤ q ∧ m = q - p ∧ E' = aput E0 4 (I p) ∧ H' = H0 ∧ ∀ p',2 ≤ p' → p' < p → q % p' ≠ 0) (q - 2) ⟨2,by omega,by omega,rfl,rfl,rfl,fun p' h1 h2=>by omega⟩ ?_
 rintro m E' H' ⟨p,hp2,hpq,rfl,rfl,rfl,hno⟩
 have hp0 : ¬ (p : Int) = 0:=by omega
 simp (disch:=(first|omega|(simp only [go_sem];try omega))) only [go_sem,Nat.reduceAdd,Nat.reduceEqDiff,Nat.reduceLeDiff,reduceIte,w64_id,cast_succ]
 by_cases hz : q % p = 0
 ·have d1 : decide (((q % p : Nat) : Int) = 0) = true:=decide_eq_true (by omega)
  repeat (first|(with_reducible first|refine SW.seq ?_|refine q8 ?_|refine SW.rowC ?_|refine SW.skip ?_|refine SW.exit ?_|intro _|refine And.intro (by omega) ?_)|simp (disch:=(first|omega|(simp only [go_sem];try omega))) only [go_sem,Nat.reduceAdd,Nat.reduceEqDiff,Nat.reduceLeDiff,reduceIte,w64_id,cast_succ,tmodN,hp0,d1])
  refine wE rfl ?_
  have hmd:=mdv_is hp2 hpq hz hno
  repeat (first|(with_reducible first|refine SW.seq ?_|refine q8 ?_|refine SW.rowC ?_|refine SW.skip ?_|refine SW.exit ?_|intro _|refine And.intro (by omega) ?_)|simp (disch:=(first|omega|(simp only [go_sem];try omega))) only [go_sem,Nat.reduceAdd,Nat.reduceEqDiff,Nat.reduceLeDiff,reduceIte,w64_id,cast_succ])
  refine wJ (fun E0 H0 m E' H'=>∃ (n k : Nat),1 ≤ n ∧ n ≤ m ∧ m ≤ q ∧ k + m ≤ q ∧ pwF m n p = pwF q q p ∧ E' = aput (aput E0 5 (I k)) 6 (I n) ∧ H' = H0) q ⟨q,0,by omega,by omega,by omega,by omega,rfl,by simp [go_sem],rfl⟩ ?_
  rintro m E' H' ⟨n,k,hn1,hnm,hmq,hkm,hpw,rfl,rfl⟩
  simp (disch:=(first|omega|(simp only [go_sem];try omega))) only [go_sem,Nat.reduceAdd,Nat.reduceEqDiff,Nat.reduceLeDiff,reduceIte,w64_id,cast_succ]
  repeat (first|(with_reducible first|refine SW.seq ?_|refine q8 ?_|refine SW.rowC ?_|refine SW.skip ?_|refine SW.exit ?_|intro _|refine And.intro (by omega) ?_)|simp (disch:=(first|omega|(simp only [go_sem];try omega))) only [go_sem,Nat.reduceAdd,Nat.reduceEqDiff,Nat.reduceLeDiff,reduceIte,w64_id,cast_succ])
  (first|refine wK rfl (fun h3=>?_) (fun h3=>?_)|refine wL rfl (fun h3=>?_) (fun h3=>?_)|refine wF rfl (fun h3=>?_) (fun h3=>?_)|refine wH rfl (fun h3=>?_) (fun h3=>?_))
  ·obtain ⟨m,rfl⟩ : ∃ m',m = m' + 1:=⟨m - 1,by omega⟩
   rw [pwF,if_neg (by omega)] at hpw
   by_cases hd : n % p = 0
   ·rw [if_pos hd] at hpw
    have d2 : decide (((n % p : Nat) : Int) = 0) = true:=decide_eq_true (by omega)
    have hdiv : n / p < n:=Nat.div_lt_self (by omega) (by omega)
    have hpos : 1 ≤ n / p:=Nat.div_pos (Nat.le_of_dvd (by omega) (Nat.dvd_of_mod_eq_zero hd)) (by omega)
    have hw : w64 ((n / p : Nat) : Int) = ((n / p : Nat) : Int):=w64_id (by omega) (by generalize n / p = x at *;omega)
    repeat (first|(with_reducible first|refine SW.seq ?_|refine q8 ?_|refine SW.rowC ?_|refine SW.skip ?_|refine SW.exit ?_|intro _|refine And.intro (by omega) ?_)|simp (disch:=(first|omega|(simp only [go_sem];try omega))) only [go_sem,Nat.reduceAdd,Nat.reduceEqDiff,Nat.reduceLeDiff,reduceIte,w64_id,cast_succ,tmodN,hp0,d2])
    refine wE rfl ?_
    repeat (first|(with_reducible first|refine SW.seq ?_|refine q8 ?_|refine SW.rowC ?_|refine SW.skip ?_|refine SW.exit ?_|intro _|refine And.intro (by omega) ?_)|simp (disch:=(first|omega|(simp only [go_sem];try omega))) only [go_sem,Nat.reduceAdd,Nat.reduceEqDiff,Nat.reduceLeDiff,reduceIte,w64_id,cast_succ,tdivN,hp0,hw])
    refine wB m (by omega) ⟨n / p,k + 1,hpos,by omega,by omega,by omega,hpw,by simp [go_sem],rfl⟩
   ·rw [if_neg hd] at hpw
    have d2 : decide (((n % p : Nat) : Int) = 0) = false:=decide_eq_false (by omega)
    have hs : splV q = 0:=by unfold splV;rw [if_pos h,hmd,← hpw,if_neg (by simp)]
    rw [hs]
    repeat (first|(with_reducible first|refine SW.seq ?_|refine q8 ?_|refine SW.rowC ?_|refine SW.skip ?_|refine SW.exit ?_|intro _|refine And.intro (by omega) ?_)|simp (disch:=(first|omega|(simp only [go_sem];try omega))) only [go_sem,Nat.reduceAdd,Nat.reduceEqDiff,Nat.reduceLeDiff,reduceIte,w64_id,cast_succ,tmodN,hp0,d2])
    refine wM rfl ?_
    repeat (first|(with_reducible first|refine SW.seq ?_|refine q8 ?_|refine SW.rowC ?_|refine SW.skip ?_|refine SW.exit ?_|intro _|refine And.intro (by omega) ?_)|simp (disch:=(first|omega|(simp only [go_sem];try omega))) only [go_sem,Nat.reduceAdd,Nat.reduceEqDiff,Nat.reduceLeDiff,reduceIte,w64_id,cast_succ])
    refine SW.ret ?_;(try simp only [go_sem]);(first|refine qP ?_|refine qS ?_|refine qQ ?_);(try simp (disch:=(first|omega|(simp only [go_sem];try omega))) only [go_sem,Nat.reduceAdd,Nat.reduceEqDiff,Nat.reduceLeDiff,reduceIte,w64_id,cast_succ])
    exact GR.of ⟨0,rfl,rfl⟩
  ·have hs : splV q = p:=by
    obtain ⟨m,rfl⟩ : ∃ m',m = m' + 1:=⟨m - 1,by omega⟩
    have e : pwF (m + 1) n p = true:=by rw [pwF,if_pos (by omega)]
    unfold splV
    rw [if_pos h,hmd,← hpw,if_pos e]
   rw [hs]
   repeat (first|(with_reducible first|refine SW.seq ?_|refine q8 ?_|refine SW.rowC ?_|refine SW.skip ?_|refine SW.exit ?_|intro _|refine And.intro (by omega) ?_)|simp (disch:=(first|omega|(simp only [go_sem];try omega))) only [go_sem,Nat.reduceAdd,Nat.reduceEqDiff,Nat.reduceLeDiff,reduceIte,w64_id,cast_succ])
   refine SW.ret ?_;(try simp only [go_sem]);(first|refine qP ?_|refine qS ?_|refine qQ ?_);(try simp (disch:=(first|omega|(simp only [go_sem];try omega))) only [go_sem,Nat.reduceAdd,Nat.reduceEqDiff,Nat.reduceLeDiff,reduceIte,w64_id,cast_succ])
   exact GR.of ⟨k,rfl,rfl⟩
 ·have d1 : decide (((q % p : Nat) : Int) = 0) = false:=decide_eq_false (by omega)
  have hlt : p < q:=by
   rcases yH hpq with h|h
   ·exact h
   ·rw [h,Nat.mod_self] at hz;exact absurd rfl hz
  repeat (first|(with_reducible first|refine SW.seq ?_|refine q8 ?_|refine SW.rowC ?_|refine SW.skip ?_|refine SW.exit ?_|intro _|refine And.intro (by omega) ?_)|simp (disch:=(first|omega|(simp only [go_sem];try omega))) only [go_sem,Nat.reduceAdd,Nat.reduceEqDiff,Nat.reduceLeDiff,reduceIte,w64_id,cast_succ,tmodN,hp0,d1])
  refine wM rfl ?_
  repeat (first|(with_reducible first|refine SW.seq ?_|refine q8 ?_|refine SW.rowC ?_|refine SW.skip ?_|refine SW.exit ?_|intro _|refine And.intro (by omega) ?_)|simp (disch:=(first|omega|(simp only [go_sem];try omega))) only [go_sem,Nat.reduceAdd,Nat.reduceEqDiff,Nat.reduceLeDiff,reduceIte,w64_id,cast_succ])
  exact wB (q - (p + 1)) (by omega) ⟨p + 1,by omega,by omega,rfl,by simp [go_sem],rfl,fun p' h1 h2=>by
   by_cases e : p' = p
   ·rw [e];exact hz
   ·exact hno p' h1 (by omega)⟩
def fieldB (p d : Int) (poly : List Int) : Bool :=
 decide (2 ≤ p) && decide (p ≤ 64) && (decide (1 ≤ d) && decide (d ≤ 6)) && decide ((poly.length : Int) = d + 1) && decide (poly.getD d.toNat 0 = 1) && decide ((splV (p.toNat ^ d.toNat) : Int) = p) && (poly.all fun c=>decide (0 ≤ c) && decide (c ≤ p - 1)) && irrG poly p.toNat
theorem l03Ok_g (H : List Blk) (r ty : Nat) (p d : Int) (poly : List Int) (rest : List AV) (hr : H[r]? = some ⟨0,ty,1,I p :: I d :: ilS poly :: rest⟩) (hl : poly.length ≤ 2000000) (hw : -9223372036854775808 ≤ d ∧ d ≤ 9223372036854775807) :
  ACalls Tryz.prog f_spec_l03Ok [.pc r 0 0] H (fun v H'=>v = Bv (fieldB p d poly) ∧ H' = H):=by
 have xa:=fun o=>pc_alive (off:=o) hr
 have xl:=fun o=>pc_ld (off:=o) hr
 have w1:=l00In_fn p 2 64
 have w2:=l00In_fn d 1 6
 unfold fieldB
 cases h1 : (decide (2 ≤ p) && decide (p ≤ 64))
 ·rw [h1] at w1
  refine ACalls.introB s_spec_l03Ok (by simp) ?_;intro hB hA;unfold c_spec_l03Ok;simp (maxSteps:=1000000) (disch:=(first|omega|(simp only [go_sem];try omega))) only [go_sem,Nat.reduceAdd,Nat.reduceEqDiff,Nat.reduceLeDiff,Nat.reduceMul,Nat.reduceLT,reduceIte,Int.reduceToNat,w64_id,cast_succ]
  repeat (first|(with_reducible first|refine SW.seq ?_|refine q8 ?_|refine SW.rowC ?_|refine SW.skip ?_|refine SW.exit ?_|refine PFn.use (w1) ?_|refine PFn.useq (w1) ?_|intro _|refine And.intro (by omega) ?_)|simp (maxSteps:=1000000) (disch:=(first|omega|(simp only [go_sem];try omega))) only [go_sem,Nat.reduceAdd,Nat.reduceEqDiff,Nat.reduceLeDiff,Nat.reduceMul,Nat.reduceLT,reduceIte,Int.reduceToNat,w64_id,cast_succ,xa,xl])
  refine wM rfl ?_
  repeat (first|(with_reducible first|refine SW.seq ?_|refine q8 ?_|refine SW.rowC ?_|refine SW.skip ?_|refine SW.exit ?_|intro _|refine And.intro (by omega) ?_)|simp (maxSteps:=1000000) (disch:=(first|omega|(simp only [go_sem];try omega))) only [go_sem,Nat.reduceAdd,Nat.reduceEqDiff,Nat.reduceLeDiff,Nat.reduceMul,Nat.reduceLT,reduceIte,Int.reduceToNat,w64_id,cast_succ])
  refine SW.ret ?_;(try simp only [go_sem]);(first|refine qP ?_|refine qS ?_|refine qQ ?_);(try simp (maxSteps:=1000000) (disch:=(first|omega|(simp only [go_sem];try omega))) only [go_sem,Nat.reduceAdd,Nat.reduceEqDiff,Nat.reduceLeDiff,Nat.reduceMul,Nat.reduceLT,reduceIte,Int.reduceToNat,w64_id,cast_succ]);(first|(with_reducible refine GR.drop ?_ ?_;(simp only [go_sem,and_self,and_true,true_and,implies_true,qI,qO]))|refine GR.of ?_);refine ⟨?_,rfl⟩;(try with_reducible rfl)
 cases h2 : (decide (1 ≤ d) && decide (d ≤ 6))
 ·rw [h1] at w1
  rw [h2] at w2
  refine ACalls.introB s_spec_l03Ok (by simp) ?_;intro hB hA;unfold c_spec_l03Ok;simp (maxSteps:=1000000) (disch:=(first|omega|(simp only [go_sem];try omega))) only [go_sem,Nat.reduceAdd,Nat.reduceEqDiff,Nat.reduceLeDiff,Nat.reduceMul,Nat.reduceLT,reduceIte,Int.reduceToNat,w64_id,cast_succ]
  repeat (first|(with_reducible first|refine SW.seq ?_|refine q8 ?_|refine SW.rowC ?_|refine SW.skip ?_|refine SW.exit ?_|refine PFn.use (w1) ?_|refine PFn.useq (w1) ?_|refine PFn.use (w2) ?_|refine PFn.useq (w2) ?_|intro _|refine And.intro (by omega) ?_)|simp (maxSteps:=1000000) (disch:=(first|omega|(simp only [go_sem];try omega))) only [go_sem,Nat.reduceAdd,Nat.reduceEqDiff,Nat.reduceLeDiff,Nat.reduceMul,Nat.reduceLT,reduceIte,Int.reduceToNat,w64_id,cast_succ,xa,xl])
  refine wM rfl ?_
  repeat (first|(with_reducible first|refine SW.seq ?_|refine q8 ?_|refine SW.rowC ?_|refine SW.skip ?_|refine SW.exit ?_|intro _|refine And.intro (by omega) ?_)|simp (maxSteps:=1000000) (disch:=(first|omega|(simp only [go_sem];try omega))) only [go_sem,Nat.reduceAdd,Nat.reduceEqDiff,Nat.reduceLeDiff,Nat.reduceMul,Nat.reduceLT,reduceIte,Int.reduceToNat,w64_id,cast_succ])
  refine SW.ret ?_;(try simp only [go_sem]);(first|refine qP ?_|refine qS ?_|refine qQ ?_);(try simp (maxSteps:=1000000) (disch:=(first|omega|(simp only [go_sem];try omega))) only [go_sem,Nat.reduceAdd,Nat.reduceEqDiff,Nat.reduceLeDiff,Nat.reduceMul,Nat.reduceLT,reduceIte,Int.reduceToNat,w64_id,cast_succ]);(first|(with_reducible refine GR.drop ?_ ?_;(simp only [go_sem,and_self,and_true,true_and,implies_true,qI,qO]))|refine GR.of ?_);refine ⟨?_,rfl⟩;(try with_reducible rfl)
 rw [h1] at w1
 rw [h2] at w2
 simp only [Bool.and_eq_true,decide_eq_true_eq] at h1 h2
 obtain ⟨p,rfl⟩:=wC (show 0 ≤ p by omega)
 obtain ⟨d,rfl⟩:=wC (show 0 ≤ d by omega)
 simp only [wA]
 have hwd : w64 ((d : Int) + 1) = (d : Int) + 1:=w64_id (by omega) (by omega)
 cases h3 : decide ((poly.length : Int) = (d : Int) + 1)
 ·have e3 : decide ((poly.length : Int) = ((d + 1 : Nat) : Int)) = false:=by rw [← h3];rfl
  refine ACalls.introB s_spec_l03Ok (by simp) ?_;intro hB hA;unfold c_spec_l03Ok;simp (maxSteps:=1000000) (disch:=(first|omega|(simp only [go_sem];try omega))) only [go_sem,Nat.reduceAdd,Nat.reduceEqDiff,Nat.reduceLeDiff,Nat.reduceMul,Nat.reduceLT,reduceIte,Int.reduceToNat,w64_id,cast_succ]
  repeat (first|(with_reducible first|refine SW.seq ?_|refine q8 ?_|refine SW.rowC ?_|refine SW.skip ?_|refine SW.exit ?_|refine PFn.use (w1) ?_|refine PFn.useq (w1) ?_|refine PFn.use (w2) ?_|refine PFn.useq (w2) ?_|intro _|refine And.intro (by omega) ?_)|simp (maxSteps:=1000000) (disch:=(first|omega|(simp only [go_sem];try omega))) only [go_sem,Nat.reduceAdd,Nat.reduceEqDiff,Nat.reduceLeDiff,Nat.reduceMul,Nat.reduceLT,reduceIte,Int.reduceToNat,w64_id,cast_succ,xa,xl,hwd,h3,e3])
  refine wM rfl ?_
  repeat (first|(with_reducible first|refine SW.seq ?_|refine q8 ?_|refine SW.rowC ?_|refine SW.skip ?_|refine SW.exit ?_|intro _|refine And.intro (by omega) ?_)|simp (maxSteps:=1000000) (disch:=(first|omega|(simp only [go_sem];try omega))) only [go_sem,Nat.reduceAdd,Nat.reduceEqDiff,Nat.reduceLeDiff,Nat.reduceMul,Nat.reduceLT,reduceIte,Int.reduceToNat,w64_id,cast_succ])
  refine SW.ret ?_;(try simp only [go_sem]);(first|refine qP ?_|refine qS ?_|refine qQ ?_);(try simp (maxSteps:=1000000) (disch:=(first|omega|(simp only [go_sem];try omega))) only [go_sem,Nat.reduceAdd,Nat.reduceEqDiff,Nat.reduceLeDiff,Nat.reduceMul,Nat.reduceLT,reduceIte,Int.reduceToNat,w64_id,cast_succ]);(first|(with_reducible refine GR.drop ?_ ?_;(simp only [go_sem,and_self,and_true,true_and,implies_true,qI,qO]))|refine GR.of ?_);refine ⟨?_,rfl⟩;(try with_reducible rfl)
 have e3 : decide ((poly.length : Int) = ((d + 1 : Nat) : Int)) = true:=by rw [← h3];rfl
 have hlen : poly.length = d + 1:=by have:=of_decide_eq_true h3;omega
 cases h4 : decide (poly.getD d 0 = 1)
 ·refine ACalls.introB s_spec_l03Ok (by simp) ?_;intro hB hA;unfold c_spec_l03Ok;simp (maxSteps:=1000000) (disch:=(first|omega|(simp only [go_sem];try omega))) only [go_sem,Nat.reduceAdd,Nat.reduceEqDiff,Nat.reduceLeDiff,Nat.reduceMul,Nat.reduceLT,reduceIte,Int.reduceToNat,w64_id,cast_succ]
  repeat (first|(with_reducible first|refine SW.seq ?_|refine q8 ?_|refine SW.rowC ?_|refine SW.skip ?_|refine SW.exit ?_|refine PFn.use (w1) ?_|refine PFn.useq (w1) ?_|refine PFn.use (w2) ?_|refine PFn.useq (w2) ?_|intro _|refine And.intro (by omega) ?_)|simp (maxSteps:=1000000) (disch:=(first|omega|(simp only [go_sem];try omega))) only [go_sem,Nat.reduceAdd,Nat.reduceEqDiff,Nat.reduceLeDiff,Nat.reduceMul,Nat.reduceLT,reduceIte,Int.reduceToNat,w64_id,cast_succ,xa,xl,hwd,h3,e3,h4])
  refine wM rfl ?_
  repeat (first|(with_reducible first|refine SW.seq ?_|refine q8 ?_|refine SW.rowC ?_|refine SW.skip ?_|refine SW.exit ?_|intro _|refine And.intro (by omega) ?_)|simp (maxSteps:=1000000) (disch:=(first|omega|(simp only [go_sem];try omega))) only [go_sem,Nat.reduceAdd,Nat.reduceEqDiff,Nat.reduceLeDiff,Nat.reduceMul,Nat.reduceLT,reduceIte,Int.reduceToNat,w64_id,cast_succ])
  refine SW.ret ?_;(try simp only [go_sem]);(first|refine qP ?_|refine qS ?_|refine qQ ?_);(try simp (maxSteps:=1000000) (disch:=(first|omega|(simp only [go_sem];try omega))) only [go_sem,Nat.reduceAdd,Nat.reduceEqDiff,Nat.reduceLeDiff,Nat.reduceMul,Nat.reduceLT,reduceIte,Int.reduceToNat,w64_id,cast_succ]);(first|(with_reducible refine GR.drop ?_ ?_;(simp only [go_sem,and_self,and_true,true_and,implies_true,qI,qO]))|refine GR.of ?_);refine ⟨?_,rfl⟩;(try with_reducible rfl)
 have hpw:=l03Power_fn p d (by omega) (by omega) (by omega)
 have hq:=pow_le6 (p:=p) (n:=d) (by omega) (by omega)
 have hpd : p ^ d ≤ 68719476736:=hq
 have hsp:=l03Split_g (p ^ d) hq
 have hq64 : (splV (p ^ d) : Int) = p → p ^ d ≤ 64:=fun h=>by
  unfold splV at h
  split at h
  ·rename_i h5;exact h5.2
  ·omega
 obtain ⟨Q,hQ⟩ : ∃ Q,Q = p ^ d:=⟨_,rfl⟩
 simp only [← hQ] at hpw hq hpd hsp hq64 ⊢
 refine ACalls.introB s_spec_l03Ok (by simp) ?_;intro hB hA;unfold c_spec_l03Ok;simp (maxSteps:=1000000) (disch:=(first|omega|(simp only [go_sem];try omega))) only [go_sem,Nat.reduceAdd,Nat.reduceEqDiff,Nat.reduceLeDiff,Nat.reduceMul,Nat.reduceLT,reduceIte,Int.reduceToNat,w64_id,cast_succ]
 repeat (first|(with_reducible first|refine SW.seq ?_|refine q8 ?_|refine SW.rowC ?_|refine SW.skip ?_|refine SW.exit ?_|refine PFn.use (w1) ?_|refine PFn.useq (w1) ?_|refine PFn.use (w2) ?_|refine PFn.useq (w2) ?_|intro _|refine And.intro (by omega) ?_)|simp (maxSteps:=1000000) (disch:=(first|omega|(simp only [go_sem];try omega))) only [go_sem,Nat.reduceAdd,Nat.reduceEqDiff,Nat.reduceLeDiff,Nat.reduceMul,Nat.reduceLT,reduceIte,Int.reduceToNat,w64_id,cast_succ,xa,xl,hwd,h3,e3,h4])
 refine wE rfl ?_
 repeat (first|(with_reducible first|refine SW.seq ?_|refine q8 ?_|refine SW.rowC ?_|refine SW.skip ?_|refine SW.exit ?_|refine PFn.use (hpw) ?_|refine PFn.useq (hpw) ?_|intro _|refine And.intro (by omega) ?_)|simp (maxSteps:=1000000) (disch:=(first|omega|(simp only [go_sem];try omega))) only [go_sem,Nat.reduceAdd,Nat.reduceEqDiff,Nat.reduceLeDiff,Nat.reduceMul,Nat.reduceLT,reduceIte,Int.reduceToNat,w64_id,cast_succ,xa,xl])
 refine (hsp H).mono ?_
 rintro v H ⟨k,rfl,rfl⟩
 cases h5 : decide ((splV Q : Int) = (p : Int))
 ·repeat (first|(with_reducible first|refine SW.seq ?_|refine q8 ?_|refine SW.rowC ?_|refine SW.skip ?_|refine SW.exit ?_|intro _|refine And.intro (by omega) ?_)|simp (maxSteps:=1000000) (disch:=(first|omega|(simp only [go_sem];try omega))) only [go_sem,Nat.reduceAdd,Nat.reduceEqDiff,Nat.reduceLeDiff,Nat.reduceMul,Nat.reduceLT,reduceIte,Int.reduceToNat,w64_id,cast_succ,xa,xl,h5])
  refine wM rfl ?_
  repeat (first|(with_reducible first|refine SW.seq ?_|refine q8 ?_|refine SW.rowC ?_|refine SW.skip ?_|refine SW.exit ?_|intro _|refine And.intro (by omega) ?_)|simp (maxSteps:=1000000) (disch:=(first|omega|(simp only [go_sem];try omega))) only [go_sem,Nat.reduceAdd,Nat.reduceEqDiff,Nat.reduceLeDiff,Nat.reduceMul,Nat.reduceLT,reduceIte,Int.reduceToNat,w64_id,cast_succ])
  refine SW.ret ?_;(try simp only [go_sem]);(first|refine qP ?_|refine qS ?_|refine qQ ?_);(try simp (maxSteps:=1000000) (disch:=(first|omega|(simp only [go_sem];try omega))) only [go_sem,Nat.reduceAdd,Nat.reduceEqDiff,Nat.reduceLeDiff,Nat.reduceMul,Nat.reduceLT,reduceIte,Int.reduceToNat,w64_id,cast_succ]);(first|(with_reducible refine GR.drop ?_ ?_;(simp only [go_sem,and_self,and_true,true_and,implies_true,qI,qO]))|refine GR.of ?_);refine ⟨?_,rfl⟩;(try with_reducible rfl)
 have hq64:=hq64 (of_decide_eq_true h5)
 have hirr:=fun (hx : OkD p poly)=>l03Irreducible_g poly p (by omega) (by omega) hx (by omega) (by rw [show poly.length - 1 = d by omega,← hQ];exact hq64)
 repeat (first|(with_reducible first|refine SW.seq ?_|refine q8 ?_|refine SW.rowC ?_|refine SW.skip ?_|refine SW.exit ?_|intro _|refine And.intro (by omega) ?_)|simp (maxSteps:=1000000) (disch:=(first|omega|(simp only [go_sem];try omega))) only [go_sem,Nat.reduceAdd,Nat.reduceEqDiff,Nat.reduceLeDiff,Nat.reduceMul,Nat.reduceLT,reduceIte,Int.reduceToNat,w64_id,cast_succ,xa,xl,h5])
 refine wE rfl ?_
 repeat (first|(with_reducible first|refine SW.seq ?_|refine q8 ?_|refine SW.rowC ?_|refine SW.skip ?_|refine SW.exit ?_|intro _|refine And.intro (by omega) ?_)|simp (maxSteps:=1000000) (disch:=(first|omega|(simp only [go_sem];try omega))) only [go_sem,Nat.reduceAdd,Nat.reduceEqDiff,Nat.reduceLeDiff,Nat.reduceMul,Nat.reduceLT,reduceIte,Int.reduceToNat,w64_id,cast_succ])
 rw [of_decide_eq_true h5]
 refine wJ (fun E0 H0 m E' H'=>∃ i : Nat,i ≤ poly.length ∧ m = poly.length - i ∧ E' = aput E0 6 (I i) ∧ H' = H0 ∧ ∀ c ∈ poly.take i,0 ≤ c ∧ c ≤ (p : Int) - 1) poly.length ⟨0,by omega,by omega,rfl,rfl,fun c h=>by simp at h⟩ ?_
 rintro m E' H' ⟨i,hi,rfl,rfl,rfl,hall⟩
 simp (maxSteps:=1000000) (disch:=(first|omega|(simp only [go_sem];try omega))) only [go_sem,Nat.reduceAdd,Nat.reduceEqDiff,Nat.reduceLeDiff,Nat.reduceMul,Nat.reduceLT,reduceIte,Int.reduceToNat,w64_id,cast_succ]
 repeat (first|(with_reducible first|refine SW.seq ?_|refine q8 ?_|refine SW.rowC ?_|refine SW.skip ?_|refine SW.exit ?_|intro _|refine And.intro (by omega) ?_)|simp (maxSteps:=1000000) (disch:=(first|omega|(simp only [go_sem];try omega))) only [go_sem,Nat.reduceAdd,Nat.reduceEqDiff,Nat.reduceLeDiff,Nat.reduceMul,Nat.reduceLT,reduceIte,Int.reduceToNat,w64_id,cast_succ,xa,xl])
 (first|refine wK rfl (fun h6=>?_) (fun h6=>?_)|refine wL rfl (fun h6=>?_) (fun h6=>?_)|refine wF rfl (fun h6=>?_) (fun h6=>?_)|refine wH rfl (fun h6=>?_) (fun h6=>?_))
 ·have hil : i < poly.length:=by omega
  have hwp : w64 ((p : Int) - 1) = (p : Int) - 1:=w64_id (by omega) (by omega)
  have w3:=l00In_fn (poly.getD i 0) 0 ((p : Int) - 1)
  have hmem : poly.getD i 0 ∈ poly:=by rw [qE,qB hil];exact wQ _
  cases h7 : (decide (0 ≤ poly.getD i 0) && decide (poly.getD i 0 ≤ (p : Int) - 1))
  ·have hno : (poly.all fun c=>decide (0 ≤ c) && decide (c ≤ (p : Int) - 1)) = false:=by
    rw [Bool.eq_false_iff]
    intro h8
    rw [w9] at h8
    rw [h8 _ hmem] at h7;cases h7
   rw [hno]
   rw [h7] at w3
   repeat (first|(with_reducible first|refine SW.seq ?_|refine q8 ?_|refine SW.rowC ?_|refine SW.skip ?_|refine SW.exit ?_|refine PFn.use (w3) ?_|refine PFn.useq (w3) ?_|intro _|refine And.intro (by omega) ?_)|simp (maxSteps:=1000000) (disch:=(first|omega|(simp only [go_sem];try omega))) only [go_sem,Nat.reduceAdd,Nat.reduceEqDiff,Nat.reduceLeDiff,Nat.reduceMul,Nat.reduceLT,reduceIte,Int.reduceToNat,w64_id,cast_succ,xa,xl,hwp])
   refine wM rfl ?_
   repeat (first|(with_reducible first|refine SW.seq ?_|refine q8 ?_|refine SW.rowC ?_|refine SW.skip ?_|refine SW.exit ?_|intro _|refine And.intro (by omega) ?_)|simp (maxSteps:=1000000) (disch:=(first|omega|(simp only [go_sem];try omega))) only [go_sem,Nat.reduceAdd,Nat.reduceEqDiff,Nat.reduceLeDiff,Nat.reduceMul,Nat.reduceLT,reduceIte,Int.reduceToNat,w64_id,cast_succ])
   refine SW.ret ?_;(try simp only [go_sem]);(first|refine qP ?_|refine qS ?_|refine qQ ?_);(try simp (maxSteps:=1000000) (disch:=(first|omega|(simp only [go_sem];try omega))) only [go_sem,Nat.reduceAdd,Nat.reduceEqDiff,Nat.reduceLeDiff,Nat.reduceMul,Nat.reduceLT,reduceIte,Int.reduceToNat,w64_id,cast_succ]);(first|(with_reducible refine GR.drop ?_ ?_;(simp only [go_sem,and_self,and_true,true_and,implies_true,qI,qO]))|refine GR.of ?_);refine ⟨?_,rfl⟩;(try with_reducible rfl)
  ·rw [h7] at w3
   simp only [Bool.and_eq_true,decide_eq_true_eq] at h7
   repeat (first|(with_reducible first|refine SW.seq ?_|refine q8 ?_|refine SW.rowC ?_|refine SW.skip ?_|refine SW.exit ?_|refine PFn.use (w3) ?_|refine PFn.useq (w3) ?_|intro _|refine And.intro (by omega) ?_)|simp (maxSteps:=1000000) (disch:=(first|omega|(simp only [go_sem];try omega))) only [go_sem,Nat.reduceAdd,Nat.reduceEqDiff,Nat.reduceLeDiff,Nat.reduceMul,Nat.reduceLT,reduceIte,Int.reduceToNat,w64_id,cast_succ,xa,xl,hwp])
   refine wE rfl ?_
   repeat (first|(with_reducible first|refine SW.seq ?_|refine q8 ?_|refine SW.rowC ?_|refine SW.skip ?_|refine SW.exit ?_|intro _|refine And.intro (by omega) ?_)|simp (maxSteps:=1000000) (disch:=(first|omega|(simp only [go_sem];try omega))) only [go_sem,Nat.reduceAdd,Nat.reduceEqDiff,Nat.reduceLeDiff,Nat.reduceMul,Nat.reduceLT,reduceIte,Int.reduceToNat,w64_id,cast_succ])
   refine wB (poly.length - (i + 1)) (by omega) ⟨i + 1,by omega,rfl,by simp [go_sem],rfl,fun c hc=>?_⟩
   rw [xN hil] at hc
   rcases xA.1 hc with h|h
   ·exact hall c h
   ·rw [xE.1 h]
    have e : poly.getD i 0 = poly[i]:=by rw [qE,qB hil];rfl
    rw [← e];exact h7
 ·have hil : i = poly.length:=by omega
  rw [hil,wW] at hall
  have hyes : (poly.all fun c=>decide (0 ≤ c) && decide (c ≤ (p : Int) - 1)) = true:=by
   rw [w9]
   intro c hc
   have:=hall c hc
   rw [Bool.and_eq_true,decide_eq_true_eq,decide_eq_true_eq];exact this
  rw [hyes]
  have hir:=hirr (fun c hc=>by have:=hall c hc;omega)
  repeat (first|(with_reducible first|refine SW.seq ?_|refine q8 ?_|refine SW.rowC ?_|refine SW.skip ?_|refine SW.exit ?_|refine PFn.use (hir) ?_|refine PFn.useq (hir) ?_|intro _|refine And.intro (by omega) ?_)|simp (maxSteps:=1000000) (disch:=(first|omega|(simp only [go_sem];try omega))) only [go_sem,Nat.reduceAdd,Nat.reduceEqDiff,Nat.reduceLeDiff,Nat.reduceMul,Nat.reduceLT,reduceIte,Int.reduceToNat,w64_id,cast_succ,xa,xl])
  refine SW.ret ?_;(try simp only [go_sem]);(first|refine qP ?_|refine qS ?_|refine qQ ?_);(try simp (maxSteps:=1000000) (disch:=(first|omega|(simp only [go_sem];try omega))) only [go_sem,Nat.reduceAdd,Nat.reduceEqDiff,Nat.reduceLeDiff,Nat.reduceMul,Nat.reduceLT,reduceIte,Int.reduceToNat,w64_id,cast_succ]);(first|(with_reducible refine GR.drop ?_ ?_;(simp only [go_sem,and_self,and_true,true_and,implies_true,qI,qO]))|refine GR.of ?_);refine ⟨?_,rfl⟩;(try with_reducible rfl)
end Go.Proofs.YtclfmfabcnbbpaaGreat
namespace Go.Proofs.YtclfmfabcnbbpaaGreat
open Go.Av
abbrev f_spec_l03Size : Nat:=38
def c_spec_l03Size : SC :=
 .seq (.reg [⟨s' 2,.mv (.const (.int .i64 0)),n'⟩] [0]) (.seq (.reg [⟨s' 3,.mv (t' 0),n'⟩,⟨s' 4,.nilc (t' 3),n'⟩,⟨s' 5,.faddr 0 (t' 4),n'⟩,⟨s' 6,.load 1 false (t' 5),n'⟩,
 ⟨s' 7,.mv (t' 0),n'⟩,⟨s' 8,.nilc (t' 7),n'⟩,⟨s' 9,.faddr 1 (t' 8),n'⟩,⟨s' 10,.load 1 false (t' 9),n'⟩,⟨s' 11,.qcall 57 [(t' 6),(t' 10)],n'⟩,⟨s' 2,.mv (t' 11),n'⟩] [2]) (.ret))
theorem s_spec_l03Size : stripF Tryz.prog 38 [[0],[2]] = some (c_spec_l03Size,[.tmp 2],12):=by kernel_rfl
abbrev f_spec_l17Scale : Nat:=60
def c_spec_l17Scale : SC :=
 .seq (.reg [⟨s' 6,.mv (.const (.slice none 0 0)),n'⟩] [0,1,2]) (.seq (.reg [⟨s' 9,.bslice 2 1 0 [] [],n'⟩,⟨s' 7,.mv (t' 9),n'⟩] [0,1,2,7]) (.seq (.seq (.reg [
 ⟨s' 8,.mv (.const (.int .i64 0)),n'⟩] [0,1,2,7,8]) (.block 0 (.loop [0,1,2,7,8] (.seq (.seq (.reg [⟨s' 10,.mv (t' 8),n'⟩,⟨s' 11,.mv (t' 1),n'⟩,⟨s' 12,.len (t' 11),n'⟩,
 ⟨s' 13,.bin .lss (t' 10) (t' 12),n'⟩] [0,1,2,7,8,13]) (.cond (t' 13) (.skip) (.exit 0))) (.seq (.block 1 (.reg [⟨s' 16,.mv (t' 7),n'⟩,⟨s' 17,.mv (t' 0),n'⟩,⟨s' 18,.mv (t' 1),n'⟩,
 ⟨s' 19,.mv (t' 8),n'⟩,⟨s' 20,.iaddr 1 (t' 18) (t' 19),n'⟩,⟨s' 21,.load 1 false (t' 20),n'⟩,⟨s' 22,.mv (t' 2),n'⟩,⟨s' 23,.call 84 [(t' 17),(t' 21),(t' 22)],n'⟩,
 ⟨s' 24,.bslice 2 1 1 [(.int .i64 0)] [(0,(t' 23))],n'⟩,⟨s' 25,.app 2 1 8 (t' 16) (t' 24),n'⟩,⟨s' 7,.mv (t' 25),n'⟩] [0,1,2,7,8])) (.reg [⟨s' 14,.mv (t' 8),n'⟩,
 ⟨s' 15,.bin .add (t' 14) (.const (.int .i64 1)),n'⟩,⟨s' 8,.mv (t' 15),n'⟩] [0,1,2,7,8])))))) (.seq (.reg [⟨s' 26,.mv (t' 7),n'⟩,⟨s' 6,.mv (t' 26),n'⟩] [6]) (.ret))))
theorem s_spec_l17Scale : stripF Tryz.prog 60 [[0,1,2],[0,1,2,7],[0,1,2,7,8],[0,1,2,7,8],[0,1,2,7,8,13],[0,1,2,7,8],[0,1,2,7,8],[6]] = some (c_spec_l17Scale,[.tmp 6],27):=by kernel_rfl
abbrev f_spec_l03Inverse : Nat:=82
def c_spec_l03Inverse : SC :=
 .seq (.reg [⟨s' 4,.mv (.const (.int .i64 0)),n'⟩] [0,1]) (.seq (.reg [⟨s' 5,.mv (.const (.int .i64 1)),n'⟩] [0,1,5]) (.seq (.block 0 (.loop [0,1,5] (.seq (.seq (.reg [
 ⟨s' 6,.mv (t' 0),n'⟩,⟨s' 7,.mv (t' 1),n'⟩,⟨s' 8,.mv (t' 5),n'⟩,⟨s' 9,.call 84 [(t' 6),(t' 7),(t' 8)],n'⟩,⟨s' 10,.bin .neq (t' 9) (.const (.int .i64 1)),n'⟩] [0,1,5,10])
 (.cond (t' 10) (.skip) (.exit 0))) (.block 1 (.reg [⟨s' 11,.mv (t' 5),n'⟩,⟨s' 12,.bin .add (t' 11) (.const (.int .i64 1)),n'⟩,⟨s' 5,.mv (t' 12),n'⟩] [0,1,5]))))) (.seq (.reg [
 ⟨s' 13,.mv (t' 5),n'⟩,⟨s' 4,.mv (t' 13),n'⟩] [4]) (.ret))))
theorem s_spec_l03Inverse : stripF Tryz.prog 82 [[0,1],[0,1,5],[0,1,5],[0,1,5,10],[0,1,5],[4]] = some (c_spec_l03Inverse,[.tmp 4],14):=by kernel_rfl
abbrev f_spec_l17Less : Nat:=83
def c_spec_l17Less : SC :=
 .seq (.reg [⟨s' 8,.mv (.const (.slice none 0 0)),n'⟩] [0,1,2,3]) (.seq (.reg [⟨s' 11,.bslice 2 1 0 [] [],n'⟩,⟨s' 9,.mv (t' 11),n'⟩] [0,1,2,3,9]) (.seq (.seq (.reg [
 ⟨s' 10,.mv (.const (.int .i64 0)),n'⟩] [0,1,2,3,9,10]) (.block 0 (.loop [0,1,2,3,9,10] (.seq (.seq (.reg [⟨s' 12,.mv (t' 10),n'⟩,⟨s' 13,.mv (t' 1),n'⟩,⟨s' 14,.len (t' 13),n'⟩,
 ⟨s' 15,.bin .lss (t' 12) (t' 14),n'⟩] [0,1,2,3,9,10,15]) (.cond (t' 15) (.skip) (.exit 0))) (.seq (.block 1 (.reg [⟨s' 18,.mv (t' 9),n'⟩,⟨s' 19,.mv (t' 0),n'⟩,
 ⟨s' 20,.mv (t' 1),n'⟩,⟨s' 21,.mv (t' 10),n'⟩,⟨s' 22,.iaddr 1 (t' 20) (t' 21),n'⟩,⟨s' 23,.load 1 false (t' 22),n'⟩,⟨s' 24,.mv (t' 0),n'⟩,⟨s' 25,.mv (t' 2),n'⟩,
 ⟨s' 26,.mv (t' 10),n'⟩,⟨s' 27,.iaddr 1 (t' 25) (t' 26),n'⟩,⟨s' 28,.load 1 false (t' 27),n'⟩,⟨s' 29,.mv (t' 3),n'⟩,⟨s' 30,.qcall 84 [(t' 24),(t' 28),(t' 29)],n'⟩,
 ⟨s' 31,.mv (t' 0),n'⟩,⟨s' 32,.nilc (t' 31),n'⟩,⟨s' 33,.faddr 0 (t' 32),n'⟩,⟨s' 34,.load 1 false (t' 33),n'⟩,⟨s' 35,.bin .sub (t' 34) (.const (.int .i64 1)),n'⟩,
 ⟨s' 36,.qcall 85 [(t' 19),(t' 23),(t' 30),(t' 35)],n'⟩,⟨s' 37,.bslice 2 1 1 [(.int .i64 0)] [(0,(t' 36))],n'⟩,⟨s' 38,.app 2 1 8 (t' 18) (t' 37),n'⟩,
 ⟨s' 9,.mv (t' 38),n'⟩] [0,1,2,3,9,10])) (.reg [⟨s' 16,.mv (t' 10),n'⟩,⟨s' 17,.bin .add (t' 16) (.const (.int .i64 1)),n'⟩,⟨s' 10,.mv (t' 17),n'⟩] [0,1,2,3,9,10]))))))
 (.seq (.reg [⟨s' 39,.mv (t' 9),n'⟩,⟨s' 8,.mv (t' 39),n'⟩] [8]) (.ret))))
theorem s_spec_l17Less : stripF Tryz.prog 83 [[0,1,2,3],[0,1,2,3,9],[0,1,2,3,9,10],[0,1,2,3,9,10],[0,1,2,3,9,10,15],[0,1,2,3,9,10],[0,1,2,3,9,10],[8]] = some (c_spec_l17Less,[.tmp 8],40):=by kernel_rfl
theorem l03Size_g (H : List Blk) (r ty P K : Nat) (L : List Int) (rest : List AV) (hr : H[r]? = some (fdC ty P K L rest)) (hpb : 2 ≤ P ∧ P ≤ 64) (hkb : 1 ≤ K ∧ K ≤ 6) :
  ACalls Tryz.prog f_spec_l03Size [.pc r 0 0] H (fun v H'=>v = I (P ^ K : Nat) ∧ H' = H):=by
 have xa:=fun o=>pc_alive (off:=o) hr
 have xl:=fun o=>pc_ld (off:=o) hr
 have hpw:=l03Power_fn P K (by omega) (by omega) (by omega)
 refine ACalls.introB s_spec_l03Size (by simp) ?_;intro hB hA;unfold c_spec_l03Size;simp (disch:=(first|omega|(simp only [go_sem];try omega))) only [go_sem,Nat.reduceAdd,Nat.reduceEqDiff,Nat.reduceLeDiff,reduceIte,w64_id,cast_succ]
 repeat (first|(with_reducible first|refine SW.seq ?_|refine q8 ?_|refine SW.rowC ?_|refine SW.skip ?_|refine SW.exit ?_|refine PFn.use (hpw) ?_|refine PFn.useq (hpw) ?_|intro _|refine And.intro (by omega) ?_)|simp (disch:=(first|omega|(simp only [go_sem];try omega))) only [go_sem,Nat.reduceAdd,Nat.reduceEqDiff,Nat.reduceLeDiff,reduceIte,w64_id,cast_succ,xa,xl])
 refine SW.ret ?_;(try simp only [go_sem]);(first|refine qP ?_|refine qS ?_|refine qQ ?_);(try simp (disch:=(first|omega|(simp only [go_sem];try omega))) only [go_sem,Nat.reduceAdd,Nat.reduceEqDiff,Nat.reduceLeDiff,reduceIte,w64_id,cast_succ]);(first|(with_reducible refine GR.drop ?_ ?_;(simp only [go_sem,and_self,and_true,true_and,implies_true,qI,qO]))|refine GR.of ?_);refine ⟨?_,rfl⟩;(try with_reducible rfl)
theorem min_of {p : Nat → Prop} [DecidablePred p] : ∀ n,1 ≤ n → p n → ∃ b,1 ≤ b ∧ b ≤ n ∧ p b ∧ ∀ b',1 ≤ b' → b' < b → ¬ p b':=by
 intro n
 induction n using Nat.strongRecOn with
 | ind n ih =>
  intro h1 hp
  by_cases h : ∃ m,1 ≤ m ∧ m < n ∧ p m
  ·obtain ⟨m,g1,g2,g3⟩:=h
   obtain ⟨b,k1,k2,k3,k4⟩:=ih m g2 g1 g3
   exact ⟨b,k1,by omega,k3,k4⟩
  ·exact ⟨n,h1,qZ _,hp,fun b' g1 g2 g3=>h ⟨b',g1,g2,g3⟩⟩
theorem l03Inverse_g (H : List Blk) (r ty P K : Nat) (L : List Int) (rest : List AV) (a b0 : Nat) (hr : H[r]? = some (fdC ty P K L rest)) (hpb : 2 ≤ P ∧ P ≤ 64) (hkb : 1 ≤ K ∧ K ≤ 6) (hLb : OkD P L ∧ L.length = K + 1) (ha : a ≤ 1000) (h1 : 1 ≤ b0) (h2 : b0 ≤ 64) (hb : mulG P K L a b0 = 1) (hmin : ∀ b',1 ≤ b' → b' < b0 → mulG P K L a b' ≠ 1) :
  ACalls Tryz.prog f_spec_l03Inverse [.pc r 0 0,I a] H (fun v H'=>v = I b0 ∧ H' = H):=by
 refine ACalls.introB s_spec_l03Inverse (by simp) ?_;intro hB hA;unfold c_spec_l03Inverse;simp (disch:=(first|omega|(simp only [go_sem];try omega))) only [go_sem,Nat.reduceAdd,Nat.reduceEqDiff,Nat.reduceLeDiff,reduceIte,w64_id,cast_succ]
 repeat (first|(with_reducible first|refine SW.seq ?_|refine q8 ?_|refine SW.rowC ?_|refine SW.skip ?_|refine SW.exit ?_|intro _|refine And.intro (by omega) ?_)|simp (disch:=(first|omega|(simp only [go_sem];try omega))) only [go_sem,Nat.reduceAdd,Nat.reduceEqDiff,Nat.reduceLeDiff,reduceIte,w64_id,cast_succ])
 refine wJ (fun E0 H0 m E' H'=>∃ b : Nat,1 ≤ b ∧ b ≤ b0 ∧ m = b0 - b ∧ E' = aput E0 5 (I b) ∧ H' = H0) (b0 - 1) ⟨1,by omega,h1,rfl,rfl,rfl⟩ ?_
 rintro m E' H' ⟨b,hb1,hb2,rfl,rfl,rfl⟩
 simp (disch:=(first|omega|(simp only [go_sem];try omega))) only [go_sem,Nat.reduceAdd,Nat.reduceEqDiff,Nat.reduceLeDiff,reduceIte,w64_id,cast_succ]
 repeat (first|(with_reducible first|refine SW.seq ?_|refine q8 ?_|refine SW.rowC ?_|refine SW.skip ?_|refine SW.exit ?_|intro _|refine And.intro (by omega) ?_)|simp (disch:=(first|omega|(simp only [go_sem];try omega))) only [go_sem,Nat.reduceAdd,Nat.reduceEqDiff,Nat.reduceLeDiff,reduceIte,w64_id,cast_succ])
 refine (l03Mul_g H' r ty P K L rest a b hr hpb hkb hLb ha (by omega)).mono ?_
 rintro v H2 ⟨rfl,rfl⟩
 rcases yH hb2 with hlt|rfl
 ·have d : decide (mulG P K L a b = 1) = false:=decide_eq_false (hmin b hb1 hlt)
  repeat (first|(with_reducible first|refine SW.seq ?_|refine q8 ?_|refine SW.rowC ?_|refine SW.skip ?_|refine SW.exit ?_|intro _|refine And.intro (by omega) ?_)|simp (disch:=(first|omega|(simp only [go_sem];try omega))) only [go_sem,Nat.reduceAdd,Nat.reduceEqDiff,Nat.reduceLeDiff,reduceIte,w64_id,cast_succ,d])
  refine wM rfl ?_
  repeat (first|(with_reducible first|refine SW.seq ?_|refine q8 ?_|refine SW.rowC ?_|refine SW.skip ?_|refine SW.exit ?_|intro _|refine And.intro (by omega) ?_)|simp (disch:=(first|omega|(simp only [go_sem];try omega))) only [go_sem,Nat.reduceAdd,Nat.reduceEqDiff,Nat.reduceLeDiff,reduceIte,w64_id,cast_succ])
  exact wB (b0 - (b + 1)) (by omega) ⟨b + 1,by omega,by omega,rfl,by simp [go_sem],rfl⟩
 ·have d : decide (mulG P K L a b = 1) = true:=decide_eq_true hb
  repeat (first|(with_reducible first|refine SW.seq ?_|refine q8 ?_|refine SW.rowC ?_|refine SW.skip ?_|refine SW.exit ?_|intro _|refine And.intro (by omega) ?_)|simp (disch:=(first|omega|(simp only [go_sem];try omega))) only [go_sem,Nat.reduceAdd,Nat.reduceEqDiff,Nat.reduceLeDiff,reduceIte,w64_id,cast_succ,d])
  refine wE rfl ?_
  repeat (first|(with_reducible first|refine SW.seq ?_|refine q8 ?_|refine SW.rowC ?_|refine SW.skip ?_|refine SW.exit ?_|intro _|refine And.intro (by omega) ?_)|simp (disch:=(first|omega|(simp only [go_sem];try omega))) only [go_sem,Nat.reduceAdd,Nat.reduceEqDiff,Nat.reduceLeDiff,reduceIte,w64_id,cast_succ])
  refine SW.ret ?_;(try simp only [go_sem]);(first|refine qP ?_|refine qS ?_|refine qQ ?_);(try simp (disch:=(first|omega|(simp only [go_sem];try omega))) only [go_sem,Nat.reduceAdd,Nat.reduceEqDiff,Nat.reduceLeDiff,reduceIte,w64_id,cast_succ])
  exact GR.of ⟨rfl,rfl⟩
def scL (P K : Nat) (L v : List Int) (c : Nat) : List Int:=v.map fun x=>mulG P K L x.toNat c
def lsL (P K : Nat) (L v w : List Int) (c : Nat) : List Int:=(w7 v.length).map fun i=>sumG P K (v.getD i 0).toNat (mulG P K L (w.getD i 0).toNat c).toNat (P - 1)
theorem l17Scale_g (H : List Blk) (r ty P K : Nat) (L : List Int) (rest : List AV) (va : AV) (v : List Int) (c : Nat) (hr : H[r]? = some (fdC ty P K L rest)) (hpb : 2 ≤ P ∧ P ≤ 64) (hkb : 1 ≤ K ∧ K ≤ 6) (hLb : OkD P L ∧ L.length = K + 1) (hc : c ≤ 1000) (hva : RdS H va v) (hv : v.length ≤ 64) (hvx : ∀ x ∈ v,0 ≤ x ∧ x ≤ 1000) :
  ACalls Tryz.prog f_spec_l17Scale [.pc r 0 0,va,I c] H (fun w H'=>w = .nm H.length v.length 0 v.length ∧ H' = H ++ [⟨v.length,2,1,(scL P K L v c).map I⟩]):=by
 refine ACalls.introB s_spec_l17Scale (by simp) ?_;intro hB hA;unfold c_spec_l17Scale;simp (disch:=(first|omega|(simp only [go_sem];try omega))) only [go_sem,Nat.reduceAdd,Nat.reduceEqDiff,Nat.reduceLeDiff,reduceIte,w64_id,cast_succ]
 repeat (first|(with_reducible first|refine SW.seq ?_|refine q8 ?_|refine SW.rowC ?_|refine SW.skip ?_|refine SW.exit ?_|intro _|refine And.intro (by omega) ?_)|simp (disch:=(first|omega|(simp only [go_sem];try omega))) only [go_sem,Nat.reduceAdd,Nat.reduceEqDiff,Nat.reduceLeDiff,reduceIte,w64_id,cast_succ])
 refine wJ (fun E0 H0 m E' H'=>∃ i : Nat,i ≤ v.length ∧ m = v.length - i ∧ E' = aput (aput E0 8 (I i)) 7 (.nm H.length i 0 i) ∧ H' = H ++ [⟨i,2,1,(scL P K L (v.take i) c).map I⟩]) v.length ⟨0,by omega,rfl,rfl,rfl⟩ ?_
 rintro m E' H' ⟨i,hi,rfl,rfl,rfl⟩
 have hvv:=fun ext=>(hva.append ext : aview (H ++ ext) va = _)
 simp (disch:=(first|omega|(simp only [go_sem];try omega))) only [go_sem,Nat.reduceAdd,Nat.reduceEqDiff,Nat.reduceLeDiff,reduceIte,w64_id,cast_succ]
 repeat (first|(with_reducible first|refine SW.seq ?_|refine q8 ?_|refine SW.rowC ?_|refine SW.skip ?_|refine SW.exit ?_|intro _|refine And.intro (by omega) ?_)|simp (disch:=(first|omega|(simp only [go_sem];try omega))) only [go_sem,Nat.reduceAdd,Nat.reduceEqDiff,Nat.reduceLeDiff,reduceIte,w64_id,cast_succ,hvv])
 (first|refine wK rfl (fun h3=>?_) (fun h3=>?_)|refine wL rfl (fun h3=>?_) (fun h3=>?_)|refine wF rfl (fun h3=>?_) (fun h3=>?_)|refine wH rfl (fun h3=>?_) (fun h3=>?_))
 ·have hil : i < v.length:=by omega
  have hbv : Bel (H.length + 1) va:=(hA va (by simp)).mono (by omega)
  have hrl:=(qC.1 hr).1
  have hg : (v.map I)[i]? = some (I (v.getD i 0)):=by rw [qX,qE,qB hil];rfl
  have hx:=hvx (v.getD i 0) (by rw [qE,qB hil];exact wQ _)
  obtain ⟨x,hxe⟩:=wC hx.1
  have hs : scL P K L (v.take (i + 1)) c = scL P K L (v.take i) c ++ [mulG P K L x c]:=by
   unfold scL
   rw [xN hil,xB]
   have e : v[i] = (x : Int):=by rw [← hxe,qE,qB hil];rfl
   rw [List.map_singleton,e,wA]
  have hsl : (scL P K L (v.take i) c).length = i:=by simp [scL];omega
  rw [hxe] at hg
  have htk : ((scL P K L (v.take i) c).map I).take i = (scL P K L (v.take i) c).map I:=qW (by simp [hsl])
  repeat (first|(with_reducible first|refine SW.seq ?_|refine q8 ?_|refine SW.rowC ?_|refine SW.skip ?_|refine SW.exit ?_|intro _|refine And.intro (by omega) ?_)|simp (disch:=(first|omega|(simp only [go_sem];try omega))) only [go_sem,Nat.reduceAdd,Nat.reduceEqDiff,Nat.reduceLeDiff,reduceIte,w64_id,cast_succ,hvv,hg])
  refine (l03Mul_g _ r ty P K L rest x c (get_appU hr _) hpb hkb hLb (by omega) hc).mono ?_
  rintro w H2 ⟨rfl,rfl⟩
  repeat (first|(with_reducible first|refine SW.seq ?_|refine q8 ?_|refine SW.rowC ?_|refine SW.skip ?_|refine SW.exit ?_|intro _|refine And.intro (by omega) ?_)|simp (disch:=(first|omega|(simp only [go_sem];try omega))) only [go_sem,Nat.reduceAdd,Nat.reduceEqDiff,Nat.reduceLeDiff,reduceIte,w64_id,cast_succ,htk])
  refine y4 1 (v.length - (i + 1)) hB (by omega) (by omega) (by simp) ?_ ?_ ⟨i + 1,by omega,rfl,by simp [go_sem],by rw [hs];simp⟩
  ·(simp only [go_sem,Nat.reduceAdd,Nat.reduceEqDiff,reduceIte,go_sem,and_self,and_true,true_and,implies_true,qI,qO,and_true,true_and,hbv];try omega)
  ·(simp only [go_sem,Nat.reduceAdd,Nat.reduceEqDiff,reduceIte,go_sem,and_self,and_true,true_and,implies_true,qI,qO,and_true,true_and];try omega)
 ·have hil : i = v.length:=by omega
  rw [hil,wW]
  repeat (first|(with_reducible first|refine SW.seq ?_|refine q8 ?_|refine SW.rowC ?_|refine SW.skip ?_|refine SW.exit ?_|intro _|refine And.intro (by omega) ?_)|simp (disch:=(first|omega|(simp only [go_sem];try omega))) only [go_sem,Nat.reduceAdd,Nat.reduceEqDiff,Nat.reduceLeDiff,reduceIte,w64_id,cast_succ])
  refine SW.ret ?_;(try simp only [go_sem]);(first|refine qP ?_|refine qS ?_|refine qQ ?_);(try simp (disch:=(first|omega|(simp only [go_sem];try omega))) only [go_sem,Nat.reduceAdd,Nat.reduceEqDiff,Nat.reduceLeDiff,reduceIte,w64_id,cast_succ])
  exact GR.of ⟨rfl,rfl⟩
theorem l17Less_g (H : List Blk) (r ty P K : Nat) (L : List Int) (rest : List AV) (va wa : AV) (v w : List Int) (c : Nat) (hr : H[r]? = some (fdC ty P K L rest)) (hpb : 2 ≤ P ∧ P ≤ 64) (hkb : 1 ≤ K ∧ K ≤ 6) (hLb : OkD P L ∧ L.length = K + 1) (hq : P ^ K ≤ 64) (hc : c ≤ 1000) (hva : RdS H va v) (hwa : RdS H wa w) (hl : v.length = w.length) (hv : v.length ≤ 64) (hvx : ∀ x ∈ v,0 ≤ x ∧ x ≤ 1000) (hwx : ∀ x ∈ w,0 ≤ x ∧ x ≤ 1000) :
  ACalls Tryz.prog f_spec_l17Less [.pc r 0 0,va,wa,I c] H (fun z H'=>z = .nm H.length v.length 0 v.length ∧ H' = H ++ [⟨v.length,2,1,(lsL P K L v w c).map I⟩]):=by
 have xa:=fun o ext=>pc_alive (off:=o) (get_appU hr ext)
 have xl:=fun o ext=>pc_ld (off:=o) (get_appU hr ext)
 refine ACalls.introB s_spec_l17Less (by simp) ?_;intro hB hA;unfold c_spec_l17Less;simp (disch:=(first|omega|(simp only [go_sem];try omega))) only [go_sem,Nat.reduceAdd,Nat.reduceEqDiff,Nat.reduceLeDiff,reduceIte,w64_id,cast_succ]
 repeat (first|(with_reducible first|refine SW.seq ?_|refine q8 ?_|refine SW.rowC ?_|refine SW.skip ?_|refine SW.exit ?_|intro _|refine And.intro (by omega) ?_)|simp (disch:=(first|omega|(simp only [go_sem];try omega))) only [go_sem,Nat.reduceAdd,Nat.reduceEqDiff,Nat.reduceLeDiff,reduceIte,w64_id,cast_succ])
 refine wJ (fun E0 H0 m E' H'=>∃ i : Nat,i ≤ v.length ∧ m = v.length - i ∧ E' = aput (aput E0 10 (I i)) 9 (.nm H.length i 0 i) ∧ H' = H ++ [⟨i,2,1,((w7 i).map fun i=>sumG P K (v.getD i 0).toNat (mulG P K L (w.getD i 0).toNat c).toNat (P - 1)).map I⟩]) v.length ⟨0,by omega,rfl,rfl,rfl⟩ ?_
 rintro m E' H' ⟨i,hi,rfl,rfl,rfl⟩
 have hvv:=fun ext=>(hva.append ext : aview (H ++ ext) va = _)
 have hww:=fun ext=>(hwa.append ext : aview (H ++ ext) wa = _)
 simp (disch:=(first|omega|(simp only [go_sem];try omega))) only [go_sem,Nat.reduceAdd,Nat.reduceEqDiff,Nat.reduceLeDiff,reduceIte,w64_id,cast_succ]
 repeat (first|(with_reducible first|refine SW.seq ?_|refine q8 ?_|refine SW.rowC ?_|refine SW.skip ?_|refine SW.exit ?_|intro _|refine And.intro (by omega) ?_)|simp (disch:=(first|omega|(simp only [go_sem];try omega))) only [go_sem,Nat.reduceAdd,Nat.reduceEqDiff,Nat.reduceLeDiff,reduceIte,w64_id,cast_succ,hvv])
 (first|refine wK rfl (fun h3=>?_) (fun h3=>?_)|refine wL rfl (fun h3=>?_) (fun h3=>?_)|refine wF rfl (fun h3=>?_) (fun h3=>?_)|refine wH rfl (fun h3=>?_) (fun h3=>?_))
 ·have hil : i < v.length:=by omega
  have hbv : Bel (H.length + 1) va:=(hA va (by simp)).mono (by omega)
  have hbw : Bel (H.length + 1) wa:=(hA wa (by simp)).mono (by omega)
  have hrl:=(qC.1 hr).1
  have hg : (v.map I)[i]? = some (I (v.getD i 0)):=by rw [qX,qE,qB hil];rfl
  have hg2 : (w.map I)[i]? = some (I (w.getD i 0)):=by rw [qX,qE,qB (by omega)];rfl
  have hx:=hvx (v.getD i 0) (by rw [qE,qB hil];exact wQ _)
  have hy:=hwx (w.getD i 0) (by rw [qE,qB (by omega)];exact wQ _)
  obtain ⟨x,hxe⟩:=wC hx.1
  obtain ⟨y,hye⟩:=wC hy.1
  have hs : ((w7 (i + 1)).map fun i=>sumG P K (v.getD i 0).toNat (mulG P K L (w.getD i 0).toNat c).toNat (P - 1)) = ((w7 i).map fun i=>sumG P K (v.getD i 0).toNat (mulG P K L (w.getD i 0).toNat c).toNat (P - 1)) ++ [sumG P K x (mulG P K L y c).toNat (P - 1)]:=by
   rw [List.range_succ,xB,List.map_singleton,hxe,hye,wA,wA]
  have hsl : ((w7 i).map fun i=>sumG P K (v.getD i 0).toNat (mulG P K L (w.getD i 0).toNat c).toNat (P - 1)).length = i:=by simp
  have hmb:=mulG_bd (P:=P) (K:=K) (a:=y) (b:=c) hpb.1 hpb.2 hLb
  obtain ⟨z,hze⟩:=wC hmb.1
  rw [hze] at hs hmb
  rw [wA] at hs
  rw [hxe] at hg
  rw [hye] at hg2
  generalize hR : ((w7 i).map fun i=>sumG P K (v.getD i 0).toNat (mulG P K L (w.getD i 0).toNat c).toNat (P - 1)) = R at *
  have htk : (R.map I).take i = R.map I:=qW (by simp [hsl])
  have hp1 : ((P : Nat) : Int) - 1 = ((P - 1 : Nat) : Int):=by omega
  repeat (first|(with_reducible first|refine SW.seq ?_|refine q8 ?_|refine SW.rowC ?_|refine SW.skip ?_|refine SW.exit ?_|intro _|refine And.intro (by omega) ?_)|simp (disch:=(first|omega|(simp only [go_sem];try omega))) only [go_sem,Nat.reduceAdd,Nat.reduceEqDiff,Nat.reduceLeDiff,reduceIte,w64_id,cast_succ,hvv,hg,hww,hg2,xa,xl])
  refine QcallW.of (fun ext=>l03Mul_g _ r ty P K L rest y c (get_appU (get_appU hr _) ext) hpb hkb hLb (by omega) hc) ?_
  rw [hze]
  repeat (first|(with_reducible first|refine SW.seq ?_|refine q8 ?_|refine SW.rowC ?_|refine SW.skip ?_|refine SW.exit ?_|intro _|refine And.intro (by omega) ?_)|simp (disch:=(first|omega|(simp only [go_sem];try omega))) only [go_sem,Nat.reduceAdd,Nat.reduceEqDiff,Nat.reduceLeDiff,reduceIte,w64_id,cast_succ,hp1,xa,xl])
  first
   | refine QcallW.of (fun ext=>l03Sum_g _ r ty P K L rest x z (P - 1) (get_appU (get_appU hr _) ext) hpb hkb (by omega) (by omega) (by omega)) ?_
   | (refine (l03Sum_g _ r ty P K L rest x z (P - 1) (get_appU hr _) hpb hkb (by omega) (by omega) (by omega)).mono ?_
      rintro u H2 ⟨rfl, rfl⟩)
  repeat (first|(with_reducible first|refine SW.seq ?_|refine q8 ?_|refine SW.rowC ?_|refine SW.skip ?_|refine SW.exit ?_|intro _|refine And.intro (by omega) ?_)|simp (disch:=(first|omega|(simp only [go_sem];try omega))) only [go_sem,Nat.reduceAdd,Nat.reduceEqDiff,Nat.reduceLeDiff,reduceIte,w64_id,cast_succ,htk])
  refine y4 1 (v.length - (i + 1)) hB (by omega) (by omega) (by simp) ?_ ?_ ⟨i + 1,by omega,rfl,by simp [go_sem],by rw [hs];simp⟩
  ·(simp only [go_sem,Nat.reduceAdd,Nat.reduceEqDiff,reduceIte,go_sem,and_self,and_true,true_and,implies_true,qI,qO,and_true,true_and,hbv,hbw];try omega)
  ·(simp only [go_sem,Nat.reduceAdd,Nat.reduceEqDiff,reduceIte,go_sem,and_self,and_true,true_and,implies_true,qI,qO,and_true,true_and];try omega)
 ·have hil : i = v.length:=by omega
  subst hil
  repeat (first|(with_reducible first|refine SW.seq ?_|refine q8 ?_|refine SW.rowC ?_|refine SW.skip ?_|refine SW.exit ?_|intro _|refine And.intro (by omega) ?_)|simp (disch:=(first|omega|(simp only [go_sem];try omega))) only [go_sem,Nat.reduceAdd,Nat.reduceEqDiff,Nat.reduceLeDiff,reduceIte,w64_id,cast_succ])
  refine SW.ret ?_;(try simp only [go_sem]);(first|refine qP ?_|refine qS ?_|refine qQ ?_);(try simp (disch:=(first|omega|(simp only [go_sem];try omega))) only [go_sem,Nat.reduceAdd,Nat.reduceEqDiff,Nat.reduceLeDiff,reduceIte,w64_id,cast_succ])
  exact GR.of ⟨rfl,rfl⟩
theorem l17Scale_q (H : List Blk) (r ty P K : Nat) (L : List Int) (rest : List AV) (va : AV) (v : List Int) (c : Nat) (hr : H[r]? = some (fdC ty P K L rest)) (hpb : 2 ≤ P ∧ P ≤ 64) (hkb : 1 ≤ K ∧ K ≤ 6) (hLb : OkD P L ∧ L.length = K + 1) (hc : c ≤ 1000) (hva : RdS H va v) (hv : v.length ≤ 64) (hvx : ∀ x ∈ v,0 ≤ x ∧ x ≤ 1000) :
  ACalls Tryz.prog f_spec_l17Scale [.pc r 0 0,va,I c] H (fun w H'=>w = ilS (scL P K L v c) ∧ H' = H):=by
 refine (l17Scale_g H r ty P K L rest va v c hr hpb hkb hLb hc hva hv hvx).gr ?_
 rintro w H' ⟨rfl,rfl⟩
 have:=froz_rowI (H:=H ++ [⟨v.length,2,1,(scL P K L v c).map I⟩]) (b:=H.length) (r:=H.length) (ver:=v.length) (ty:=2) (xs:=scL P K L v c) (qZ _) (by simp)
 rw [show (scL P K L v c).length = v.length by unfold scL;rw [w8]] at this
 exact GR.froz this ⟨rfl,rfl⟩
theorem l17Less_q (H : List Blk) (r ty P K : Nat) (L : List Int) (rest : List AV) (va wa : AV) (v w : List Int) (c : Nat) (hr : H[r]? = some (fdC ty P K L rest)) (hpb : 2 ≤ P ∧ P ≤ 64) (hkb : 1 ≤ K ∧ K ≤ 6) (hLb : OkD P L ∧ L.length = K + 1) (hq : P ^ K ≤ 64) (hc : c ≤ 1000) (hva : RdS H va v) (hwa : RdS H wa w) (hl : v.length = w.length) (hv : v.length ≤ 64) (hvx : ∀ x ∈ v,0 ≤ x ∧ x ≤ 1000) (hwx : ∀ x ∈ w,0 ≤ x ∧ x ≤ 1000) :
  ACalls Tryz.prog f_spec_l17Less [.pc r 0 0,va,wa,I c] H (fun z H'=>z = ilS (lsL P K L v w c) ∧ H' = H):=by
 refine (l17Less_g H r ty P K L rest va wa v w c hr hpb hkb hLb hq hc hva hwa hl hv hvx hwx).gr ?_
 rintro z H' ⟨rfl,rfl⟩
 have:=froz_rowI (H:=H ++ [⟨v.length,2,1,(lsL P K L v w c).map I⟩]) (b:=H.length) (r:=H.length) (ver:=v.length) (ty:=2) (xs:=lsL P K L v w c) (qZ _) (by simp)
 rw [show (lsL P K L v w c).length = v.length by unfold lsL;rw [w8,List.length_range]] at this
 exact GR.froz this ⟨rfl,rfl⟩
end Go.Proofs.YtclfmfabcnbbpaaGreat