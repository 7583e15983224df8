/- Words of binary codes: the reference. -/
import Derived.Test.YtclfmfabcnbbpaaGreatProg
import Derived.KernelRfl
import Derived.Test.YtclfmfabcnbbpaaGreatzWA
import Derived.Test.YtclfmfabcnbbpaaGreatzGZ
import Derived.Test.YtclfmfabcnbbpaaGreatzU1
import Derived.Test.YtclfmfabcnbbpaaGreatzNF
set_option linter.unusedSimpArgs false
set_option linter.unusedVariables false
set_option maxHeartbeats 4000000
set_option maxRecDepth 100000
open Go.Operand renaming tmp→t'
open Option renaming none→n',some→s'
open List renaming replicate→qT,range_succ→xD,getD_eq_getElem?_getD→qE,take_of_length_le→qW,range→w7,getElem?_eq_getElem→qB,length_append→wN,take_zero→qO,append_assoc→wV,take_succ_cons→qI
open Nat renaming le_refl→qZ
open Int renaming eq_ofNat_of_zero_le→wC,toNat_natCast→wA
open Go.Av.SW renaming block→q8,loopE→wJ,condD→wK,condN→wL,condNB→wF,condB→wH
open Go.Av.SLoop renaming next→wB
open Go.Av.FunPost renaming three→qQ
namespace Go.Proofs.YtclfmfabcnbbpaaGreat
open Go.Av
abbrev f_spec_l18Words : Nat:=41
def c_spec_l18Words : SC :=
 .seq (.reg [⟨s' 2,.mv (.const (.slice none 0 0)),n'⟩] [0]) (.seq (.reg [⟨s' 11,.mv (t' 0),n'⟩,⟨s' 12,.nilc (t' 11),n'⟩,⟨s' 13,.faddr 3 (t' 12),n'⟩,
 ⟨s' 14,.load 1 false (t' 13),n'⟩,⟨s' 15,.iaddr 1 (t' 14) (.const (.int .i64 0)),n'⟩,⟨s' 16,.load 1 false (t' 15),n'⟩,⟨s' 17,.len (t' 16),n'⟩,
 ⟨s' 18,.mslice 2 8 (.int .i64 0) (t' 17) (t' 17),n'⟩,⟨s' 19,.bslice 22 1 1 [(.slice none 0 0)] [(0,(t' 18))],n'⟩,⟨s' 3,.mv (t' 19),n'⟩] [0,3]) (.seq (.reg [⟨s' 20,.mv (t' 0),n'⟩,
 ⟨s' 21,.nilc (t' 20),n'⟩,⟨s' 22,.faddr 0 (t' 21),n'⟩,⟨s' 23,.call 38 [(t' 22)],n'⟩,⟨s' 4,.mv (t' 23),n'⟩] [0,3,4]) (.seq (.seq (.reg [
 ⟨s' 5,.mv (.const (.int .i64 0)),n'⟩] [0,3,4,5]) (.block 0 (.loop [0,3,4,5] (.seq (.seq (.reg [⟨s' 24,.mv (t' 5),n'⟩,⟨s' 25,.mv (t' 0),n'⟩,⟨s' 26,.nilc (t' 25),n'⟩,
 ⟨s' 27,.faddr 3 (t' 26),n'⟩,⟨s' 28,.load 1 false (t' 27),n'⟩,⟨s' 29,.len (t' 28),n'⟩,⟨s' 30,.bin .lss (t' 24) (t' 29),n'⟩] [0,3,4,5,30]) (.cond (t' 30) (.skip) (.exit 0)))
 (.seq (.block 1 (.seq (.reg [⟨s' 33,.bslice 22 1 0 [] [],n'⟩,⟨s' 6,.mv (t' 33),n'⟩] [0,3,4,5,6]) (.seq (.seq (.reg [⟨s' 7,.mv (.const (.int .i64 0)),n'⟩] [0,3,4,5,6,7])
 (.block 2 (.loop [0,3,4,5,6,7] (.seq (.seq (.reg [⟨s' 34,.mv (t' 7),n'⟩,⟨s' 35,.mv (t' 4),n'⟩,⟨s' 36,.bin .lss (t' 34) (t' 35),n'⟩] [0,3,4,5,6,7,36]) (.cond (t' 36) (.skip)
 (.exit 2))) (.seq (.block 3 (.reg [⟨s' 39,.mv (t' 6),n'⟩,⟨s' 40,.mv (t' 0),n'⟩,⟨s' 41,.nilc (t' 40),n'⟩,⟨s' 42,.faddr 0 (t' 41),n'⟩,⟨s' 43,.mv (t' 0),n'⟩,
 ⟨s' 44,.nilc (t' 43),n'⟩,⟨s' 45,.faddr 3 (t' 44),n'⟩,⟨s' 46,.load 1 false (t' 45),n'⟩,⟨s' 47,.mv (t' 5),n'⟩,⟨s' 48,.iaddr 1 (t' 46) (t' 47),n'⟩,⟨s' 49,.load 1 false (t' 48),n'⟩,
 ⟨s' 50,.mv (t' 7),n'⟩,⟨s' 51,.qcall 60 [(t' 42),(t' 49),(t' 50)],n'⟩,⟨s' 52,.bslice 22 1 1 [(.slice none 0 0)] [(0,(t' 51))],n'⟩,⟨s' 53,.app 22 1 24 (t' 39) (t' 52),n'⟩,
 ⟨s' 6,.mv (t' 53),n'⟩] [0,3,4,5,6,7])) (.reg [⟨s' 37,.mv (t' 7),n'⟩,⟨s' 38,.bin .add (t' 37) (.const (.int .i64 1)),n'⟩,⟨s' 7,.mv (t' 38),n'⟩] [0,3,4,5,6,7])))))) (.seq (.reg [
 ⟨s' 54,.bslice 22 1 0 [] [],n'⟩,⟨s' 8,.mv (t' 54),n'⟩] [0,3,4,5,6,8]) (.seq (.seq (.reg [⟨s' 9,.mv (.const (.int .i64 0)),n'⟩] [0,3,4,5,6,8,9]) (.block 4 (.loop [0,3,4,5,6,8,9]
 (.seq (.seq (.reg [⟨s' 55,.mv (t' 9),n'⟩,⟨s' 56,.mv (t' 3),n'⟩,⟨s' 57,.len (t' 56),n'⟩,⟨s' 58,.bin .lss (t' 55) (t' 57),n'⟩] [0,3,4,5,6,8,9,58]) (.cond (t' 58) (.skip) (.exit 4)))
 (.seq (.block 5 (.seq (.reg [⟨s' 10,.mv (.const (.int .i64 0)),n'⟩] [0,3,4,5,6,8,9,10]) (.block 6 (.loop [0,3,4,5,6,8,9,10] (.seq (.seq (.reg [⟨s' 61,.mv (t' 10),n'⟩,
 ⟨s' 62,.mv (t' 4),n'⟩,⟨s' 63,.bin .lss (t' 61) (t' 62),n'⟩] [0,3,4,5,6,8,9,10,63]) (.cond (t' 63) (.skip) (.exit 6))) (.seq (.block 7 (.reg [⟨s' 66,.mv (t' 8),n'⟩,
 ⟨s' 67,.mv (t' 0),n'⟩,⟨s' 68,.nilc (t' 67),n'⟩,⟨s' 69,.faddr 0 (t' 68),n'⟩,⟨s' 70,.mv (t' 3),n'⟩,⟨s' 71,.mv (t' 9),n'⟩,⟨s' 72,.iaddr 1 (t' 70) (t' 71),n'⟩,
 ⟨s' 73,.load 1 false (t' 72),n'⟩,⟨s' 74,.mv (t' 6),n'⟩,⟨s' 75,.mv (t' 10),n'⟩,⟨s' 76,.iaddr 1 (t' 74) (t' 75),n'⟩,⟨s' 77,.load 1 false (t' 76),n'⟩,
 ⟨s' 78,.qcall 61 [(t' 69),(t' 73),(t' 77)],n'⟩,⟨s' 79,.bslice 22 1 1 [(.slice none 0 0)] [(0,(t' 78))],n'⟩,⟨s' 80,.app 22 1 24 (t' 66) (t' 79),n'⟩,
 ⟨s' 8,.mv (t' 80),n'⟩] [0,3,4,5,6,8,9,10])) (.reg [⟨s' 64,.mv (t' 10),n'⟩,⟨s' 65,.bin .add (t' 64) (.const (.int .i64 1)),n'⟩,⟨s' 10,.mv (t' 65),n'⟩] [0,3,4,5,6,8,9,10])))))))
 (.reg [⟨s' 59,.mv (t' 9),n'⟩,⟨s' 60,.bin .add (t' 59) (.const (.int .i64 1)),n'⟩,⟨s' 9,.mv (t' 60),n'⟩] [0,3,4,5,6,8,9])))))) (.reg [⟨s' 81,.mv (t' 8),n'⟩,
 ⟨s' 3,.mv (t' 81),n'⟩] [0,3,4,5])))))) (.reg [⟨s' 31,.mv (t' 5),n'⟩,⟨s' 32,.bin .add (t' 31) (.const (.int .i64 1)),n'⟩,⟨s' 5,.mv (t' 32),n'⟩] [0,3,4,5])))))) (.seq (.reg [
 ⟨s' 82,.mv (t' 3),n'⟩,⟨s' 2,.mv (t' 82),n'⟩] [2]) (.ret)))))
theorem s_spec_l18Words : stripF Tryz.prog 41 [[0],[0,3],[0,3,4],[0,3,4,5],[0,3,4,5],[0,3,4,5,30],[0,3,4,5,6],[0,3,4,5,6,7],[0,3,4,5,6,7],[0,3,4,5,6,7,36],[0,3,4,5,6,7],[0,3,4,5,6,7],[0,3,4,5,6,8],[0,3,4,5,6,8,9],[0,3,4,5,6,8,9],[0,3,4,5,6,8,9,58],[0,3,4,5,6,8,9,10],[0,3,4,5,6,8,9,10],[0,3,4,5,6,8,9,10,63],[0,3,4,5,6,8,9,10],[0,3,4,5,6,8,9,10],[0,3,4,5,6,8,9],[0,3,4,5],[0,3,4,5],[2]] = some (c_spec_l18Words,[.tmp 2],83):=by kernel_rfl
abbrev f_spec_l18Plus : Nat:=61
def c_spec_l18Plus : SC :=
 .seq (.reg [⟨s' 6,.mv (.const (.slice none 0 0)),n'⟩] [0,1,2]) (.seq (.reg [⟨s' 9,.mv (t' 1),n'⟩,⟨s' 10,.len (t' 9),n'⟩,⟨s' 11,.mslice 2 8 (.int .i64 0) (t' 10) (t' 10),n'⟩,
 ⟨s' 7,.mv (t' 11),n'⟩] [0,1,2,7]) (.seq (.seq (.reg [⟨s' 8,.mv (.const (.int .i64 0)),n'⟩] [0,1,2,7,8]) (.block 0 (.loop [0,1,2,7,8] (.seq (.seq (.reg [⟨s' 12,.mv (t' 8),n'⟩,
 ⟨s' 13,.mv (t' 1),n'⟩,⟨s' 14,.len (t' 13),n'⟩,⟨s' 15,.bin .lss (t' 12) (t' 14),n'⟩] [0,1,2,7,8,15]) (.cond (t' 15) (.skip) (.exit 0))) (.seq (.block 1 (.seq (.reg [
 ⟨s' 18,.mv (t' 2),n'⟩,⟨s' 19,.mv (t' 8),n'⟩,⟨s' 20,.iaddr 1 (t' 18) (t' 19),n'⟩,⟨s' 21,.load 1 false (t' 20),n'⟩,
 ⟨s' 22,.bin .eql (t' 21) (.const (.int .i64 0)),n'⟩] [0,1,2,7,8,22]) (.cond (t' 22) (.reg [⟨s' 23,.mv (t' 7),n'⟩,⟨s' 24,.mv (t' 8),n'⟩,⟨s' 25,.mv (t' 1),n'⟩,
 ⟨s' 26,.mv (t' 8),n'⟩,⟨s' 27,.iaddr 1 (t' 25) (t' 26),n'⟩,⟨s' 28,.load 1 false (t' 27),n'⟩,⟨s' 29,.iaddr 1 (t' 23) (t' 24),n'⟩,⟨n',.store 1 (t' 29) (t' 28),n'⟩] [0,1,2,7,8])
 (.reg [⟨s' 30,.mv (t' 7),n'⟩,⟨s' 31,.mv (t' 8),n'⟩,⟨s' 32,.mv (t' 0),n'⟩,⟨s' 33,.mv (t' 1),n'⟩,⟨s' 34,.mv (t' 8),n'⟩,⟨s' 35,.iaddr 1 (t' 33) (t' 34),n'⟩,
 ⟨s' 36,.load 1 false (t' 35),n'⟩,⟨s' 37,.mv (t' 2),n'⟩,⟨s' 38,.mv (t' 8),n'⟩,⟨s' 39,.iaddr 1 (t' 37) (t' 38),n'⟩,⟨s' 40,.load 1 false (t' 39),n'⟩,
 ⟨s' 41,.qcall 85 [(t' 32),(t' 36),(t' 40),(.const (.int .i64 1))],n'⟩,⟨s' 42,.iaddr 1 (t' 30) (t' 31),n'⟩,⟨n',.store 1 (t' 42) (t' 41),n'⟩] [0,1,2,7,8])))) (.reg [
 ⟨s' 16,.mv (t' 8),n'⟩,⟨s' 17,.bin .add (t' 16) (.const (.int .i64 1)),n'⟩,⟨s' 8,.mv (t' 17),n'⟩] [0,1,2,7,8])))))) (.seq (.reg [⟨s' 43,.mv (t' 7),n'⟩,⟨s' 6,.mv (t' 43),n'⟩] [6])
 (.ret))))
theorem s_spec_l18Plus : stripF Tryz.prog 61 [[0,1,2],[0,1,2,7],[0,1,2,7,8],[0,1,2,7,8],[0,1,2,7,8,15],[0,1,2,7,8,22],[0,1,2,7,8],[0,1,2,7,8],[0,1,2,7,8],[6]] = some (c_spec_l18Plus,[.tmp 6],44):=by kernel_rfl
theorem ren_of_frozW {H : List Blk} {b : Nat} {a a' : AV} (h : Froz H b a a') : Ren H b [] a a':=by
 induction h with
 | old c h=>exact .old c h
 | nil=>exact .nilF
 | nm i ver off len kb cs hb hk hv hl _ ih=>exact .fz i ver off len kb cs hb (by simp) hk hv hl ih
 | agg cs cs' hl _ ih=>exact .agg cs cs' hl ih
 | tup cs cs' hl _ ih=>exact .tup cs cs' hl ih
theorem set_midW (acc : List Int) (m : Nat) (x : Int) : (acc ++ qT (m + 1) 0).set acc.length x = acc ++ [x] ++ qT m 0:=by
 rw [List.set_append_right _ _ (qZ _),Nat.sub_self,List.replicate_succ,List.set_cons_zero];simp
theorem plV_len (P K : Nat) (v r : List Int) (j : Nat) : (plV P K v r j).length = j:=by simp [plV]
theorem plV_succ (P K : Nat) (v r : List Int) (j : Nat) : plV P K v r (j + 1) = plV P K v r j ++ [if r.getD j 0 = 0 then v.getD j 0 else sumG P K (v.getD j 0).toNat (r.getD j 0).toNat 1]:=by
 unfold plV;rw [xD,List.map_append];rfl
theorem l18Plus_q (H : List Blk) (r ty P K : Nat) (L : List Int) (rest : List AV) (v b : List Int) (hr : H[r]? = some (fdC ty P K L rest)) (hpb : 2 ≤ P ∧ P ≤ 64) (hkb : 1 ≤ K ∧ K ≤ 6) (hl : v.length = b.length) (hv : v.length ≤ 64) (hvx : ∀ x ∈ v,0 ≤ x ∧ x ≤ 1000) (hbx : ∀ x ∈ b,0 ≤ x ∧ x ≤ 1000) :
  ACalls Tryz.prog f_spec_l18Plus [.pc r 0 0,ilS v,ilS b] H (fun z H'=>z = ilS (plV P K v b v.length) ∧ H' = H):=by
 have hget : ∀ (u : List Int) (hu : ∀ x ∈ u,0 ≤ x ∧ x ≤ 1000) (i : Nat),∃ a : Nat,u.getD i 0 = a ∧ a ≤ 1000:=fun u hu i=>by
  have : 0 ≤ u.getD i 0 ∧ u.getD i 0 ≤ 1000:=by
   rw [qE]
   cases e : u[i]? with
   | none=>exact ⟨by simp,by simp⟩
   | some x=>exact hu x (List.mem_of_getElem? e)
  obtain ⟨a,ha⟩:=wC this.1
  exact ⟨a,ha,by omega⟩
 refine ACalls.introB s_spec_l18Plus (by simp) ?_;intro hB hA;unfold c_spec_l18Plus;simp (disch:=(first|omega|(simp only [go_sem];try omega))) only [go_sem,Nat.reduceAdd,Nat.reduceEqDiff,Nat.reduceLeDiff,reduceIte,w64_id,cast_succ]
 repeat (first|(with_reducible first|refine SW.seq ?_|refine q8 ?_|refine SW.rowC ?_|refine SW.skip ?_|refine SW.exit ?_|intro _|refine And.intro (by omega) ?_)|simp (disch:=(first|omega|(simp only [go_sem];try omega))) only [go_sem,Nat.reduceAdd,Nat.reduceEqDiff,Nat.reduceLeDiff,reduceIte,w64_id,cast_succ,wA])
 refine wJ (fun E0 H0 q E' H'=>∃ i : Nat,i ≤ v.length ∧ q = v.length - i ∧ E' = aput E0 8 (I i) ∧ H' = H ++ [⟨0,2,1,(plV P K v b i ++ qT (v.length - i) 0).map I⟩]) v.length ⟨0,by omega,by omega,rfl,by simp [plV]⟩ ?_
 rintro q E' H' ⟨i,hi,rfl,rfl,rfl⟩
 have hpl:=plV_len P K v b i
 have hll : ((plV P K v b i ++ qT (v.length - i) 0).map I).length = v.length:=by simp [hpl];omega
 have htl : ((plV P K v b i ++ qT (v.length - i) 0).map I).take v.length = (plV P K v b i ++ qT (v.length - i) 0).map I:=qW (by omega)
 simp (disch:=(first|omega|(simp only [go_sem];try omega))) only [go_sem,Nat.reduceAdd,Nat.reduceEqDiff,Nat.reduceLeDiff,reduceIte,w64_id,cast_succ]
 repeat (first|(with_reducible first|refine SW.seq ?_|refine q8 ?_|refine SW.rowC ?_|refine SW.skip ?_|refine SW.exit ?_|intro _|refine And.intro (by omega) ?_)|simp (disch:=(first|omega|(simp only [go_sem];try omega))) only [go_sem,Nat.reduceAdd,Nat.reduceEqDiff,Nat.reduceLeDiff,reduceIte,w64_id,cast_succ])
 (first|refine wK rfl (fun h2=>?_) (fun h2=>?_)|refine wL rfl (fun h2=>?_) (fun h2=>?_)|refine wF rfl (fun h2=>?_) (fun h2=>?_)|refine wH rfl (fun h2=>?_) (fun h2=>?_))
 ·have hiv : i < v.length:=by omega
  have hm:=fun x=>set_midW (plV P K v b i) (v.length - (i + 1)) x
  rw [show v.length - (i + 1) + 1 = v.length - i by omega,hpl] at hm
  have hms : ∀ x,((plV P K v b i ++ qT (v.length - i) 0).map I).set i (I x) = (plV P K v b i ++ [x] ++ qT (v.length - (i + 1)) 0).map I:=fun x=>by rw [← hm,List.map_set]
  have hs:=plV_succ P K v b i
  obtain ⟨a,ha,ha2⟩:=hget v hvx i
  obtain ⟨c,hc,hc2⟩:=hget b hbx i
  rw [ha,hc,wA,wA] at hs
  generalize hX : (plV P K v b i ++ qT (v.length - i) 0).map I = X at *
  repeat (first|(with_reducible first|refine SW.seq ?_|refine q8 ?_|refine SW.rowC ?_|refine SW.skip ?_|refine SW.exit ?_|intro _|refine And.intro (by omega) ?_)|simp (disch:=(first|omega|(simp only [go_sem];try omega))) only [go_sem,Nat.reduceAdd,Nat.reduceEqDiff,Nat.reduceLeDiff,reduceIte,w64_id,cast_succ,htl,hll,ha,hc])
  (first|refine wK rfl (fun h3=>?_) (fun h3=>?_)|refine wL rfl (fun h3=>?_) (fun h3=>?_)|refine wF rfl (fun h3=>?_) (fun h3=>?_)|refine wH rfl (fun h3=>?_) (fun h3=>?_))
  ·rw [if_pos h3] at hs
   repeat (first|(with_reducible first|refine SW.seq ?_|refine q8 ?_|refine SW.rowC ?_|refine SW.skip ?_|refine SW.exit ?_|intro _|refine And.intro (by omega) ?_)|simp (disch:=(first|omega|(simp only [go_sem];try omega))) only [go_sem,Nat.reduceAdd,Nat.reduceEqDiff,Nat.reduceLeDiff,reduceIte,w64_id,cast_succ,htl,hll,ha,hc,hms])
   refine wB (v.length - (i + 1)) (by omega) ⟨i + 1,by omega,rfl,by simp [go_sem],by rw [hs];simp⟩
  ·rw [if_neg h3] at hs
   repeat (first|(with_reducible first|refine SW.seq ?_|refine q8 ?_|refine SW.rowC ?_|refine SW.skip ?_|refine SW.exit ?_|intro _|refine And.intro (by omega) ?_)|simp (disch:=(first|omega|(simp only [go_sem];try omega))) only [go_sem,Nat.reduceAdd,Nat.reduceEqDiff,Nat.reduceLeDiff,reduceIte,w64_id,cast_succ,htl,hll,ha,hc,hms])
   have hsum:=fun e=>l03Sum_g (H ++ [(⟨0,2,1,X⟩ : Blk)] ++ e) r ty P K L rest a c 1 (get_appU (get_appU hr _) e) hpb hkb ha2 hc2 (by omega)
   rw [show (((1 : Nat)) : Int) = 1 from rfl] at hsum
   refine QcallW.of hsum ?_
   repeat (first|(with_reducible first|refine SW.seq ?_|refine q8 ?_|refine SW.rowC ?_|refine SW.skip ?_|refine SW.exit ?_|intro _|refine And.intro (by omega) ?_)|simp (disch:=(first|omega|(simp only [go_sem];try omega))) only [go_sem,Nat.reduceAdd,Nat.reduceEqDiff,Nat.reduceLeDiff,reduceIte,w64_id,cast_succ,htl,hll,ha,hc,hms])
   refine wB (v.length - (i + 1)) (by omega) ⟨i + 1,by omega,rfl,by simp [go_sem],by rw [hs];simp⟩
 ·have hie : i = v.length:=by omega
  subst hie
  rw [Nat.sub_self,List.replicate_zero,List.append_nil]
  repeat (first|(with_reducible first|refine SW.seq ?_|refine q8 ?_|refine SW.rowC ?_|refine SW.skip ?_|refine SW.exit ?_|intro _|refine And.intro (by omega) ?_)|simp (disch:=(first|omega|(simp only [go_sem];try omega))) only [go_sem,Nat.reduceAdd,Nat.reduceEqDiff,Nat.reduceLeDiff,reduceIte,w64_id,cast_succ])
  refine SW.ret ?_;(try simp only [go_sem]);(first|refine FunPost.one ?_|refine FunPost.two ?_|refine qQ ?_);(try simp (disch:=(first|omega|(simp only [go_sem];try omega))) only [go_sem,Nat.reduceAdd,Nat.reduceEqDiff,Nat.reduceLeDiff,reduceIte,w64_id,cast_succ])
  have hfb:=froz_rowI (H:=H ++ [(⟨0,2,1,(plV P K v b v.length).map I⟩ : Blk)]) (b:=H.length) (r:=H.length) (ver:=0) (ty:=2) (xs:=plV P K v b v.length) (qZ _) (by simp)
  rw [hpl] at hfb
  exact GR.froz hfb ⟨rfl,rfl⟩
theorem scL_two {L : List Int} (hL : OkD (2 : Nat) L ∧ L.length = 1 + 1) (h1 : L.getD 1 0 = 1) {v : List Int} (hv : Bit v) {x : Nat} (hx : x < 2) : (x = 0 → ∀ i,(scL 2 1 L v x).getD i 0 = 0) ∧ (x = 1 → scL 2 1 L v x = v) ∧ Bit (scL 2 1 L v x) ∧ (scL 2 1 L v x).length = v.length:=by
 have key : scL 2 1 L v x = v.map fun y=>y * (x : Int):=by
  unfold scL
  refine List.map_congr_left fun y hy=>?_
  have h:=hv y hy
  obtain ⟨a,rfl⟩:=wC h.1
  rw [wA,mul_two hL h1 (by omega) hx];simp
 rw [key]
 refine ⟨?_,?_,?_,by simp⟩
 ·rintro rfl i
  rw [qE,List.getElem?_map]
  cases v[i]? <;> simp
 ·rintro rfl
  simp
 ·intro z hz
  obtain ⟨y,hy,rfl⟩:=List.mem_map.1 hz
  have h:=hv y hy
  rcases lt_two hx with rfl|rfl
  ·simp
  ·simpa using h
theorem plus_two {L : List Int} (hL : OkD (2 : Nat) L ∧ L.length = 1 + 1) (h1 : L.getD 1 0 = 1) {v r : List Int} (hv : Bit v) (hr : Bit r) {x : Nat} (hx : x < 2) : plV 2 1 v (scL 2 1 L r x) v.length = stV v r x:=by
 obtain ⟨g0,g1,gb,gl⟩:=scL_two hL h1 hr hx
 rw [plV_two hv gb]
 unfold stV
 rcases lt_two hx with rfl|rfl
 ·rw [if_pos rfl,addV_zero hv (g0 rfl)]
 ·rw [if_neg (by omega),g1 rfl]
def dbX (row v : List Int) (x : Nat) : List (List Int):=(w7 x).map (stV v row)
theorem dbX_succ (row v : List Int) (x : Nat) : dbX row v (x + 1) = dbX row v x ++ [stV v row x]:=by simp [dbX,xD]
theorem dbX_len (row v : List Int) (x : Nat) : (dbX row v x).length = x:=by simp [dbX]
theorem wds_take (w : Nat) (m : List (List Int)) (i : Nat) (h : i < m.length) : wds w (m.take (i + 1)) = (wds w (m.take i)).flatMap fun v=>dbX (m.getD i []) v 2:=by
 have e : m.getD i [] = m[i]:=by rw [qE,qB h];rfl
 rw [List.take_succ_eq_append_getElem h,wds_snoc,e];rfl
theorem flat_len (f : List Int → List (List Int)) (hf : ∀ v,(f v).length = 2) : ∀ l : List (List Int),(l.flatMap f).length = 2 * l.length
 | []=>rfl
 | x :: l=>by rw [List.flatMap_cons,wN,hf,flat_len f hf l,List.length_cons];omega
theorem l18Words_q (H : List Blk) (r ty : Nat) (L : List Int) (m : List (List Int)) (w : Nat) (hr : H[r]? = some ⟨0,ty,1,[I 2,I 1,ilS L,ilSS m]⟩) (hL : OkD (2 : Nat) L ∧ L.length = 1 + 1) (h1 : L.getD 1 0 = 1) (hk : 1 ≤ m.length ∧ m.length ≤ 8) (hw : w ≤ 32) (hm : ∀ r ∈ m,r.length = w ∧ Bit r) :
  ACalls Tryz.prog f_spec_l18Words [.pc r 0 0] H (fun z H'=>z = ilSS (wds w m) ∧ H' = H):=by
 have hrl:=(List.getElem?_eq_some_iff.1 hr).1
 have xa:=fun o e=>pc_alive (off:=o) (get_appU hr e)
 have xl:=fun o e=>pc_ld (off:=o) (get_appU hr e)
 have xa0:=fun o=>pc_alive (off:=o) hr
 have xl0:=fun o=>pc_ld (off:=o) hr
 have hget : ∀ i,i < m.length → (m.getD i []).length = w ∧ Bit (m.getD i []):=fun i hi=>by
  have e : m.getD i [] = m[i]:=by rw [qE,qB hi];rfl
  rw [e];exact hm _ (List.getElem_mem _)
 have hg0:=(hget 0 (by omega)).1
 have hsz:=fun e=>l03Size_g (H ++ e) r ty 2 1 L [ilSS m] (get_appU hr e) (by omega) (by omega)
 refine ACalls.introB s_spec_l18Words (by simp) ?_;intro hB hA;unfold c_spec_l18Words;simp (maxSteps:=1000000) (disch:=(first|omega|(simp only [go_sem];try omega))) only [go_sem,Nat.reduceAdd,Nat.reduceEqDiff,Nat.reduceLeDiff,Nat.reduceMul,Nat.reduceLT,reduceIte,Int.reduceToNat,w64_id,cast_succ]
 repeat (first|(with_reducible first|refine SW.seq ?_|refine q8 ?_|refine SW.rowC ?_|refine SW.skip ?_|refine SW.exit ?_|intro _|refine And.intro (by omega) ?_)|simp (maxSteps:=1000000) (disch:=(first|omega|(simp only [go_sem];try omega))) only [go_sem,Nat.reduceAdd,Nat.reduceEqDiff,Nat.reduceLeDiff,Nat.reduceMul,Nat.reduceLT,reduceIte,Int.reduceToNat,w64_id,cast_succ,xa,xl,xa0,xl0,hg0])
 refine (hsz _).mono ?_
 rintro z H1 ⟨rfl,rfl⟩
 repeat (first|(with_reducible first|refine SW.seq ?_|refine q8 ?_|refine SW.rowC ?_|refine SW.skip ?_|refine SW.exit ?_|intro _|refine And.intro (by omega) ?_)|simp (maxSteps:=1000000) (disch:=(first|omega|(simp only [go_sem];try omega))) only [go_sem,Nat.reduceAdd,Nat.reduceEqDiff,Nat.reduceLeDiff,Nat.reduceMul,Nat.reduceLT,reduceIte,Int.reduceToNat,w64_id,cast_succ])
 refine SW.froz (E':=[(0,.pc r 0 0),(3,ilSS (wds w (m.take 0))),(4,I 2),(5,I 0)]) hB (qZ _) (.cons _ (.old _ (by simp [go_sem];omega)) (.cons _ ?_ (.cons _ (ren_I _) (.cons _ (ren_I _) .nil)))) ?_
 ·refine ren_of_frozW ?_
  refine .nm (H.length + 1) 0 0 1 _ _ (by omega) (by simp;rfl) rfl (by simp [wds]) ?_
  rw [qO,wds_nil]
  intro j c c' h1 h2
  match j with
  | 0 =>
   simp at h1 h2
   subst h1;subst h2
   have:=froz_rowI (H:=H ++ [(⟨0,2,1,(qT w 0).map I⟩ : Blk),⟨0,tyLL,1,[AV.nm H.length 0 0 w]⟩]) (b:=H.length) (r:=H.length) (ver:=0) (ty:=2) (xs:=qT w 0) (qZ _) (by simp)
   rwa [List.length_replicate] at this
 refine wJ (fun E0 H0 q E' H'=>∃ i : Nat,i ≤ m.length ∧ q = m.length - i ∧ E' = aput (aput E0 3 (ilSS (wds w (m.take i)))) 5 (I i) ∧ H' = H) m.length ⟨0,by omega,by omega,rfl,rfl⟩ ?_
 rintro q E' H ⟨i,hi,rfl,rfl,rfl⟩
 have hWl:=wds_len w (m.take i)
 have hpw : 2 ^ (m.take i).length ≤ 2 ^ 8:=Nat.pow_le_pow_right (by omega) (by simp;omega)
 have hWm : ∀ v ∈ wds w (m.take i),v.length = w ∧ Bit v:=fun v hv=>wds_mem hv
 have hWs:=wds_take w m i
 rw [← hWl] at hpw
 clear hWl
 generalize hWW : wds w (m.take i) = WS at *
 simp (maxSteps:=1000000) (disch:=(first|omega|(simp only [go_sem];try omega))) only [go_sem,Nat.reduceAdd,Nat.reduceEqDiff,Nat.reduceLeDiff,Nat.reduceMul,Nat.reduceLT,reduceIte,Int.reduceToNat,w64_id,cast_succ]
 repeat (first|(with_reducible first|refine SW.seq ?_|refine q8 ?_|refine SW.rowC ?_|refine SW.skip ?_|refine SW.exit ?_|intro _|refine And.intro (by omega) ?_)|simp (maxSteps:=1000000) (disch:=(first|omega|(simp only [go_sem];try omega))) only [go_sem,Nat.reduceAdd,Nat.reduceEqDiff,Nat.reduceLeDiff,Nat.reduceMul,Nat.reduceLT,reduceIte,Int.reduceToNat,w64_id,cast_succ,xa0,xl0])
 (first|refine wK rfl (fun h2=>?_) (fun h2=>?_)|refine wL rfl (fun h2=>?_) (fun h2=>?_)|refine wF rfl (fun h2=>?_) (fun h2=>?_)|refine wH rfl (fun h2=>?_) (fun h2=>?_))
 ·have hil : i < m.length:=by omega
  replace hWs:=hWs hil
  obtain ⟨hrw,hrb⟩:=hget i hil
  generalize hrow : m.getD i [] = row at *
  have hbig : ∀ x ∈ row,0 ≤ x ∧ x ≤ 1000:=fun x hx=>by have:=hrb x hx;omega
  have hsc:=fun e (x : Nat) (hx : x < 2)=>l17Scale_q (H ++ e) r ty 2 1 L [ilSS m] (ilS row) row x (get_appU hr e) (by omega) (by omega) hL (by omega) (rd_ilS _ _) (by omega) hbig
  repeat (first|(with_reducible first|refine SW.seq ?_|refine q8 ?_|refine SW.rowC ?_|refine SW.skip ?_|refine SW.exit ?_|intro _|refine And.intro (by omega) ?_)|simp (maxSteps:=1000000) (disch:=(first|omega|(simp only [go_sem];try omega))) only [go_sem,Nat.reduceAdd,Nat.reduceEqDiff,Nat.reduceLeDiff,Nat.reduceMul,Nat.reduceLT,reduceIte,Int.reduceToNat,w64_id,cast_succ])
  refine wJ (fun E0 H0 q E' H'=>∃ x ver : Nat,x ≤ 2 ∧ q = 2 - x ∧ E' = aput (aput E0 6 (.nm H.length ver 0 x)) 7 (I x) ∧ H' = H ++ [⟨ver,tyLL,1,((w7 x).map (scL 2 1 L row)).map ilS⟩]) 2 ⟨0,0,by omega,by omega,rfl,rfl⟩ ?_
  rintro q E' H' ⟨x,ver,hx,rfl,rfl,rfl⟩
  have hms : (w7 (x + 1)).map (scL 2 1 L row) = (w7 x).map (scL 2 1 L row) ++ [scL 2 1 L row x]:=by simp [xD]
  have hml : ((w7 x).map (scL 2 1 L row)).length = x:=by simp
  generalize hM : (w7 x).map (scL 2 1 L row) = M at *
  have htl : (M.map ilS).take x = M.map ilS:=qW (by simp [hml])
  simp (maxSteps:=1000000) (disch:=(first|omega|(simp only [go_sem];try omega))) only [go_sem,Nat.reduceAdd,Nat.reduceEqDiff,Nat.reduceLeDiff,Nat.reduceMul,Nat.reduceLT,reduceIte,Int.reduceToNat,w64_id,cast_succ]
  repeat (first|(with_reducible first|refine SW.seq ?_|refine q8 ?_|refine SW.rowC ?_|refine SW.skip ?_|refine SW.exit ?_|intro _|refine And.intro (by omega) ?_)|simp (maxSteps:=1000000) (disch:=(first|omega|(simp only [go_sem];try omega))) only [go_sem,Nat.reduceAdd,Nat.reduceEqDiff,Nat.reduceLeDiff,Nat.reduceMul,Nat.reduceLT,reduceIte,Int.reduceToNat,w64_id,cast_succ])
  (first|refine wK rfl (fun h3=>?_) (fun h3=>?_)|refine wL rfl (fun h3=>?_) (fun h3=>?_)|refine wF rfl (fun h3=>?_) (fun h3=>?_)|refine wH rfl (fun h3=>?_) (fun h3=>?_))
  ·repeat (first|(with_reducible first|refine SW.seq ?_|refine q8 ?_|refine SW.rowC ?_|refine SW.skip ?_|refine SW.exit ?_|intro _|refine And.intro (by omega) ?_)|simp (maxSteps:=1000000) (disch:=(first|omega|(simp only [go_sem];try omega))) only [go_sem,Nat.reduceAdd,Nat.reduceEqDiff,Nat.reduceLeDiff,Nat.reduceMul,Nat.reduceLT,reduceIte,Int.reduceToNat,w64_id,cast_succ,xa,xl,hrow,htl,hml])
   have hsc2:=fun e=>hsc ([(⟨ver,tyLL,1,M.map ilS⟩ : Blk)] ++ e) x (by omega)
   simp only [← wV] at hsc2
   refine QcallW.of hsc2 ?_
   repeat (first|(with_reducible first|refine SW.seq ?_|refine q8 ?_|refine SW.rowC ?_|refine SW.skip ?_|refine SW.exit ?_|intro _|refine And.intro (by omega) ?_)|simp (maxSteps:=1000000) (disch:=(first|omega|(simp only [go_sem];try omega))) only [go_sem,Nat.reduceAdd,Nat.reduceEqDiff,Nat.reduceLeDiff,Nat.reduceMul,Nat.reduceLT,reduceIte,Int.reduceToNat,w64_id,cast_succ,xa,xl,hrow,htl,hml])
   refine SLoop.nextT 1 (2 - (x + 1)) hB (by omega) (by omega) (by simp) ?_ ?_ ⟨x + 1,ver + 1,by omega,rfl,?_,?_⟩
   ·(simp only [go_sem,Nat.reduceAdd,Nat.reduceEqDiff,reduceIte,go_sem,and_self,and_true,true_and,implies_true,qI,qO,and_true,true_and];try omega)
   ·(simp only [go_sem,Nat.reduceAdd,Nat.reduceEqDiff,reduceIte,go_sem,and_self,and_true,true_and,implies_true,qI,qO,and_true,true_and];try omega)
   ·simp [go_sem]
   ·rw [hms];simp
  ·have : x = 2:=by omega
   subst this
   repeat (first|(with_reducible first|refine SW.seq ?_|refine q8 ?_|refine SW.rowC ?_|refine SW.skip ?_|refine SW.exit ?_|intro _|refine And.intro (by omega) ?_)|simp (maxSteps:=1000000) (disch:=(first|omega|(simp only [go_sem];try omega))) only [go_sem,Nat.reduceAdd,Nat.reduceEqDiff,Nat.reduceLeDiff,Nat.reduceMul,Nat.reduceLT,reduceIte,Int.reduceToNat,w64_id,cast_succ])
   have hM2 : M = [scL 2 1 L row 0,scL 2 1 L row 1]:=by rw [← hM];rfl
   have hMg : ∀ x : Nat,x < 2 → M.getD x [] = scL 2 1 L row x:=fun x hx=>by
    rw [hM2]
    rcases lt_two hx with rfl|rfl <;> rfl
   clear hms hM
   have hfl:=flat_len (fun v=>dbX row v 2) (fun v=>dbX_len _ _ _)
   refine wJ (fun E0 H0 q E' H'=>∃ (pre post : List (List Int)) (vn : Nat),WS = pre ++ post ∧ q = post.length ∧ E' = aput (aput E0 8 (.nm (H.length + 1) vn 0 (pre.flatMap fun v=>dbX row v 2).length)) 9 (I pre.length) ∧ H' = H ++ [⟨ver,tyLL,1,M.map ilS⟩,⟨vn,tyLL,1,(pre.flatMap fun v=>dbX row v 2).map ilS⟩]) WS.length ⟨[],WS,0,rfl,rfl,rfl,rfl⟩ ?_
   rintro q E' H' ⟨pre,post,vn,hpp,rfl,rfl,rfl⟩
   have hfs : ∀ v,(pre ++ [v]).flatMap (fun v=>dbX row v 2) = pre.flatMap (fun v=>dbX row v 2) ++ dbX row v 2:=fun v=>by simp
   have hfl1:=hfl pre
   have hpl : pre.length ≤ WS.length:=by rw [hpp];simp
   generalize hN : pre.flatMap (fun v=>dbX row v 2) = N at *
   simp (maxSteps:=1000000) (disch:=(first|omega|(simp only [go_sem];try omega))) only [go_sem,Nat.reduceAdd,Nat.reduceEqDiff,Nat.reduceLeDiff,Nat.reduceMul,Nat.reduceLT,reduceIte,Int.reduceToNat,w64_id,cast_succ]
   repeat (first|(with_reducible first|refine SW.seq ?_|refine q8 ?_|refine SW.rowC ?_|refine SW.skip ?_|refine SW.exit ?_|intro _|refine And.intro (by omega) ?_)|simp (maxSteps:=1000000) (disch:=(first|omega|(simp only [go_sem];try omega))) only [go_sem,Nat.reduceAdd,Nat.reduceEqDiff,Nat.reduceLeDiff,Nat.reduceMul,Nat.reduceLT,reduceIte,Int.reduceToNat,w64_id,cast_succ])
   (first|refine wK rfl (fun h4=>?_) (fun h4=>?_)|refine wL rfl (fun h4=>?_) (fun h4=>?_)|refine wF rfl (fun h4=>?_) (fun h4=>?_)|refine wH rfl (fun h4=>?_) (fun h4=>?_))
   ·obtain ⟨v,post,rfl,hg,-⟩:=consOf (d:=[]) hpp (by omega)
    obtain ⟨hvw,hvb⟩:=hWm v (by rw [hpp];simp)
    repeat (first|(with_reducible first|refine SW.seq ?_|refine q8 ?_|refine SW.rowC ?_|refine SW.skip ?_|refine SW.exit ?_|intro _|refine And.intro (by omega) ?_)|simp (maxSteps:=1000000) (disch:=(first|omega|(simp only [go_sem];try omega))) only [go_sem,Nat.reduceAdd,Nat.reduceEqDiff,Nat.reduceLeDiff,Nat.reduceMul,Nat.reduceLT,reduceIte,Int.reduceToNat,w64_id,cast_succ])
    refine wJ (fun E0 H0 q E' H'=>∃ x vn : Nat,x ≤ 2 ∧ q = 2 - x ∧ E' = aput (aput E0 8 (.nm (H.length + 1) vn 0 (N ++ dbX row v x).length)) 10 (I x) ∧ H' = H ++ [⟨ver,tyLL,1,M.map ilS⟩,⟨vn,tyLL,1,(N ++ dbX row v x).map ilS⟩]) 2 ⟨0,vn,by omega,by omega,by simp [go_sem,dbX],by simp [dbX]⟩ ?_
    rintro q E' H' ⟨x,vn,hx,rfl,rfl,rfl⟩
    have hns : N ++ dbX row v (x + 1) = (N ++ dbX row v x) ++ [stV v row x]:=by rw [dbX_succ,wV]
    have hnl : (N ++ dbX row v x).length = N.length + x:=by rw [wN,dbX_len]
    have hpl2:=fun hx=>plus_two hL h1 hvb hrb (x:=x) hx
    generalize hQ : N ++ dbX row v x = Q at *
    have htl2 : (Q.map ilS).take Q.length = Q.map ilS:=qW (by simp)
    simp (maxSteps:=1000000) (disch:=(first|omega|(simp only [go_sem];try omega))) only [go_sem,Nat.reduceAdd,Nat.reduceEqDiff,Nat.reduceLeDiff,Nat.reduceMul,Nat.reduceLT,reduceIte,Int.reduceToNat,w64_id,cast_succ]
    repeat (first|(with_reducible first|refine SW.seq ?_|refine q8 ?_|refine SW.rowC ?_|refine SW.skip ?_|refine SW.exit ?_|intro _|refine And.intro (by omega) ?_)|simp (maxSteps:=1000000) (disch:=(first|omega|(simp only [go_sem];try omega))) only [go_sem,Nat.reduceAdd,Nat.reduceEqDiff,Nat.reduceLeDiff,Nat.reduceMul,Nat.reduceLT,reduceIte,Int.reduceToNat,w64_id,cast_succ])
    (first|refine wK rfl (fun h5=>?_) (fun h5=>?_)|refine wL rfl (fun h5=>?_) (fun h5=>?_)|refine wF rfl (fun h5=>?_) (fun h5=>?_)|refine wH rfl (fun h5=>?_) (fun h5=>?_))
    ·have hx2 : x < 2:=by omega
     obtain ⟨-,-,hsb,hsl⟩:=scL_two hL h1 hrb hx2
     have hPl:=fun e=>l18Plus_q (H ++ ([(⟨ver,tyLL,1,M.map ilS⟩ : Blk),⟨vn,tyLL,1,Q.map ilS⟩] ++ e)) r ty 2 1 L [ilSS m] v (scL 2 1 L row x) (get_appU hr _) (by omega) (by omega) (by omega) (by omega) (fun z hz=>by have:=hvb z hz;omega) (fun z hz=>by have:=hsb z hz;omega)
     rw [hpl2 hx2] at hPl
     simp only [← wV] at hPl
     have hmx : (List.take 2 (M.map ilS))[x]? = some (ilS (scL 2 1 L row x)):=by
      rw [hM2]
      rcases lt_two hx2 with rfl|rfl <;> rfl
     repeat (first|(with_reducible first|refine SW.seq ?_|refine q8 ?_|refine SW.rowC ?_|refine SW.skip ?_|refine SW.exit ?_|intro _|refine And.intro (by omega) ?_)|simp (maxSteps:=1000000) (disch:=(first|omega|(simp only [go_sem];try omega))) only [go_sem,Nat.reduceAdd,Nat.reduceEqDiff,Nat.reduceLeDiff,Nat.reduceMul,Nat.reduceLT,reduceIte,Int.reduceToNat,w64_id,cast_succ,xa,xl,hg,htl2,hmx,hml])
     refine QcallW.of hPl ?_
     repeat (first|(with_reducible first|refine SW.seq ?_|refine q8 ?_|refine SW.rowC ?_|refine SW.skip ?_|refine SW.exit ?_|intro _|refine And.intro (by omega) ?_)|simp (maxSteps:=1000000) (disch:=(first|omega|(simp only [go_sem];try omega))) only [go_sem,Nat.reduceAdd,Nat.reduceEqDiff,Nat.reduceLeDiff,Nat.reduceMul,Nat.reduceLT,reduceIte,Int.reduceToNat,w64_id,cast_succ,htl2])
     refine SLoop.nextT 2 (2 - (x + 1)) hB (by omega) (by omega) (by simp) ?_ ?_ ⟨x + 1,vn + 1,by omega,rfl,?_,?_⟩
     ·(simp only [go_sem,Nat.reduceAdd,Nat.reduceEqDiff,reduceIte,go_sem,and_self,and_true,true_and,implies_true,qI,qO,and_true,true_and];try omega)
     ·(simp only [go_sem,Nat.reduceAdd,Nat.reduceEqDiff,reduceIte,go_sem,and_self,and_true,true_and,implies_true,qI,qO,and_true,true_and];try omega)
     ·simp [go_sem,dbX_len,hnl];omega
     ·rw [hns];simp
    ·have : x = 2:=by omega
     subst this
     repeat (first|(with_reducible first|refine SW.seq ?_|refine q8 ?_|refine SW.rowC ?_|refine SW.skip ?_|refine SW.exit ?_|intro _|refine And.intro (by omega) ?_)|simp (maxSteps:=1000000) (disch:=(first|omega|(simp only [go_sem];try omega))) only [go_sem,Nat.reduceAdd,Nat.reduceEqDiff,Nat.reduceLeDiff,Nat.reduceMul,Nat.reduceLT,reduceIte,Int.reduceToNat,w64_id,cast_succ])
     refine wB post.length (by simp) ⟨pre ++ [v],post,vn,by simp [hpp],rfl,?_,?_⟩
     ·rw [hfs,hQ];simp [go_sem]
     ·rw [hfs,hQ]
   ·obtain ⟨rfl,rfl⟩:=nilOf hpp (by omega)
    repeat (first|(with_reducible first|refine SW.seq ?_|refine q8 ?_|refine SW.rowC ?_|refine SW.skip ?_|refine SW.exit ?_|intro _|refine And.intro (by omega) ?_)|simp (maxSteps:=1000000) (disch:=(first|omega|(simp only [go_sem];try omega))) only [go_sem,Nat.reduceAdd,Nat.reduceEqDiff,Nat.reduceLeDiff,Nat.reduceMul,Nat.reduceLT,reduceIte,Int.reduceToNat,w64_id,cast_succ])
    rw [← hWs] at hN
    refine SLoop.nextFz (m.length - (i + 1)) [(0,.pc r 0 0),(3,ilSS N),(4,I 2),(5,I ((i + 1 : Nat) : Int))] hB (qZ _) (by omega) ?_ ⟨i + 1,by omega,rfl,?_,rfl⟩
    ·simp only [go_sem,Nat.reduceEqDiff,reduceIte]
     refine .cons _ (.old _ (by simp [go_sem];omega)) (.cons _ (ren_of_frozW (froz_rowS (r:=H.length + 1) (ver:=vn) (ty:=tyLL) (by omega) (by simp))) (.cons _ (ren_I _) (.cons _ (ren_I _) .nil)))
    ·rw [hN]
 ·have : i = m.length:=by omega
  subst this
  rw [List.take_length] at hWW
  subst hWW
  repeat (first|(with_reducible first|refine SW.seq ?_|refine q8 ?_|refine SW.rowC ?_|refine SW.skip ?_|refine SW.exit ?_|intro _|refine And.intro (by omega) ?_)|simp (maxSteps:=1000000) (disch:=(first|omega|(simp only [go_sem];try omega))) only [go_sem,Nat.reduceAdd,Nat.reduceEqDiff,Nat.reduceLeDiff,Nat.reduceMul,Nat.reduceLT,reduceIte,Int.reduceToNat,w64_id,cast_succ])
  refine SW.ret ?_;(try simp only [go_sem]);(first|refine FunPost.one ?_|refine FunPost.two ?_|refine qQ ?_);(try simp (maxSteps:=1000000) (disch:=(first|omega|(simp only [go_sem];try omega))) only [go_sem,Nat.reduceAdd,Nat.reduceEqDiff,Nat.reduceLeDiff,Nat.reduceMul,Nat.reduceLT,reduceIte,Int.reduceToNat,w64_id,cast_succ]);(first|(with_reducible refine GR.drop ?_ ?_;(simp only [go_sem,and_self,and_true,true_and,implies_true,qI,qO]))|refine GR.of ?_);refine ⟨?_,rfl⟩;(try with_reducible rfl)
end Go.Proofs.YtclfmfabcnbbpaaGreat