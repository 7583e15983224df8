/- Digits, numbers, remainders (the reference's fields, all of them). -/
import Derived.Test.YtclfmfabcnbbpaaGreatProg
import Derived.KernelRfl
import Derived.Test.YtclfmfabcnbbpaaGreatzU1
import Derived.Test.YtclfmfabcnbbpaaGreatzT0
import Derived.Test.YtclfmfabcnbbpaaGreatzOW
import Derived.Test.YtclfmfabcnbbpaaGreatzNM
import Derived.Test.YtclfmfabcnbbpaaGreatzK10
set_option linter.unusedSimpArgs false
set_option linter.unusedVariables false
set_option maxHeartbeats 4000000
set_option maxRecDepth 100000
open Go.Operand renaming tmp→t'
open Option renaming none→n',some→s'
open List renaming length_cons→qD,take_succ_cons→qI,take_zero→qO,take_of_length_le→qW,mem_of_mem_drop→y6,length_take→wT
open Int renaming mul_nonneg→xV
open Nat renaming le_trans→xH,sub_self→wS
open Go.Av.SW renaming block→q8,loopE→wJ,condD→wK,condN→wL,condNB→wF,condB→wH
open Go.Av.SLoop renaming next→wB
open Go.Av.FunPost renaming one→qP,two→qS,three→qQ
namespace Go.Proofs.YtclfmfabcnbbpaaGreat
open Go.Av
abbrev f_spec_l03Power : Nat:=57
def c_spec_l03Power : SC :=
 .seq (.reg [⟨s' 4,.mv (.const (.int .i64 0)),n'⟩] [0,1]) (.seq (.reg [⟨s' 5,.mv (.const (.int .i64 1)),n'⟩] [0,1,5]) (.seq (.block 0 (.loop [0,1,5] (.seq (.seq (.reg [
 ⟨s' 6,.mv (t' 1),n'⟩,⟨s' 7,.bin .gtr (t' 6) (.const (.int .i64 0)),n'⟩] [0,1,5,7]) (.cond (t' 7) (.skip) (.exit 0))) (.seq (.block 1 (.reg [⟨s' 10,.mv (t' 5),n'⟩,
 ⟨s' 11,.mv (t' 0),n'⟩,⟨s' 12,.bin .mul (t' 10) (t' 11),n'⟩,⟨s' 5,.mv (t' 12),n'⟩] [0,1,5])) (.reg [⟨s' 8,.mv (t' 1),n'⟩,⟨s' 9,.bin .sub (t' 8) (.const (.int .i64 1)),n'⟩,
 ⟨s' 1,.mv (t' 9),n'⟩] [0,1,5]))))) (.seq (.reg [⟨s' 13,.mv (t' 5),n'⟩,⟨s' 4,.mv (t' 13),n'⟩] [4]) (.ret))))
theorem s_spec_l03Power : stripF Tryz.prog 57 [[0,1],[0,1,5],[0,1,5],[0,1,5,7],[0,1,5],[0,1,5],[4]] = some (c_spec_l03Power,[.tmp 4],14):=by kernel_rfl
abbrev f_spec_l03Digits : Nat:=96
def c_spec_l03Digits : SC :=
 .seq (.reg [⟨s' 6,.mv (.const (.slice none 0 0)),n'⟩] [0,1,2]) (.seq (.reg [⟨s' 8,.bslice 2 1 0 [] [],n'⟩,⟨s' 7,.mv (t' 8),n'⟩] [0,1,2,7]) (.seq (.block 0 (.loop [0,1,2,7]
 (.seq (.seq (.reg [⟨s' 9,.mv (t' 2),n'⟩,⟨s' 10,.bin .gtr (t' 9) (.const (.int .i64 0)),n'⟩] [0,1,2,7,10]) (.cond (t' 10) (.skip) (.exit 0))) (.seq (.block 1 (.seq (.reg [
 ⟨s' 13,.mv (t' 7),n'⟩,⟨s' 14,.mv (t' 0),n'⟩,⟨s' 15,.mv (t' 1),n'⟩,⟨s' 16,.bin .rem (t' 14) (t' 15),n'⟩,⟨s' 17,.bslice 2 1 1 [(.int .i64 0)] [(0,(t' 16))],n'⟩,
 ⟨s' 18,.app 2 1 8 (t' 13) (t' 17),n'⟩,⟨s' 7,.mv (t' 18),n'⟩] [0,1,2,7]) (.reg [⟨s' 19,.mv (t' 0),n'⟩,⟨s' 20,.mv (t' 1),n'⟩,⟨s' 21,.bin .quo (t' 19) (t' 20),n'⟩,
 ⟨s' 0,.mv (t' 21),n'⟩] [0,1,2,7]))) (.reg [⟨s' 11,.mv (t' 2),n'⟩,⟨s' 12,.bin .sub (t' 11) (.const (.int .i64 1)),n'⟩,⟨s' 2,.mv (t' 12),n'⟩] [0,1,2,7]))))) (.seq (.reg [
 ⟨s' 22,.mv (t' 7),n'⟩,⟨s' 6,.mv (t' 22),n'⟩] [6]) (.ret))))
theorem s_spec_l03Digits : stripF Tryz.prog 96 [[0,1,2],[0,1,2,7],[0,1,2,7],[0,1,2,7,10],[0,1,2,7],[0,1,2,7],[0,1,2,7],[6]] = some (c_spec_l03Digits,[.tmp 6],23):=by kernel_rfl
abbrev f_spec_l03Rest : Nat:=97
def c_spec_l03Rest : SC :=
 .seq (.reg [⟨s' 6,.mv (.const (.slice none 0 0)),n'⟩] [0,1,2]) (.seq (.reg [⟨s' 13,.mv (t' 0),n'⟩,⟨s' 14,.call 99 [(t' 13)],n'⟩,⟨s' 7,.mv (t' 14),n'⟩] [1,2,7]) (.seq (.reg [
 ⟨s' 15,.mv (t' 1),n'⟩,⟨s' 16,.len (t' 15),n'⟩,⟨s' 8,.mv (t' 16),n'⟩] [1,2,7,8]) (.seq (.seq (.reg [⟨s' 17,.mv (t' 7),n'⟩,⟨s' 18,.len (t' 17),n'⟩,
 ⟨s' 19,.bin .sub (t' 18) (.const (.int .i64 1)),n'⟩,⟨s' 9,.mv (t' 19),n'⟩] [1,2,7,8,9]) (.block 0 (.loop [1,2,7,8,9] (.seq (.seq (.reg [⟨s' 20,.mv (t' 9),n'⟩,
 ⟨s' 21,.mv (t' 8),n'⟩,⟨s' 22,.bin .sub (t' 21) (.const (.int .i64 1)),n'⟩,⟨s' 23,.bin .geq (t' 20) (t' 22),n'⟩] [1,2,7,8,9,23]) (.cond (t' 23) (.skip) (.exit 0)))
 (.seq (.block 1 (.seq (.reg [⟨s' 26,.mv (t' 7),n'⟩,⟨s' 27,.mv (t' 9),n'⟩,⟨s' 28,.iaddr 1 (t' 26) (t' 27),n'⟩,⟨s' 29,.load 1 false (t' 28),n'⟩,
 ⟨s' 10,.mv (t' 29),n'⟩] [1,2,7,8,9,10]) (.seq (.reg [⟨s' 11,.mv (.const (.int .i64 0)),n'⟩] [1,2,7,8,9,10,11]) (.block 2 (.loop [1,2,7,8,9,10,11] (.seq (.seq (.reg [
 ⟨s' 30,.mv (t' 11),n'⟩,⟨s' 31,.mv (t' 8),n'⟩,⟨s' 32,.bin .lss (t' 30) (t' 31),n'⟩] [1,2,7,8,9,10,11,32]) (.cond (t' 32) (.skip) (.exit 2))) (.seq (.block 3 (.seq (.reg [
 ⟨s' 35,.mv (t' 9),n'⟩,⟨s' 36,.mv (t' 8),n'⟩,⟨s' 37,.bin .sub (t' 35) (t' 36),n'⟩,⟨s' 38,.bin .add (t' 37) (.const (.int .i64 1)),n'⟩,⟨s' 39,.mv (t' 11),n'⟩,
 ⟨s' 40,.bin .add (t' 38) (t' 39),n'⟩,⟨s' 12,.mv (t' 40),n'⟩] [1,2,7,8,9,10,11,12]) (.reg [⟨s' 41,.mv (t' 7),n'⟩,⟨s' 42,.mv (t' 12),n'⟩,⟨s' 43,.mv (t' 7),n'⟩,
 ⟨s' 44,.mv (t' 12),n'⟩,⟨s' 45,.iaddr 1 (t' 43) (t' 44),n'⟩,⟨s' 46,.load 1 false (t' 45),n'⟩,⟨s' 47,.mv (t' 2),n'⟩,⟨s' 48,.mv (t' 10),n'⟩,⟨s' 49,.bin .sub (t' 47) (t' 48),n'⟩,
 ⟨s' 50,.mv (t' 1),n'⟩,⟨s' 51,.mv (t' 11),n'⟩,⟨s' 52,.iaddr 1 (t' 50) (t' 51),n'⟩,⟨s' 53,.load 1 false (t' 52),n'⟩,⟨s' 54,.bin .mul (t' 49) (t' 53),n'⟩,
 ⟨s' 55,.bin .add (t' 46) (t' 54),n'⟩,⟨s' 56,.mv (t' 2),n'⟩,⟨s' 57,.bin .rem (t' 55) (t' 56),n'⟩,⟨s' 58,.iaddr 1 (t' 41) (t' 42),n'⟩,
 ⟨n',.store 1 (t' 58) (t' 57),n'⟩] [1,2,7,8,9,10,11]))) (.reg [⟨s' 33,.mv (t' 11),n'⟩,⟨s' 34,.bin .add (t' 33) (.const (.int .i64 1)),n'⟩,
 ⟨s' 11,.mv (t' 34),n'⟩] [1,2,7,8,9,10,11])))))))) (.reg [⟨s' 24,.mv (t' 9),n'⟩,⟨s' 25,.bin .sub (t' 24) (.const (.int .i64 1)),n'⟩,⟨s' 9,.mv (t' 25),n'⟩] [1,2,7,8,9]))))))
 (.seq (.block 4 (.loop [7,8] (.seq (.seq (.reg [⟨s' 59,.mv (t' 7),n'⟩,⟨s' 60,.len (t' 59),n'⟩,⟨s' 61,.mv (t' 8),n'⟩,⟨s' 62,.bin .geq (t' 60) (t' 61),n'⟩] [7,8,62]) (.cond (t' 62)
 (.skip) (.exit 4))) (.block 5 (.reg [⟨s' 63,.mv (t' 7),n'⟩,⟨s' 64,.mv (t' 7),n'⟩,⟨s' 65,.len (t' 64),n'⟩,⟨s' 66,.bin .sub (t' 65) (.const (.int .i64 1)),n'⟩,
 ⟨s' 67,.slc 1 (t' 63) none (some (t' 66)),n'⟩,⟨s' 7,.mv (t' 67),n'⟩] [7,8]))))) (.seq (.reg [⟨s' 68,.mv (t' 7),n'⟩,⟨s' 6,.mv (t' 68),n'⟩] [6]) (.ret))))))
theorem s_spec_l03Rest : stripF Tryz.prog 97 [[0,1,2],[1,2,7],[1,2,7,8],[1,2,7,8,9],[1,2,7,8,9],[1,2,7,8,9,23],[1,2,7,8,9,10],[1,2,7,8,9,10,11],[1,2,7,8,9,10,11],[1,2,7,8,9,10,11,32],[1,2,7,8,9,10,11,12],[1,2,7,8,9,10,11],[1,2,7,8,9,10,11],[1,2,7,8,9],[7,8],[7,8,62],[7,8],[6]] = some (c_spec_l03Rest,[.tmp 6],69):=by kernel_rfl
abbrev f_spec_l03Number : Nat:=98
def c_spec_l03Number : SC :=
 .seq (.reg [⟨s' 4,.mv (.const (.int .i64 0)),n'⟩] [0,1]) (.seq (.reg [⟨s' 5,.mv (.const (.int .i64 0)),n'⟩] [0,1,5]) (.seq (.seq (.reg [⟨s' 7,.mv (t' 0),n'⟩,
 ⟨s' 8,.len (t' 7),n'⟩,⟨s' 9,.bin .sub (t' 8) (.const (.int .i64 1)),n'⟩,⟨s' 6,.mv (t' 9),n'⟩] [0,1,5,6]) (.block 0 (.loop [0,1,5,6] (.seq (.seq (.reg [⟨s' 10,.mv (t' 6),n'⟩,
 ⟨s' 11,.bin .geq (t' 10) (.const (.int .i64 0)),n'⟩] [0,1,5,6,11]) (.cond (t' 11) (.skip) (.exit 0))) (.seq (.block 1 (.reg [⟨s' 14,.mv (t' 5),n'⟩,⟨s' 15,.mv (t' 1),n'⟩,
 ⟨s' 16,.bin .mul (t' 14) (t' 15),n'⟩,⟨s' 17,.mv (t' 0),n'⟩,⟨s' 18,.mv (t' 6),n'⟩,⟨s' 19,.iaddr 1 (t' 17) (t' 18),n'⟩,⟨s' 20,.load 1 false (t' 19),n'⟩,
 ⟨s' 21,.bin .add (t' 16) (t' 20),n'⟩,⟨s' 5,.mv (t' 21),n'⟩] [0,1,5,6])) (.reg [⟨s' 12,.mv (t' 6),n'⟩,⟨s' 13,.bin .sub (t' 12) (.const (.int .i64 1)),n'⟩,
 ⟨s' 6,.mv (t' 13),n'⟩] [0,1,5,6])))))) (.seq (.reg [⟨s' 22,.mv (t' 5),n'⟩,⟨s' 4,.mv (t' 22),n'⟩] [4]) (.ret))))
theorem s_spec_l03Number : stripF Tryz.prog 98 [[0,1],[0,1,5],[0,1,5,6],[0,1,5,6],[0,1,5,6,11],[0,1,5,6],[0,1,5,6],[4]] = some (c_spec_l03Number,[.tmp 4],23):=by kernel_rfl
def numL (p : Int) : List Int → Int
 | []=>0
 | x :: xs=>numL p xs * p + x
def digL (p : Nat) : Nat → Nat → List Int
 | 0,_=>[]
 | n + 1,a=>((a % p : Nat) : Int) :: digL p n (a / p)
def OkD (p : Int) (xs : List Int) : Prop:=∀ z ∈ xs,0 ≤ z ∧ z < p
theorem digL_len (p : Nat) : ∀ n a,(digL p n a).length = n
 | 0,_=>rfl
 | n + 1,a=>by rw [digL,qD,digL_len p n]
theorem digL_ok {p : Nat} (hp : 1 ≤ p) : ∀ n a,OkD p (digL p n a)
 | 0,_=>fun z hz=>by simp [digL] at hz
 | n + 1,a=>fun z hz=>by
  rw [digL] at hz
  rcases List.mem_cons.1 hz with rfl|h
  ·have:=Nat.mod_lt a (show 0 < p by omega)
   omega
  ·exact digL_ok hp n _ z h
theorem numL_bd {p : Nat} (hp : 1 ≤ p) : ∀ (xs : List Int),OkD p xs → 0 ≤ numL p xs ∧ numL p xs + 1 ≤ ((p ^ xs.length : Nat) : Int)
 | [],_=>⟨Int.le_refl _,by simp [numL]⟩
 | x :: xs,h=>by
  obtain ⟨h1,h2⟩:=numL_bd hp xs fun z hz=>h z (List.mem_cons_of_mem _ hz)
  have h3:=h x List.mem_cons_self
  have h4 : (numL p xs + 1) * (p : Int) ≤ ((p ^ xs.length : Nat) : Int) * (p : Int):=Int.mul_le_mul_of_nonneg_right h2 (by omega)
  have h5 : 0 ≤ numL p xs * (p : Int):=xV h1 (by omega)
  rw [Int.add_mul,Int.one_mul] at h4
  have h6 : ((p ^ xs.length : Nat) : Int) * (p : Int) = ((p ^ (xs.length + 1) : Nat) : Int):=by rw [Nat.pow_succ];simp
  rw [qD,← h6]
  unfold numL
  omega
theorem pow_le6 {p n : Nat} (hp : p ≤ 64) (hn : n ≤ 6) : p ^ n ≤ 68719476736:=by
 refine xH (Nat.pow_le_pow_left hp n) ?_
 exact xH (Nat.pow_le_pow_right (by omega) hn) (by decide)
theorem l03Power_fn (p k : Nat) (h1 : 1 ≤ p) (hp : p ≤ 64) (hk : k ≤ 6) : PFn Tryz.prog f_spec_l03Power [I p,I k] (I (p ^ k : Nat)):=by
 intro H;refine ACalls.introB s_spec_l03Power (by simp) ?_;intro hB hA;unfold c_spec_l03Power;simp (disch:=(first|omega|(simp only [go_sem];try omega))) only [go_sem,Nat.reduceAdd,Nat.reduceEqDiff,Nat.reduceLeDiff,reduceIte,w64_id,cast_succ]
 repeat (first|(with_reducible first|refine SW.seq ?_|refine q8 ?_|refine SW.rowC ?_|refine SW.skip ?_|refine SW.exit ?_|intro _|refine And.intro (by omega) ?_)|simp (disch:=(first|omega|(simp only [go_sem];try omega))) only [go_sem,Nat.reduceAdd,Nat.reduceEqDiff,Nat.reduceLeDiff,reduceIte,w64_id,cast_succ])
 refine wJ (fun E0 H0 q E' H'=>∃ i,i ≤ k ∧ q = k - i ∧ E' = aput (aput E0 1 (I (k - i : Nat))) 5 (I (p ^ i : Nat)) ∧ H' = H0) k ⟨0,by omega,by omega,by simp [go_sem],rfl⟩ ?_
 rintro q E' H' ⟨i,hi,rfl,rfl,rfl⟩
 simp (disch:=(first|omega|(simp only [go_sem];try omega))) only [go_sem,Nat.reduceAdd,Nat.reduceEqDiff,Nat.reduceLeDiff,reduceIte,w64_id,cast_succ]
 repeat (first|(with_reducible first|refine SW.seq ?_|refine q8 ?_|refine SW.rowC ?_|refine SW.skip ?_|refine SW.exit ?_|intro _|refine And.intro (by omega) ?_)|simp (disch:=(first|omega|(simp only [go_sem];try omega))) only [go_sem,Nat.reduceAdd,Nat.reduceEqDiff,Nat.reduceLeDiff,reduceIte,w64_id,cast_succ])
 (first|refine wK rfl (fun h2=>?_) (fun h2=>?_)|refine wL rfl (fun h2=>?_) (fun h2=>?_)|refine wF rfl (fun h2=>?_) (fun h2=>?_)|refine wH rfl (fun h2=>?_) (fun h2=>?_))
 ·have hik : i < k:=by omega
  have e1 : ((p ^ i : Nat) : Int) * (p : Int) = ((p ^ (i + 1) : Nat) : Int):=by rw [Nat.pow_succ];simp
  have e2 : ((k - i : Nat) : Int) - 1 = ((k - (i + 1) : Nat) : Int):=by omega
  have:=pow_le6 hp (show i + 1 ≤ 6 by omega)
  generalize hP1 : p ^ (i + 1) = P1 at *
  repeat (first|(with_reducible first|refine SW.seq ?_|refine q8 ?_|refine SW.rowC ?_|refine SW.skip ?_|refine SW.exit ?_|intro _|refine And.intro (by omega) ?_)|simp (disch:=(first|omega|(simp only [go_sem];try omega))) only [go_sem,Nat.reduceAdd,Nat.reduceEqDiff,Nat.reduceLeDiff,reduceIte,w64_id,cast_succ,e1,e2])
  refine wB (k - (i + 1)) (by omega) ⟨i + 1,by omega,rfl,by simp [go_sem];rw [← hP1];simp,rfl⟩
 ·have : i = k:=by omega
  subst this
  repeat (first|(with_reducible first|refine SW.seq ?_|refine q8 ?_|refine SW.rowC ?_|refine SW.skip ?_|refine SW.exit ?_|intro _|refine And.intro (by omega) ?_)|simp (disch:=(first|omega|(simp only [go_sem];try omega))) only [go_sem,Nat.reduceAdd,Nat.reduceEqDiff,Nat.reduceLeDiff,reduceIte,w64_id,cast_succ])
  refine SW.ret ?_;(try simp only [go_sem]);(first|refine qP ?_|refine qS ?_|refine qQ ?_);(try simp (disch:=(first|omega|(simp only [go_sem];try omega))) only [go_sem,Nat.reduceAdd,Nat.reduceEqDiff,Nat.reduceLeDiff,reduceIte,w64_id,cast_succ]);(first|(with_reducible refine GR.drop ?_ ?_;(simp only [go_sem,and_self,and_true,true_and,implies_true,qI,qO]))|refine GR.of ?_);refine ⟨?_,rfl⟩;(try with_reducible rfl)
theorem l03Digits_new (H : List Blk) (a p n : Nat) (h1 : 1 ≤ p) (hp : p ≤ 64) (ha : a ≤ 100000) (hn : n ≤ 64) : ACalls Tryz.prog f_spec_l03Digits [I a,I p,I n] H (fun r H'=>∃ ver,r = .nm H.length ver 0 n ∧ H' = H ++ [⟨ver,2,1,(digL p n a).map I⟩]):=by
 refine ACalls.introB s_spec_l03Digits (by simp) ?_;intro hB hA;unfold c_spec_l03Digits;simp (disch:=(first|omega|(simp only [go_sem];try omega))) only [go_sem,Nat.reduceAdd,Nat.reduceEqDiff,Nat.reduceLeDiff,reduceIte,w64_id,cast_succ]
 repeat (first|(with_reducible first|refine SW.seq ?_|refine q8 ?_|refine SW.rowC ?_|refine SW.skip ?_|refine SW.exit ?_|intro _|refine And.intro (by omega) ?_)|simp (disch:=(first|omega|(simp only [go_sem];try omega))) only [go_sem,Nat.reduceAdd,Nat.reduceEqDiff,Nat.reduceLeDiff,reduceIte,w64_id,cast_succ])
 generalize hD : digL p n a = D
 refine wJ (fun E0 H0 q E' H'=>∃ (i ver b : Nat) (acc : List Int),i ≤ n ∧ q = n - i ∧ acc.length = i ∧ D = acc ++ digL p (n - i) b ∧ b ≤ 100000 ∧ E' = aput (aput (aput E0 0 (I b)) 2 (I (n - i : Nat))) 7 (.nm H.length ver 0 i) ∧ H' = H ++ [⟨ver,2,1,acc.map I⟩]) n ⟨0,0,a,[],by omega,by omega,rfl,by rw [← hD];rfl,ha,by simp [go_sem],rfl⟩ ?_
 rintro q E' H' ⟨i,ver,b,acc,hi,rfl,rfl,hA,hb,rfl,rfl⟩
 have hp0 : ¬ (p : Int) = 0:=by omega
 simp (disch:=(first|omega|(simp only [go_sem];try omega))) only [go_sem,Nat.reduceAdd,Nat.reduceEqDiff,Nat.reduceLeDiff,reduceIte,w64_id,cast_succ]
 repeat (first|(with_reducible first|refine SW.seq ?_|refine q8 ?_|refine SW.rowC ?_|refine SW.skip ?_|refine SW.exit ?_|intro _|refine And.intro (by omega) ?_)|simp (disch:=(first|omega|(simp only [go_sem];try omega))) only [go_sem,Nat.reduceAdd,Nat.reduceEqDiff,Nat.reduceLeDiff,reduceIte,w64_id,cast_succ])
 (first|refine wK rfl (fun h2=>?_) (fun h2=>?_)|refine wL rfl (fun h2=>?_) (fun h2=>?_)|refine wF rfl (fun h2=>?_) (fun h2=>?_)|refine wH rfl (fun h2=>?_) (fun h2=>?_))
 ·have hin : acc.length < n:=by omega
  have htl : (acc.map I).take acc.length = acc.map I:=qW (by simp)
  have e2 : ((n - acc.length : Nat) : Int) - 1 = ((n - (acc.length + 1) : Nat) : Int):=by omega
  have hbd : b / p ≤ b:=Nat.div_le_self _ _
  have hbm:=Nat.mod_le b p
  have hbq : b / p ≤ 100000:=xH hbd hb
  have hw : w64 ((b / p : Nat) : Int) = ((b / p : Nat) : Int):=by generalize b / p = x at *;exact w64_id (by omega) (by omega)
  rw [show n - acc.length = (n - (acc.length + 1)) + 1 by omega,digL] at hA
  repeat (first|(with_reducible first|refine SW.seq ?_|refine q8 ?_|refine SW.rowC ?_|refine SW.skip ?_|refine SW.exit ?_|intro _|refine And.intro (by omega) ?_)|simp (disch:=(first|omega|(simp only [go_sem];try omega))) only [go_sem,Nat.reduceAdd,Nat.reduceEqDiff,Nat.reduceLeDiff,reduceIte,w64_id,cast_succ,htl,tmodN,tdivN,e2,hw])
  refine SLoop.nextT 1 (n - (acc.length + 1)) hB (by omega) (by omega) (by simp) ?_ ?_ ⟨acc.length + 1,ver + 1,b / p,acc ++ [((b % p : Nat) : Int)],by omega,rfl,by simp,by rw [hA];simp,by omega,?_,?_⟩
  ·(simp only [go_sem,Nat.reduceAdd,Nat.reduceEqDiff,reduceIte,go_sem,and_self,and_true,true_and,implies_true,qI,qO,and_true,true_and];try omega)
  ·(simp only [go_sem,Nat.reduceAdd,Nat.reduceEqDiff,reduceIte,go_sem,and_self,and_true,true_and,implies_true,qI,qO,and_true,true_and];try omega)
  ·simp only [go_sem,hw];rfl
  ·simp
 ·have : acc.length = n:=by omega
  subst this
  rw [wS,digL,List.append_nil] at hA
  subst hA
  repeat (first|(with_reducible first|refine SW.seq ?_|refine q8 ?_|refine SW.rowC ?_|refine SW.skip ?_|refine SW.exit ?_|intro _|refine And.intro (by omega) ?_)|simp (disch:=(first|omega|(simp only [go_sem];try omega))) only [go_sem,Nat.reduceAdd,Nat.reduceEqDiff,Nat.reduceLeDiff,reduceIte,w64_id,cast_succ])
  refine SW.ret ?_;(try simp only [go_sem]);(first|refine qP ?_|refine qS ?_|refine qQ ?_);(try simp (disch:=(first|omega|(simp only [go_sem];try omega))) only [go_sem,Nat.reduceAdd,Nat.reduceEqDiff,Nat.reduceLeDiff,reduceIte,w64_id,cast_succ])
  exact GR.of ⟨ver,rfl,rfl⟩
theorem numL_cons (p x : Int) (xs : List Int) : numL p xs * p + x = numL p (x :: xs):=rfl
theorem l03Number_fn (p : Nat) (xs : List Int) (h1 : 1 ≤ p) (hp : p ≤ 64) (hx : OkD p xs) (hl : xs.length ≤ 6) : PFn Tryz.prog f_spec_l03Number [ilS xs,I p] (I (numL p xs)):=by
 intro H;refine ACalls.introB s_spec_l03Number (by simp) ?_;intro hB hA;unfold c_spec_l03Number;simp (disch:=(first|omega|(simp only [go_sem];try omega))) only [go_sem,Nat.reduceAdd,Nat.reduceEqDiff,Nat.reduceLeDiff,reduceIte,w64_id,cast_succ]
 repeat (first|(with_reducible first|refine SW.seq ?_|refine q8 ?_|refine SW.rowC ?_|refine SW.skip ?_|refine SW.exit ?_|intro _|refine And.intro (by omega) ?_)|simp (disch:=(first|omega|(simp only [go_sem];try omega))) only [go_sem,Nat.reduceAdd,Nat.reduceEqDiff,Nat.reduceLeDiff,reduceIte,w64_id,cast_succ])
 refine wJ (fun E0 H0 q E' H'=>∃ k : Nat,k ≤ xs.length ∧ q = k ∧ E' = aput (aput E0 6 (I ((k : Int) - 1))) 5 (I (numL p (xs.drop k))) ∧ H' = H0) xs.length ⟨xs.length,by omega,rfl,by simp [go_sem,numL],rfl⟩ ?_
 rintro q E' H' ⟨_,hk,rfl,rfl,rfl⟩
 simp (disch:=(first|omega|(simp only [go_sem];try omega))) only [go_sem,Nat.reduceAdd,Nat.reduceEqDiff,Nat.reduceLeDiff,reduceIte,w64_id,cast_succ]
 repeat (first|(with_reducible first|refine SW.seq ?_|refine q8 ?_|refine SW.rowC ?_|refine SW.skip ?_|refine SW.exit ?_|intro _|refine And.intro (by omega) ?_)|simp (disch:=(first|omega|(simp only [go_sem];try omega))) only [go_sem,Nat.reduceAdd,Nat.reduceEqDiff,Nat.reduceLeDiff,reduceIte,w64_id,cast_succ])
 (first|refine wK rfl (fun h2=>?_) (fun h2=>?_)|refine wL rfl (fun h2=>?_) (fun h2=>?_)|refine wF rfl (fun h2=>?_) (fun h2=>?_)|refine wH rfl (fun h2=>?_) (fun h2=>?_))
 ·obtain ⟨k,rfl⟩ : ∃ k,q = k + 1:=⟨q - 1,by omega⟩
  have e1 : ((k + 1 : Nat) : Int) - 1 = (k : Int):=by omega
  have hd : xs.drop k = xs[k] :: xs.drop (k + 1):=List.drop_eq_getElem_cons (by omega)
  have hb:=numL_bd h1 (xs.drop k) fun z hz=>hx z (y6 hz)
  have hb2:=numL_bd h1 (xs.drop (k + 1)) fun z hz=>hx z (y6 hz)
  have hl1:=pow_le6 hp (show (xs.drop k).length ≤ 6 by simp;omega)
  have hx1:=hx xs[k] (List.getElem_mem _)
  have hg : xs.getD k 0 = xs[k]:=(List.getElem_eq_getD 0).symm
  rw [hd,← numL_cons] at hb
  rw [hd] at hl1
  generalize hN : numL (p : Int) (xs.drop (k + 1)) = N at *
  have h0 : 0 ≤ N * (p : Int):=xV hb2.1 (by omega)
  generalize hx0 : xs[k] = x at *
  generalize p ^ (x :: xs.drop (k + 1)).length = P1 at *
  generalize p ^ (xs.drop (k + 1)).length = P2 at *
  repeat (first|(with_reducible first|refine SW.seq ?_|refine q8 ?_|refine SW.rowC ?_|refine SW.skip ?_|refine SW.exit ?_|intro _|refine And.intro (by omega) ?_)|simp (disch:=(first|omega|(simp only [go_sem];try omega))) only [go_sem,Nat.reduceAdd,Nat.reduceEqDiff,Nat.reduceLeDiff,reduceIte,w64_id,cast_succ,e1,hg])
  refine wB k (by omega) ⟨k,by omega,rfl,?_,rfl⟩
  rw [hd,← numL_cons,hN]
  simp [go_sem]
 ·have : q = 0:=by omega
  subst this
  repeat (first|(with_reducible first|refine SW.seq ?_|refine q8 ?_|refine SW.rowC ?_|refine SW.skip ?_|refine SW.exit ?_|intro _|refine And.intro (by omega) ?_)|simp (disch:=(first|omega|(simp only [go_sem];try omega))) only [go_sem,Nat.reduceAdd,Nat.reduceEqDiff,Nat.reduceLeDiff,reduceIte,w64_id,cast_succ])
  refine SW.ret ?_;(try simp only [go_sem]);(first|refine qP ?_|refine qS ?_|refine qQ ?_);(try simp (disch:=(first|omega|(simp only [go_sem];try omega))) only [go_sem,Nat.reduceAdd,Nat.reduceEqDiff,Nat.reduceLeDiff,reduceIte,w64_id,cast_succ]);(first|(with_reducible refine GR.drop ?_ ?_;(simp only [go_sem,and_self,and_true,true_and,implies_true,qI,qO]))|refine GR.of ?_);refine ⟨?_,rfl⟩;(try with_reducible rfl)
theorem OkD.set {p x : Int} {xs : List Int} (h : OkD p xs) (i : Nat) (hx : 0 ≤ x ∧ x < p) : OkD p (xs.set i x):=fun z hz=>by
 rcases List.mem_or_eq_of_mem_set hz with hz|rfl
 ·exact h z hz
 ·exact hx
theorem OkD.getD {p : Int} {xs : List Int} (h : OkD p xs) (hp : 0 < p) (i : Nat) : 0 ≤ xs.getD i 0 ∧ xs.getD i 0 < p:=by
 rw [List.getD_eq_getElem?_getD]
 cases hx : xs[i]? with
 | none=>exact ⟨Int.le_refl _,hp⟩
 | some x=>exact h x (List.mem_of_getElem? hx)
def rstI (p : Int) (by' : List Int) (a : Nat) (c : Int) : Nat → List Int → List Int
 | 0,o=>o
 | m + 1,o=>rstI p by' a c m (o.set (a + (by'.length - (m + 1))) ((o.getD (a + (by'.length - (m + 1))) 0 + (p - c) * by'.getD (by'.length - (m + 1)) 0).tmod p))
def rstO (p : Int) (by' : List Int) : Nat → List Int → List Int
 | 0,o=>o
 | f + 1,o=>rstO p by' f (rstI p by' f (o.getD (f + (by'.length - 1)) 0) by'.length o)
def restL (a by' : List Int) (p : Int) : List Int:=(rstO p by' (a.length + 1 - by'.length) a).take (by'.length - 1)
theorem rst_bd {p c b o : Int} (hp : p ≤ 64) (hc : 0 ≤ c ∧ c < p) (hb : 0 ≤ b ∧ b < p) (ho : 0 ≤ o ∧ o < p) : 0 ≤ (p - c) * b ∧ (p - c) * b ≤ 4096 ∧ 0 ≤ (o + (p - c) * b).tmod p ∧ (o + (p - c) * b).tmod p < p:=by
 have h1 : 0 ≤ (p - c) * b:=xV (by omega) hb.1
 have h2 : (p - c) * b ≤ 64 * 64:=Int.mul_le_mul (by omega) (by omega) hb.1 (by omega)
 refine ⟨h1,by omega,?_⟩
 rw [Int.tmod_eq_emod_of_nonneg (by omega)]
 exact ⟨Int.emod_nonneg _ (by omega),Int.emod_lt_of_pos _ (by omega)⟩
theorem rstI_ok {p : Int} {by' : List Int} {a : Nat} {c : Int} (hp : p ≤ 64) (hc : 0 ≤ c ∧ c < p) (hb : OkD p by') : ∀ (m : Nat) (o : List Int),OkD p o → OkD p (rstI p by' a c m o) ∧ (rstI p by' a c m o).length = o.length
 | 0,o,h=>⟨h,rfl⟩
 | m + 1,o,h=>by
  have h1:=rstI_ok (a:=a) hp hc hb m (o.set (a + (by'.length - (m + 1))) ((o.getD (a + (by'.length - (m + 1))) 0 + (p - c) * by'.getD (by'.length - (m + 1)) 0).tmod p)) (h.set _ (rst_bd hp hc (hb.getD (by omega) _) (h.getD (by omega) _)).2.2)
  exact ⟨h1.1,h1.2.trans (by simp)⟩
theorem rstO_ok {p : Int} {by' : List Int} (hp : p ≤ 64) (hp0 : 0 < p) (hb : OkD p by') : ∀ (f : Nat) (o : List Int),OkD p o → OkD p (rstO p by' f o) ∧ (rstO p by' f o).length = o.length
 | 0,o,h=>⟨h,rfl⟩
 | f + 1,o,h=>by
  have h1:=rstI_ok (a:=f) (c:=o.getD (f + (by'.length - 1)) 0) hp (h.getD hp0 _) hb by'.length o h
  have h2:=rstO_ok hp hp0 hb f _ h1.1
  exact ⟨h2.1,h2.2.trans h1.2⟩
theorem restL_ok {p : Int} {a by' : List Int} (hp : p ≤ 64) (hp0 : 0 < p) (hb : OkD p by') (ha : OkD p a) : OkD p (restL a by' p) ∧ (restL a by' p).length ≤ a.length ∧ (restL a by' p).length ≤ by'.length - 1:=by
 obtain ⟨h1,h2⟩:=rstO_ok hp hp0 hb (a.length + 1 - by'.length) a ha
 refine ⟨fun z hz=>h1 z (List.mem_of_mem_take hz),?_,?_⟩ <;> (unfold restL;rw [wT];omega)
theorem l03Rest_new (p : Nat) (a by' : List Int) (h1 : 1 ≤ p) (hp : p ≤ 64) (ha : OkD p a) (hb : OkD p by') (hl : a.length ≤ 64) (hn1 : 1 ≤ by'.length) (hn : by'.length ≤ 64) : NewL Tryz.prog f_spec_l03Rest [ilS a,ilS by',I p] (restL a by' p):=by
 intro H
 refine ACalls.introB s_spec_l03Rest (by simp) ?_;intro hB hA;unfold c_spec_l03Rest;simp (disch:=(first|omega|(simp only [go_sem];try omega))) only [go_sem,Nat.reduceAdd,Nat.reduceEqDiff,Nat.reduceLeDiff,reduceIte,w64_id,cast_succ]
 have hp0 : ¬ (p : Int) = 0:=by omega
 repeat (first|(with_reducible first|refine SW.seq ?_|refine q8 ?_|refine SW.rowC ?_|refine SW.skip ?_|refine SW.exit ?_|intro _|refine And.intro (by omega) ?_)|simp (disch:=(first|omega|(simp only [go_sem];try omega))) only [go_sem,Nat.reduceAdd,Nat.reduceEqDiff,Nat.reduceLeDiff,reduceIte,w64_id,cast_succ])
 refine (l00OwnB_ok H a (by omega)).mono ?_
 rintro r H1 ⟨rfl,rfl⟩
 repeat (first|(with_reducible first|refine SW.seq ?_|refine q8 ?_|refine SW.rowC ?_|refine SW.skip ?_|refine SW.exit ?_|intro _|refine And.intro (by omega) ?_)|simp (disch:=(first|omega|(simp only [go_sem];try omega))) only [go_sem,Nat.reduceAdd,Nat.reduceEqDiff,Nat.reduceLeDiff,reduceIte,w64_id,cast_succ])
 generalize hR : rstO p by' (a.length + 1 - by'.length) a = R
 have hRn : restL a by' p = R.take (by'.length - 1):=by rw [← hR];rfl
 rw [hRn]
 have hRk:=rstO_ok (p:=(p : Int)) (by omega) (by omega) hb (a.length + 1 - by'.length) a ha
 rw [hR] at hRk
 refine wJ (fun E0 H0 q E' H'=>∃ (i : Int) (o : List Int),(i + 2 = q + by'.length ∨ (q = 0 ∧ i + 1 < by'.length)) ∧ i < a.length ∧ -1 ≤ i ∧ o.length = a.length ∧ OkD p o ∧ R = rstO p by' q o ∧ E' = aput E0 9 (I i) ∧ H' = H ++ [⟨1,2,1,o.map I⟩]) (a.length + 1 - by'.length) ⟨(a.length : Int) - 1,a,by omega,by omega,by omega,rfl,ha,hR.symm,by simp [go_sem],rfl⟩ ?_
 rintro q E' H' ⟨i,o,hi,hil,hi0,hol,ho,hq,rfl,rfl⟩
 simp (disch:=(first|omega|(simp only [go_sem];try omega))) only [go_sem,Nat.reduceAdd,Nat.reduceEqDiff,Nat.reduceLeDiff,reduceIte,w64_id,cast_succ]
 repeat (first|(with_reducible first|refine SW.seq ?_|refine q8 ?_|refine SW.rowC ?_|refine SW.skip ?_|refine SW.exit ?_|intro _|refine And.intro (by omega) ?_)|simp (disch:=(first|omega|(simp only [go_sem];try omega))) only [go_sem,Nat.reduceAdd,Nat.reduceEqDiff,Nat.reduceLeDiff,reduceIte,w64_id,cast_succ])
 (first|refine wK rfl (fun h2=>?_) (fun h2=>?_)|refine wL rfl (fun h2=>?_) (fun h2=>?_)|refine wF rfl (fun h2=>?_) (fun h2=>?_)|refine wH rfl (fun h2=>?_) (fun h2=>?_))
 ·obtain ⟨f,rfl⟩ : ∃ f,q = f + 1:=⟨q - 1,by omega⟩
  have hif : i = ((f + (by'.length - 1) : Nat) : Int):=by omega
  subst hif
  have hfl : f + (by'.length - 1) < o.length:=by omega
  rw [rstO] at hq
  have hc:=ho.getD (show (0 : Int) < p by omega) (f + (by'.length - 1))
  have hto : (o.map I).take a.length = o.map I:=qW (by simp;omega)
  generalize hc0 : o.getD (f + (by'.length - 1)) 0 = c at *
  generalize hS : rstI p by' f c by'.length o = S at *
  repeat (first|(with_reducible first|refine SW.seq ?_|refine q8 ?_|refine SW.rowC ?_|refine SW.skip ?_|refine SW.exit ?_|intro _|refine And.intro (by omega) ?_)|simp (disch:=(first|omega|(simp only [go_sem];try omega))) only [go_sem,Nat.reduceAdd,Nat.reduceEqDiff,Nat.reduceLeDiff,reduceIte,w64_id,cast_succ,hto,hc0])
  refine wJ (fun E0 H0 m E' H'=>∃ (k : Nat) (x : List Int),k ≤ by'.length ∧ m = by'.length - k ∧ x.length = a.length ∧ OkD p x ∧ S = rstI p by' f c (by'.length - k) x ∧ E' = aput E0 11 (I k) ∧ H' = H ++ [⟨1,2,1,x.map I⟩]) by'.length ⟨0,o,by omega,by omega,hol,ho,by rw [← hS];rfl,rfl,rfl⟩ ?_
  rintro m E' H' ⟨k,x,hk,rfl,hxl,hx,hs,rfl,rfl⟩
  simp (disch:=(first|omega|(simp only [go_sem];try omega))) only [go_sem,Nat.reduceAdd,Nat.reduceEqDiff,Nat.reduceLeDiff,reduceIte,w64_id,cast_succ]
  repeat (first|(with_reducible first|refine SW.seq ?_|refine q8 ?_|refine SW.rowC ?_|refine SW.skip ?_|refine SW.exit ?_|intro _|refine And.intro (by omega) ?_)|simp (disch:=(first|omega|(simp only [go_sem];try omega))) only [go_sem,Nat.reduceAdd,Nat.reduceEqDiff,Nat.reduceLeDiff,reduceIte,w64_id,cast_succ])
  (first|refine wK rfl (fun h3=>?_) (fun h3=>?_)|refine wL rfl (fun h3=>?_) (fun h3=>?_)|refine wF rfl (fun h3=>?_) (fun h3=>?_)|refine wH rfl (fun h3=>?_) (fun h3=>?_))
  ·have hkn : k < by'.length:=by omega
   rw [show by'.length - k = (by'.length - (k + 1)) + 1 by omega,rstI] at hs
   rw [show by'.length - (by'.length - (k + 1) + 1) = k by omega] at hs
   have hb1:=hb.getD (show (0 : Int) < p by omega) k
   have hx1:=hx.getD (show (0 : Int) < p by omega) (f + k)
   obtain ⟨d1,d2,d3⟩:=rst_bd (p:=p) (by omega) hc hb1 hx1
   have hx':=hx.set (f + k) d3
   have htx : (x.map I).take a.length = x.map I:=qW (by simp;omega)
   generalize hbk : by'.getD k 0 = bk at *
   generalize hxk : x.getD (f + k) 0 = xk at *
   generalize hpr : ((p : Int) - c) * bk = pr at *
   have e1 : ((f + (by'.length - 1) : Nat) : Int) - (by'.length : Int) + 1 + (k : Int) = ((f + k : Nat) : Int):=by omega
   repeat (first|(with_reducible first|refine SW.seq ?_|refine q8 ?_|refine SW.rowC ?_|refine SW.skip ?_|refine SW.exit ?_|intro _|refine And.intro (by omega) ?_)|simp (disch:=(first|omega|(simp only [go_sem];try omega))) only [go_sem,Nat.reduceAdd,Nat.reduceEqDiff,Nat.reduceLeDiff,reduceIte,w64_id,cast_succ,htx,e1,hbk,hxk,hpr])
   refine wB (by'.length - (k + 1)) (by omega) ⟨k + 1,_,by omega,rfl,by rw [List.length_set];exact hxl,hx',hs,by simp [go_sem],rfl⟩
  ·have hkn : k = by'.length:=by omega
   rw [hkn,wS,rstI] at hs
   subst hs
   repeat (first|(with_reducible first|refine SW.seq ?_|refine q8 ?_|refine SW.rowC ?_|refine SW.skip ?_|refine SW.exit ?_|intro _|refine And.intro (by omega) ?_)|simp (disch:=(first|omega|(simp only [go_sem];try omega))) only [go_sem,Nat.reduceAdd,Nat.reduceEqDiff,Nat.reduceLeDiff,reduceIte,w64_id,cast_succ])
   refine wB f (by omega) ⟨((f + (by'.length - 1) : Nat) : Int) - 1,S,by omega,by omega,by omega,hxl,hx,hq,by simp [go_sem],rfl⟩
 ·have hq0 : q = 0:=by omega
  subst hq0
  rw [rstO] at hq
  subst hq
  repeat (first|(with_reducible first|refine SW.seq ?_|refine q8 ?_|refine SW.rowC ?_|refine SW.skip ?_|refine SW.exit ?_|intro _|refine And.intro (by omega) ?_)|simp (disch:=(first|omega|(simp only [go_sem];try omega))) only [go_sem,Nat.reduceAdd,Nat.reduceEqDiff,Nat.reduceLeDiff,reduceIte,w64_id,cast_succ])
  refine wJ (fun E0 H0 m E' H'=>∃ (L : Nat),m = L ∧ L ≤ a.length ∧ (by'.length - 1 ≤ L ∨ L = a.length) ∧ E' = aput E0 7 (.nm H.length 1 0 L) ∧ H' = H0) a.length ⟨a.length,rfl,by omega,.inr rfl,rfl,rfl⟩ ?_
  rintro m E' H' ⟨L,rfl,hL,hL2,rfl,rfl⟩
  simp (disch:=(first|omega|(simp only [go_sem];try omega))) only [go_sem,Nat.reduceAdd,Nat.reduceEqDiff,Nat.reduceLeDiff,reduceIte,w64_id,cast_succ]
  repeat (first|(with_reducible first|refine SW.seq ?_|refine q8 ?_|refine SW.rowC ?_|refine SW.skip ?_|refine SW.exit ?_|intro _|refine And.intro (by omega) ?_)|simp (disch:=(first|omega|(simp only [go_sem];try omega))) only [go_sem,Nat.reduceAdd,Nat.reduceEqDiff,Nat.reduceLeDiff,reduceIte,w64_id,cast_succ])
  (first|refine wK rfl (fun h3=>?_) (fun h3=>?_)|refine wL rfl (fun h3=>?_) (fun h3=>?_)|refine wF rfl (fun h3=>?_) (fun h3=>?_)|refine wH rfl (fun h3=>?_) (fun h3=>?_))
  ·have e1 : (m : Int) - 1 = ((m - 1 : Nat) : Int):=by omega
   repeat (first|(with_reducible first|refine SW.seq ?_|refine q8 ?_|refine SW.rowC ?_|refine SW.skip ?_|refine SW.exit ?_|intro _|refine And.intro (by omega) ?_)|simp (disch:=(first|omega|(simp only [go_sem];try omega))) only [go_sem,Nat.reduceAdd,Nat.reduceEqDiff,Nat.reduceLeDiff,reduceIte,w64_id,cast_succ,e1,Option.map_some,Option.map_none])
   rw [SlcG_nm (by simp) (by omega) (by omega),Int.toNat_natCast]
   refine wB (m - 1) (by omega) ⟨m - 1,rfl,by omega,by omega,by simp [go_sem],rfl⟩
  ·repeat (first|(with_reducible first|refine SW.seq ?_|refine q8 ?_|refine SW.rowC ?_|refine SW.skip ?_|refine SW.exit ?_|intro _|refine And.intro (by omega) ?_)|simp (disch:=(first|omega|(simp only [go_sem];try omega))) only [go_sem,Nat.reduceAdd,Nat.reduceEqDiff,Nat.reduceLeDiff,reduceIte,w64_id,cast_succ])
   refine SW.ret ?_;(try simp only [go_sem]);(first|refine qP ?_|refine qS ?_|refine qQ ?_);(try simp (disch:=(first|omega|(simp only [go_sem];try omega))) only [go_sem,Nat.reduceAdd,Nat.reduceEqDiff,Nat.reduceLeDiff,reduceIte,w64_id,cast_succ])
   have htk : (R.take (by'.length - 1)).length = m:=by rw [wT,hRk.2];omega
   have hRt : R.take m = R.take (by'.length - 1):=by
    rcases hL2 with h|h
    ·rw [show m = by'.length - 1 by omega]
    ·rw [qW (by rw [hRk.2];omega),qW (by rw [hRk.2];omega)]
   refine GR.trunc (i:=H.length) (ver:=1) (ty:=2) (cells:=R.map I) m (by simp) ?_
   rw [List.set_append_right _ _ (Nat.le_refl _),wS,List.set_cons_zero,← List.map_take,hRt]
   have hn:=newL_of (H:=H) (k:=H.length) (ver:=1) (ty:=2) (xs:=R.take (by'.length - 1)) (ext:=[⟨1,2,1,(R.take (by'.length - 1)).map I⟩]) (Nat.le_refl _) (by simp)
   rw [htk] at hn
   exact GR.of hn
end Go.Proofs.YtclfmfabcnbbpaaGreat