/- SameCover: both sides. -/
import Derived.Test.YtclfmfabcnbbpaaGreatProg
import Derived.KernelRfl
import Derived.Test.YtclfmfabcnbbpaaGreatzL2
set_option linter.unusedSimpArgs false
set_option linter.unusedVariables false
set_option maxHeartbeats 4000000
set_option maxRecDepth 100000
open Go.Operand renaming tmp→t'
open Option renaming none→n',some→s'
open Nat renaming zero_ne_one→qG,one_ne_zero→qH,zero_add→qK,add_zero→qL
open List renaming map_cons→qJ,map_nil→qM,length_cons→qD,length_nil→qF,getElem?_cons_zero→qA,getElem?_cons_succ→q9,take_add_one→xO,getElem?_eq_getElem→qB,take_length→wW
open Go.Av.FunPost renaming one→qP
open Go.Av.SW renaming block→q8
namespace Go.Proofs.YtclfmfabcnbbpaaGreat
open Go.Av
abbrev f_spec_l10Same : Nat:=39
def c_spec_l10Same : SC :=
 .seq (.reg [⟨s' 4,.mv (.const (.bool false)),n'⟩] [0,1]) (.seq (.seq (.reg [⟨s' 6,.mv (t' 0),n'⟩,⟨s' 7,.len (t' 6),n'⟩,⟨s' 8,.mv (t' 1),n'⟩,⟨s' 9,.len (t' 8),n'⟩,
 ⟨s' 10,.bin .neq (t' 7) (t' 9),n'⟩] [0,1,10]) (.cond (t' 10) (.seq (.reg [⟨s' 4,.mv (.const (.bool false)),n'⟩] [4]) (.ret)) (.skip))) (.seq (.seq (.reg [
 ⟨s' 5,.mv (.const (.int .i64 0)),n'⟩] [0,1,5]) (.block 0 (.loop [0,1,5] (.seq (.seq (.reg [⟨s' 11,.mv (t' 5),n'⟩,⟨s' 12,.mv (t' 0),n'⟩,⟨s' 13,.len (t' 12),n'⟩,
 ⟨s' 14,.bin .lss (t' 11) (t' 13),n'⟩] [0,1,5,14]) (.cond (t' 14) (.skip) (.exit 0))) (.seq (.block 1 (.seq (.reg [⟨s' 17,.mv (t' 0),n'⟩,⟨s' 18,.mv (t' 5),n'⟩,
 ⟨s' 19,.iaddr 1 (t' 17) (t' 18),n'⟩,⟨s' 20,.load 1 false (t' 19),n'⟩,⟨s' 21,.mv (t' 1),n'⟩,⟨s' 22,.mv (t' 5),n'⟩,⟨s' 23,.iaddr 1 (t' 21) (t' 22),n'⟩,
 ⟨s' 24,.load 1 false (t' 23),n'⟩,⟨s' 25,.qcall 58 [(t' 20),(t' 24)],n'⟩,⟨s' 26,.un .not (t' 25),n'⟩] [0,1,5,26]) (.cond (t' 26) (.seq (.reg [
 ⟨s' 4,.mv (.const (.bool false)),n'⟩] [4]) (.ret)) (.skip)))) (.reg [⟨s' 15,.mv (t' 5),n'⟩,⟨s' 16,.bin .add (t' 15) (.const (.int .i64 1)),n'⟩,
 ⟨s' 5,.mv (t' 16),n'⟩] [0,1,5])))))) (.seq (.reg [⟨s' 4,.mv (.const (.bool true)),n'⟩] [4]) (.ret))))
theorem s_spec_l10Same : stripF Tryz.prog 39 [[0,1],[0,1,10],[4],[0,1,5],[0,1,5],[0,1,5,14],[0,1,5,26],[4],[0,1,5],[4]] = some (c_spec_l10Same,[.tmp 4],27):=by kernel_rfl
abbrev f_impl_areSame : Nat:=48
def c_impl_areSame : SC :=
 .seq (.reg [⟨s' 4,.mv (.const (.bool false)),n'⟩] [0,1]) (.seq (.reg [⟨s' 5,.mv (t' 0),n'⟩,⟨s' 6,.mv (t' 1),n'⟩,⟨s' 7,.call 73 [(t' 5),(t' 6),(.func 74)],n'⟩,
 ⟨s' 4,.mv (t' 7),n'⟩] [4]) (.ret))
theorem s_impl_areSame : stripF Tryz.prog 48 [[0,1],[4]] = some (c_impl_areSame,[.tmp 4],8):=by kernel_rfl
abbrev f_spec_l00Same : Nat:=58
def c_spec_l00Same : SC :=
 .seq (.reg [⟨s' 4,.mv (.const (.bool false)),n'⟩] [0,1]) (.seq (.seq (.reg [⟨s' 6,.mv (t' 0),n'⟩,⟨s' 7,.len (t' 6),n'⟩,⟨s' 8,.mv (t' 1),n'⟩,⟨s' 9,.len (t' 8),n'⟩,
 ⟨s' 10,.bin .neq (t' 7) (t' 9),n'⟩] [0,1,10]) (.cond (t' 10) (.seq (.reg [⟨s' 4,.mv (.const (.bool false)),n'⟩] [4]) (.ret)) (.skip))) (.seq (.seq (.reg [
 ⟨s' 5,.mv (.const (.int .i64 0)),n'⟩] [0,1,5]) (.block 0 (.loop [0,1,5] (.seq (.seq (.reg [⟨s' 11,.mv (t' 5),n'⟩,⟨s' 12,.mv (t' 0),n'⟩,⟨s' 13,.len (t' 12),n'⟩,
 ⟨s' 14,.bin .lss (t' 11) (t' 13),n'⟩] [0,1,5,14]) (.cond (t' 14) (.skip) (.exit 0))) (.seq (.block 1 (.seq (.reg [⟨s' 17,.mv (t' 0),n'⟩,⟨s' 18,.mv (t' 5),n'⟩,
 ⟨s' 19,.iaddr 1 (t' 17) (t' 18),n'⟩,⟨s' 20,.load 1 false (t' 19),n'⟩,⟨s' 21,.mv (t' 1),n'⟩,⟨s' 22,.mv (t' 5),n'⟩,⟨s' 23,.iaddr 1 (t' 21) (t' 22),n'⟩,
 ⟨s' 24,.load 1 false (t' 23),n'⟩,⟨s' 25,.bin .neq (t' 20) (t' 24),n'⟩] [0,1,5,25]) (.cond (t' 25) (.seq (.reg [⟨s' 4,.mv (.const (.bool false)),n'⟩] [4]) (.ret)) (.skip))))
 (.reg [⟨s' 15,.mv (t' 5),n'⟩,⟨s' 16,.bin .add (t' 15) (.const (.int .i64 1)),n'⟩,⟨s' 5,.mv (t' 16),n'⟩] [0,1,5])))))) (.seq (.reg [⟨s' 4,.mv (.const (.bool true)),n'⟩] [4])
 (.ret))))
theorem s_spec_l00Same : stripF Tryz.prog 58 [[0,1],[0,1,10],[4],[0,1,5],[0,1,5],[0,1,5,14],[0,1,5,25],[4],[0,1,5],[4]] = some (c_spec_l00Same,[.tmp 4],26):=by kernel_rfl
abbrev f_slices_EqualFunc_LLint64_LLint64_Lint64_Lint64 : Nat:=73
def c_slices_EqualFunc_LLint64_LLint64_Lint64_Lint64 : SC :=
 .seq (.reg [⟨s' 6,.mv (.const (.bool false)),n'⟩] [0,1,2]) (.seq (.seq (.reg [⟨s' 10,.mv (t' 0),n'⟩,⟨s' 11,.len (t' 10),n'⟩,⟨s' 12,.mv (t' 1),n'⟩,⟨s' 13,.len (t' 12),n'⟩,
 ⟨s' 14,.bin .neq (t' 11) (t' 13),n'⟩] [0,1,2,14]) (.cond (t' 14) (.seq (.reg [⟨s' 6,.mv (.const (.bool false)),n'⟩] [6]) (.ret)) (.skip))) (.seq (.seq (.reg [
 ⟨s' 15,.mv (t' 0),n'⟩,⟨s' 16,.len (t' 15),n'⟩,⟨s' 17,.mv (.const (.int .i64 0)),n'⟩] [1,2,15,16,17]) (.block 0 (.loop [1,2,15,16,17] (.seq (.reg [
 ⟨s' 18,.bin .lss (t' 17) (t' 16),n'⟩] [1,2,15,16,17,18]) (.seq (.cond (t' 18) (.skip) (.exit 0)) (.seq (.block 1 (.seq (.reg [⟨s' 19,.mv (t' 17),n'⟩,
 ⟨s' 20,.iaddr 1 (t' 15) (t' 17),n'⟩,⟨s' 21,.load 1 false (t' 20),n'⟩,⟨s' 7,.mv (t' 19),n'⟩,⟨s' 8,.mv (t' 21),n'⟩] [1,2,7,8,15,16,17]) (.seq (.reg [⟨s' 22,.mv (t' 1),n'⟩,
 ⟨s' 23,.mv (t' 7),n'⟩,⟨s' 24,.iaddr 1 (t' 22) (t' 23),n'⟩,⟨s' 25,.load 1 false (t' 24),n'⟩,⟨s' 9,.mv (t' 25),n'⟩] [1,2,8,9,15,16,17]) (.seq (.reg [⟨s' 26,.mv (t' 2),n'⟩,
 ⟨s' 27,.mv (t' 8),n'⟩,⟨s' 28,.mv (t' 9),n'⟩,⟨s' 29,.callv (t' 26) [(t' 27),(t' 28)],n'⟩,⟨s' 30,.un .not (t' 29),n'⟩] [1,2,15,16,17,30]) (.cond (t' 30) (.seq (.reg [
 ⟨s' 6,.mv (.const (.bool false)),n'⟩] [6]) (.ret)) (.skip)))))) (.reg [⟨s' 31,.bin .add (t' 17) (.const (.int .i64 1)),n'⟩,⟨s' 17,.mv (t' 31),n'⟩] [1,2,15,16,17])))))))
 (.seq (.reg [⟨s' 6,.mv (.const (.bool true)),n'⟩] [6]) (.ret))))
theorem s_slices_EqualFunc_LLint64_LLint64_Lint64_Lint64 : stripF Tryz.prog 73 [[0,1,2],[0,1,2,14],[6],[1,2,15,16,17],[1,2,15,16,17],[1,2,15,16,17,18],[1,2,7,8,15,16,17],[1,2,8,9,15,16,17],[1,2,15,16,17,30],[6],[1,2,15,16,17],[6]] = some (c_slices_EqualFunc_LLint64_LLint64_Lint64_Lint64,[.tmp 6],32):=by kernel_rfl
abbrev f_slices_Equal_Lint64_int64 : Nat:=74
def c_slices_Equal_Lint64_int64 : SC :=
 .seq (.reg [⟨s' 4,.mv (.const (.bool false)),n'⟩] [0,1]) (.seq (.seq (.reg [⟨s' 6,.mv (t' 0),n'⟩,⟨s' 7,.len (t' 6),n'⟩,⟨s' 8,.mv (t' 1),n'⟩,⟨s' 9,.len (t' 8),n'⟩,
 ⟨s' 10,.bin .neq (t' 7) (t' 9),n'⟩] [0,1,10]) (.cond (t' 10) (.seq (.reg [⟨s' 4,.mv (.const (.bool false)),n'⟩] [4]) (.ret)) (.skip))) (.seq (.seq (.reg [⟨s' 11,.mv (t' 0),n'⟩,
 ⟨s' 12,.len (t' 11),n'⟩,⟨s' 13,.mv (.const (.int .i64 0)),n'⟩] [0,1,12,13]) (.block 0 (.loop [0,1,12,13] (.seq (.reg [⟨s' 14,.bin .lss (t' 13) (t' 12),n'⟩] [0,1,12,13,14])
 (.seq (.cond (t' 14) (.skip) (.exit 0)) (.seq (.block 1 (.seq (.reg [⟨s' 15,.mv (t' 13),n'⟩,⟨s' 5,.mv (t' 15),n'⟩] [0,1,5,12,13]) (.seq (.reg [⟨s' 16,.mv (t' 0),n'⟩,
 ⟨s' 17,.mv (t' 5),n'⟩,⟨s' 18,.iaddr 1 (t' 16) (t' 17),n'⟩,⟨s' 19,.load 1 false (t' 18),n'⟩,⟨s' 20,.mv (t' 1),n'⟩,⟨s' 21,.mv (t' 5),n'⟩,⟨s' 22,.iaddr 1 (t' 20) (t' 21),n'⟩,
 ⟨s' 23,.load 1 false (t' 22),n'⟩,⟨s' 24,.bin .neq (t' 19) (t' 23),n'⟩] [0,1,12,13,24]) (.cond (t' 24) (.seq (.reg [⟨s' 4,.mv (.const (.bool false)),n'⟩] [4]) (.ret)) (.skip)))))
 (.reg [⟨s' 25,.bin .add (t' 13) (.const (.int .i64 1)),n'⟩,⟨s' 13,.mv (t' 25),n'⟩] [0,1,12,13]))))))) (.seq (.reg [⟨s' 4,.mv (.const (.bool true)),n'⟩] [4]) (.ret))))
theorem s_slices_Equal_Lint64_int64 : stripF Tryz.prog 74 [[0,1],[0,1,10],[4],[0,1,12,13],[0,1,12,13],[0,1,12,13,14],[0,1,5,12,13],[0,1,12,13,24],[4],[0,1,12,13],[4]] = some (c_slices_Equal_Lint64_int64,[.tmp 4],26):=by kernel_rfl
theorem l00Same_ok (H : List Blk) (a b : AV) (xs ys : List Int) (ha : RdS H a xs) (hb : RdS H b ys) :
  ACalls Tryz.prog f_spec_l00Same [a,b] H (fun r H'=>r = Bv (decide (xs = ys)) ∧ H' = H):=eqS_of s_spec_l00Same H a b xs ys ha hb
theorem l10Same_ok (H : List Blk) (a b : AV) (xs ys : List (List Int)) (ha : RdSS H a xs) (hb : RdSS H b ys) :
  ACalls Tryz.prog f_spec_l10Same [a,b] H (fun r H'=>r = Bv (decide (xs = ys)) ∧ H' = H):=eqSS_of s_spec_l10Same l00Same_ok H a b xs ys ha hb
theorem slicesEqual_ok (H : List Blk) (a b : AV) (xs ys : List Int) (ha : RdS H a xs) (hb : RdS H b ys) :
  ACalls Tryz.prog f_slices_Equal_Lint64_int64 [a,b] H (fun r H'=>r = Bv (decide (xs = ys)) ∧ H' = H):=by
 refine ACalls.intro s_slices_Equal_Lint64_int64 (by simp) ?_
 refine SW.seq ?_;refine SW.row ?_;simp only [go_sem,Nat.reduceAdd,Nat.reduceEqDiff,Nat.reduceLeDiff,reduceIte,qG,qH,qK,qL,qJ,qM,qD,qF,decide_true,decide_false,Bool.not_true,Bool.not_false,true_and,and_true,ne_eq,not_true_eq_false,not_false_eq_true,forall_const,qA,q9]
 refine SW.seq ?_;refine SW.seq ?_;refine SW.row ?_;simp only [go_sem,Nat.reduceAdd,Nat.reduceEqDiff,Nat.reduceLeDiff,reduceIte,qG,qH,qK,qL,qJ,qM,qD,qF,decide_true,decide_false,Bool.not_true,Bool.not_false,true_and,and_true,ne_eq,not_true_eq_false,not_false_eq_true,forall_const,qA,q9,ha,hb]
 intro hla hlb
 refine SW.cond rfl (fun h=>?_) (fun h=>?_)
 ·refine SW.seq ?_;refine SW.row ?_;simp only [go_sem,Nat.reduceAdd,Nat.reduceEqDiff,Nat.reduceLeDiff,reduceIte,qG,qH,qK,qL,qJ,qM,qD,qF,decide_true,decide_false,Bool.not_true,Bool.not_false,true_and,and_true,ne_eq,not_true_eq_false,not_false_eq_true,forall_const,qA,q9]
  refine SW.ret ?_;(try simp only [go_sem]);refine qP (GR.of ?_);(try simp only [go_sem,Nat.reduceAdd,Nat.reduceEqDiff,Nat.reduceLeDiff,reduceIte,qG,qH,qK,qL,qJ,qM,qD,qF,decide_true,decide_false,Bool.not_true,Bool.not_false,true_and,and_true,ne_eq,not_true_eq_false,not_false_eq_true,forall_const,qA,q9])
  have hne : xs ≠ ys:=by rintro rfl;simp at h
  simp [hne]
 refine SW.skip ?_
 have hlen : xs.length = ys.length:=by
  have:=of_decide_eq_true (by simpa using h : decide ((xs.length : Int) = ys.length) = true)
  omega
 simp only [go_sem]
 refine SW.seq ?_;refine SW.seq ?_;refine SW.row ?_;simp only [go_sem,Nat.reduceAdd,Nat.reduceEqDiff,Nat.reduceLeDiff,reduceIte,qG,qH,qK,qL,qJ,qM,qD,qF,decide_true,decide_false,Bool.not_true,Bool.not_false,true_and,and_true,ne_eq,not_true_eq_false,not_false_eq_true,forall_const,qA,q9,ha]
 intro _
 refine q8 ?_
 refine SW.loop (fun k E H'=>∃ i : Nat,i ≤ xs.length ∧ k = xs.length - i ∧ E = [(0,a),(1,b),(12,I xs.length),(13,I i)] ∧ H' = H ∧ xs.take i = ys.take i) xs.length ⟨0,by omega,by omega,rfl,rfl,rfl⟩ ?_
 rintro k E H' ⟨i,hi,rfl,rfl,rfl,heq⟩
 refine SW.seq ?_;refine SW.row ?_;simp only [go_sem,Nat.reduceAdd,Nat.reduceEqDiff,Nat.reduceLeDiff,reduceIte,qG,qH,qK,qL,qJ,qM,qD,qF,decide_true,decide_false,Bool.not_true,Bool.not_false,true_and,and_true,ne_eq,not_true_eq_false,not_false_eq_true,forall_const,qA,q9];refine SW.seq ?_;refine SW.cond rfl (fun h=>?_) (fun h=>?_)
 ·have hlt : i < xs.length:=by have:=of_decide_eq_true h;omega
  have hlt' : i < ys.length:=by omega
  refine SW.skip ?_;simp only [go_sem,Nat.reduceAdd,Nat.reduceEqDiff,Nat.reduceLeDiff,reduceIte,qG,qH,qK,qL,qJ,qM,qD,qF,decide_true,decide_false,Bool.not_true,Bool.not_false,true_and,and_true,ne_eq,not_true_eq_false,not_false_eq_true,forall_const,qA,q9]
  refine SW.seq ?_;refine q8 ?_;refine SW.seq ?_;refine SW.row ?_;simp only [go_sem,Nat.reduceAdd,Nat.reduceEqDiff,Nat.reduceLeDiff,reduceIte,qG,qH,qK,qL,qJ,qM,qD,qF,decide_true,decide_false,Bool.not_true,Bool.not_false,true_and,and_true,ne_eq,not_true_eq_false,not_false_eq_true,forall_const,qA,q9]
  refine SW.seq ?_;refine SW.row ?_;simp only [go_sem,Nat.reduceAdd,Nat.reduceEqDiff,Nat.reduceLeDiff,reduceIte,qG,qH,qK,qL,qJ,qM,qD,qF,decide_true,decide_false,Bool.not_true,Bool.not_false,true_and,and_true,ne_eq,not_true_eq_false,not_false_eq_true,forall_const,qA,q9,idx ha hlt,idx hb hlt',ld ha hlt,ld hb hlt']
  refine SW.cond rfl (fun h=>?_) (fun h=>?_)
  ·refine SW.seq ?_;refine SW.row ?_;simp only [go_sem,Nat.reduceAdd,Nat.reduceEqDiff,Nat.reduceLeDiff,reduceIte,qG,qH,qK,qL,qJ,qM,qD,qF,decide_true,decide_false,Bool.not_true,Bool.not_false,true_and,and_true,ne_eq,not_true_eq_false,not_false_eq_true,forall_const,qA,q9]
   refine SW.ret ?_;(try simp only [go_sem]);refine qP (GR.of ?_);(try simp only [go_sem,Nat.reduceAdd,Nat.reduceEqDiff,Nat.reduceLeDiff,reduceIte,qG,qH,qK,qL,qJ,qM,qD,qF,decide_true,decide_false,Bool.not_true,Bool.not_false,true_and,and_true,ne_eq,not_true_eq_false,not_false_eq_true,forall_const,qA,q9])
   have hne : xs ≠ ys:=by rintro rfl;simp at h
   simp [hne]
  ·refine SW.skip ?_;simp only [go_sem,Nat.reduceAdd,Nat.reduceEqDiff,Nat.reduceLeDiff,reduceIte,qG,qH,qK,qL,qJ,qM,qD,qF,decide_true,decide_false,Bool.not_true,Bool.not_false,true_and,and_true,ne_eq,not_true_eq_false,not_false_eq_true,forall_const,qA,q9]
   refine SW.row ?_;simp only [go_sem,Nat.reduceAdd,Nat.reduceEqDiff,Nat.reduceLeDiff,reduceIte,qG,qH,qK,qL,qJ,qM,qD,qF,decide_true,decide_false,Bool.not_true,Bool.not_false,true_and,and_true,ne_eq,not_true_eq_false,not_false_eq_true,forall_const,qA,q9,w64_succ hlt hla]
   refine SLoop.next (xs.length - (i + 1)) (by omega) ⟨i + 1,by omega,rfl,?_,rfl,?_⟩
   ·simp only [go_sem,Nat.reduceAdd,Nat.reduceEqDiff,Nat.reduceLeDiff,reduceIte,qG,qH,qK,qL,qJ,qM,qD,qF,decide_true,decide_false,Bool.not_true,Bool.not_false,true_and,and_true,ne_eq,not_true_eq_false,not_false_eq_true,forall_const,qA,q9] <;> rfl
   ·rw [xO,xO,heq,qB hlt,qB hlt']
    have : xs[i] = ys[i]:=by simpa using h
    rw [this]
 ·refine SW.exit ?_;simp only [go_sem,Nat.reduceAdd,Nat.reduceEqDiff,Nat.reduceLeDiff,reduceIte,qG,qH,qK,qL,qJ,qM,qD,qF,decide_true,decide_false,Bool.not_true,Bool.not_false,true_and,and_true,ne_eq,not_true_eq_false,not_false_eq_true,forall_const,qA,q9]
  refine SW.seq ?_;refine SW.row ?_;simp only [go_sem,Nat.reduceAdd,Nat.reduceEqDiff,Nat.reduceLeDiff,reduceIte,qG,qH,qK,qL,qJ,qM,qD,qF,decide_true,decide_false,Bool.not_true,Bool.not_false,true_and,and_true,ne_eq,not_true_eq_false,not_false_eq_true,forall_const,qA,q9]
  refine SW.ret ?_;(try simp only [go_sem]);refine qP (GR.of ?_);(try simp only [go_sem,Nat.reduceAdd,Nat.reduceEqDiff,Nat.reduceLeDiff,reduceIte,qG,qH,qK,qL,qJ,qM,qD,qF,decide_true,decide_false,Bool.not_true,Bool.not_false,true_and,and_true,ne_eq,not_true_eq_false,not_false_eq_true,forall_const,qA,q9])
  have hi' : i = xs.length:=by have:=of_decide_eq_false h;omega
  subst hi'
  have : xs = ys:=by
   rw [wW] at heq
   rw [heq,hlen,wW]
  simp [this]
theorem equalFunc_ok {g : Nat} (hcb : callable Tryz.prog g = true) (hg : ∀ (H : List Blk) (a b : AV) (xs ys : List Int),RdS H a xs → RdS H b ys → ACalls Tryz.prog g [a,b] H (fun r H'=>r = Bv (decide (xs = ys)) ∧ H' = H))
  (H : List Blk) (a b : AV) (xs ys : List (List Int)) (ha : RdSS H a xs) (hb : RdSS H b ys) :
  ACalls Tryz.prog f_slices_EqualFunc_LLint64_LLint64_Lint64_Lint64 [a,b,.fn g []] H (fun r H'=>r = Bv (decide (xs = ys)) ∧ H' = H):=by
 obtain ⟨ca,ha1,ha2,ha3⟩:=ha
 obtain ⟨cb,hb1,hb2,hb3⟩:=hb
 refine ACalls.intro s_slices_EqualFunc_LLint64_LLint64_Lint64_Lint64 (by simp) ?_
 refine SW.seq ?_;refine SW.row ?_;simp only [go_sem,Nat.reduceAdd,Nat.reduceEqDiff,Nat.reduceLeDiff,reduceIte,qG,qH,qK,qL,qJ,qM,qD,qF,decide_true,decide_false,Bool.not_true,Bool.not_false,true_and,and_true,ne_eq,not_true_eq_false,not_false_eq_true,forall_const,qA,q9]
 refine SW.seq ?_;refine SW.seq ?_;refine SW.row ?_;simp only [go_sem,Nat.reduceAdd,Nat.reduceEqDiff,Nat.reduceLeDiff,reduceIte,qG,qH,qK,qL,qJ,qM,qD,qF,decide_true,decide_false,Bool.not_true,Bool.not_false,true_and,and_true,ne_eq,not_true_eq_false,not_false_eq_true,forall_const,qA,q9,ha1,hb1]
 intro hla hlb
 refine SW.cond rfl (fun h=>?_) (fun h=>?_)
 ·refine SW.seq ?_;refine SW.row ?_;simp only [go_sem,Nat.reduceAdd,Nat.reduceEqDiff,Nat.reduceLeDiff,reduceIte,qG,qH,qK,qL,qJ,qM,qD,qF,decide_true,decide_false,Bool.not_true,Bool.not_false,true_and,and_true,ne_eq,not_true_eq_false,not_false_eq_true,forall_const,qA,q9]
  refine SW.ret ?_;(try simp only [go_sem]);refine qP (GR.of ?_);(try simp only [go_sem,Nat.reduceAdd,Nat.reduceEqDiff,Nat.reduceLeDiff,reduceIte,qG,qH,qK,qL,qJ,qM,qD,qF,decide_true,decide_false,Bool.not_true,Bool.not_false,true_and,and_true,ne_eq,not_true_eq_false,not_false_eq_true,forall_const,qA,q9])
  have hne : xs ≠ ys:=by rintro rfl;simp at h
  simp [hne]
 refine SW.skip ?_
 have hlen : xs.length = ys.length:=by
  have:=of_decide_eq_true (by simpa using h : decide ((xs.length : Int) = ys.length) = true)
  omega
 simp only [go_sem]
 refine SW.seq ?_;refine SW.seq ?_;refine SW.row ?_;simp only [go_sem,Nat.reduceAdd,Nat.reduceEqDiff,Nat.reduceLeDiff,reduceIte,qG,qH,qK,qL,qJ,qM,qD,qF,decide_true,decide_false,Bool.not_true,Bool.not_false,true_and,and_true,ne_eq,not_true_eq_false,not_false_eq_true,forall_const,qA,q9,ha1]
 intro _
 refine q8 ?_
 refine SW.loop (fun k E H'=>∃ i : Nat,i ≤ xs.length ∧ k = xs.length - i ∧ E = [(1,b),(2,.fn g []),(15,a),(16,I xs.length),(17,I i)] ∧ H' = H ∧ xs.take i = ys.take i) xs.length ⟨0,by omega,by omega,rfl,rfl,rfl⟩ ?_
 rintro k E H' ⟨i,hi,rfl,rfl,rfl,heq⟩
 refine SW.seq ?_;refine SW.row ?_;simp only [go_sem,Nat.reduceAdd,Nat.reduceEqDiff,Nat.reduceLeDiff,reduceIte,qG,qH,qK,qL,qJ,qM,qD,qF,decide_true,decide_false,Bool.not_true,Bool.not_false,true_and,and_true,ne_eq,not_true_eq_false,not_false_eq_true,forall_const,qA,q9];refine SW.seq ?_;refine SW.cond rfl (fun h=>?_) (fun h=>?_)
 ·have hlt : i < xs.length:=by have:=of_decide_eq_true h;omega
  have hlt' : i < ys.length:=by omega
  have hca : i < ca.length:=by omega
  have hcb' : i < cb.length:=by omega
  refine SW.skip ?_;simp only [go_sem,Nat.reduceAdd,Nat.reduceEqDiff,Nat.reduceLeDiff,reduceIte,qG,qH,qK,qL,qJ,qM,qD,qF,decide_true,decide_false,Bool.not_true,Bool.not_false,true_and,and_true,ne_eq,not_true_eq_false,not_false_eq_true,forall_const,qA,q9]
  refine SW.seq ?_;refine q8 ?_;refine SW.seq ?_;refine SW.row ?_;simp only [go_sem,Nat.reduceAdd,Nat.reduceEqDiff,Nat.reduceLeDiff,reduceIte,qG,qH,qK,qL,qJ,qM,qD,qF,decide_true,decide_false,Bool.not_true,Bool.not_false,true_and,and_true,ne_eq,not_true_eq_false,not_false_eq_true,forall_const,qA,q9,idxc ha1 hlt,ldc ha1 (qB hca)]
  refine SW.seq ?_;refine SW.row ?_;simp only [go_sem,Nat.reduceAdd,Nat.reduceEqDiff,Nat.reduceLeDiff,reduceIte,qG,qH,qK,qL,qJ,qM,qD,qF,decide_true,decide_false,Bool.not_true,Bool.not_false,true_and,and_true,ne_eq,not_true_eq_false,not_false_eq_true,forall_const,qA,q9,idxc hb1 hlt',ldc hb1 (qB hcb')]
  refine SW.seq ?_;refine SW.row ?_;simp only [go_sem,Nat.reduceAdd,Nat.reduceEqDiff,Nat.reduceLeDiff,reduceIte,qG,qH,qK,qL,qJ,qM,qD,qF,decide_true,decide_false,Bool.not_true,Bool.not_false,true_and,and_true,ne_eq,not_true_eq_false,not_false_eq_true,forall_const,qA,q9,hcb,List.append_nil]
  refine ACalls.fn (hg _ _ _ _ _ (ha3 i _ _ (qB hca) (qB hlt)) (hb3 i _ _ (qB hcb') (qB hlt'))) ?_
  simp only [go_sem,Nat.reduceAdd,Nat.reduceEqDiff,Nat.reduceLeDiff,reduceIte,qG,qH,qK,qL,qJ,qM,qD,qF,decide_true,decide_false,Bool.not_true,Bool.not_false,true_and,and_true,ne_eq,not_true_eq_false,not_false_eq_true,forall_const,qA,q9]
  refine SW.cond rfl (fun h=>?_) (fun h=>?_)
  ·refine SW.seq ?_;refine SW.row ?_;simp only [go_sem,Nat.reduceAdd,Nat.reduceEqDiff,Nat.reduceLeDiff,reduceIte,qG,qH,qK,qL,qJ,qM,qD,qF,decide_true,decide_false,Bool.not_true,Bool.not_false,true_and,and_true,ne_eq,not_true_eq_false,not_false_eq_true,forall_const,qA,q9]
   refine SW.ret ?_;(try simp only [go_sem]);refine qP (GR.of ?_);(try simp only [go_sem,Nat.reduceAdd,Nat.reduceEqDiff,Nat.reduceLeDiff,reduceIte,qG,qH,qK,qL,qJ,qM,qD,qF,decide_true,decide_false,Bool.not_true,Bool.not_false,true_and,and_true,ne_eq,not_true_eq_false,not_false_eq_true,forall_const,qA,q9])
   have hne : xs ≠ ys:=by rintro rfl;simp at h
   simp [hne]
  ·refine SW.skip ?_;simp only [go_sem,Nat.reduceAdd,Nat.reduceEqDiff,Nat.reduceLeDiff,reduceIte,qG,qH,qK,qL,qJ,qM,qD,qF,decide_true,decide_false,Bool.not_true,Bool.not_false,true_and,and_true,ne_eq,not_true_eq_false,not_false_eq_true,forall_const,qA,q9]
   refine SW.row ?_;simp only [go_sem,Nat.reduceAdd,Nat.reduceEqDiff,Nat.reduceLeDiff,reduceIte,qG,qH,qK,qL,qJ,qM,qD,qF,decide_true,decide_false,Bool.not_true,Bool.not_false,true_and,and_true,ne_eq,not_true_eq_false,not_false_eq_true,forall_const,qA,q9,w64_succ hlt hla]
   refine SLoop.next (xs.length - (i + 1)) (by omega) ⟨i + 1,by omega,rfl,?_,rfl,?_⟩
   ·simp only [go_sem,Nat.reduceAdd,Nat.reduceEqDiff,Nat.reduceLeDiff,reduceIte,qG,qH,qK,qL,qJ,qM,qD,qF,decide_true,decide_false,Bool.not_true,Bool.not_false,true_and,and_true,ne_eq,not_true_eq_false,not_false_eq_true,forall_const,qA,q9] <;> rfl
   ·rw [xO,xO,heq,qB hlt,qB hlt']
    have : xs[i] = ys[i]:=by simpa using h
    rw [this]
 ·refine SW.exit ?_;simp only [go_sem,Nat.reduceAdd,Nat.reduceEqDiff,Nat.reduceLeDiff,reduceIte,qG,qH,qK,qL,qJ,qM,qD,qF,decide_true,decide_false,Bool.not_true,Bool.not_false,true_and,and_true,ne_eq,not_true_eq_false,not_false_eq_true,forall_const,qA,q9]
  refine SW.seq ?_;refine SW.row ?_;simp only [go_sem,Nat.reduceAdd,Nat.reduceEqDiff,Nat.reduceLeDiff,reduceIte,qG,qH,qK,qL,qJ,qM,qD,qF,decide_true,decide_false,Bool.not_true,Bool.not_false,true_and,and_true,ne_eq,not_true_eq_false,not_false_eq_true,forall_const,qA,q9]
  refine SW.ret ?_;(try simp only [go_sem]);refine qP (GR.of ?_);(try simp only [go_sem,Nat.reduceAdd,Nat.reduceEqDiff,Nat.reduceLeDiff,reduceIte,qG,qH,qK,qL,qJ,qM,qD,qF,decide_true,decide_false,Bool.not_true,Bool.not_false,true_and,and_true,ne_eq,not_true_eq_false,not_false_eq_true,forall_const,qA,q9])
  have hi' : i = xs.length:=by have:=of_decide_eq_false h;omega
  subst hi'
  have : xs = ys:=by
   rw [wW] at heq
   rw [heq,hlen,wW]
  simp [this]
theorem areSame_ok (H : List Blk) (a b : AV) (xs ys : List (List Int)) (ha : RdSS H a xs) (hb : RdSS H b ys) :
  ACalls Tryz.prog f_impl_areSame [a,b] H (fun r H'=>r = Bv (decide (xs = ys)) ∧ H' = H):=by
 refine ACalls.intro s_impl_areSame (by simp) ?_
 refine SW.seq ?_;refine SW.row ?_;simp only [go_sem,Nat.reduceAdd,Nat.reduceEqDiff,Nat.reduceLeDiff,reduceIte,qG,qH,qK,qL,qJ,qM,qD,qF,decide_true,decide_false,Bool.not_true,Bool.not_false,true_and,and_true,ne_eq,not_true_eq_false,not_false_eq_true,forall_const,qA,q9]
 refine SW.seq ?_;refine SW.row ?_;simp only [go_sem,Nat.reduceAdd,Nat.reduceEqDiff,Nat.reduceLeDiff,reduceIte,qG,qH,qK,qL,qJ,qM,qD,qF,decide_true,decide_false,Bool.not_true,Bool.not_false,true_and,and_true,ne_eq,not_true_eq_false,not_false_eq_true,forall_const,qA,q9]
 refine ACalls.fn (equalFunc_ok (by kernel_rfl) slicesEqual_ok H a b xs ys ha hb) ?_
 simp only [go_sem,Nat.reduceAdd,Nat.reduceEqDiff,Nat.reduceLeDiff,reduceIte,qG,qH,qK,qL,qJ,qM,qD,qF,decide_true,decide_false,Bool.not_true,Bool.not_false,true_and,and_true,ne_eq,not_true_eq_false,not_false_eq_true,forall_const,qA,q9]
 refine SW.ret ?_;(try simp only [go_sem]);refine qP (GR.of ?_);(try simp only [go_sem,Nat.reduceAdd,Nat.reduceEqDiff,Nat.reduceLeDiff,reduceIte,qG,qH,qK,qL,qJ,qM,qD,qF,decide_true,decide_false,Bool.not_true,Bool.not_false,true_and,and_true,ne_eq,not_true_eq_false,not_false_eq_true,forall_const,qA,q9])
end Go.Proofs.YtclfmfabcnbbpaaGreat