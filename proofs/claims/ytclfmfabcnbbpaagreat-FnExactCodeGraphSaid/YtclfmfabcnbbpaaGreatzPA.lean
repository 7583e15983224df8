/- Powers up to a limit; factors; primes: the program. -/
import Derived.Test.YtclfmfabcnbbpaaGreatProg
import Derived.KernelRfl
import Derived.Test.YtclfmfabcnbbpaaGreatzGU
import Derived.Test.YtclfmfabcnbbpaaGreatzK6
import Derived.Test.YtclfmfabcnbbpaaGreatzK8
import Derived.Test.YtclfmfabcnbbpaaGreatzNM
import Derived.Test.YtclfmfabcnbbpaaGreatzK10
set_option linter.unusedSimpArgs false
set_option linter.unusedVariables false
set_option maxHeartbeats 4000000
set_option maxRecDepth 100000
open Go.Operand renaming tmp→t'
open Option renaming none→n',some→s'
open Nat renaming pow_succ→yG,mul_comm→yZ,le_refl→qZ,mul_le_mul→zI,eq_zero_or_pos→zG,sub_self→wS
open Go.Av.SW renaming block→q8,loopE→wJ,condF→wE,condT→wM,condD→wK,condN→wL,condNB→wF,condB→wH
open Go.Av.FunPost renaming one→qP,two→qS,three→qQ
open List renaming take_succ_cons→qI,take_zero→qO,take_of_length_le→qW,all_eq_true→w9,mem_range→wP,replicate→qT,set_append_right→x6,set_cons_zero→xG,append_nil→wX,mem_of_mem_drop→y6
open Go.Av.SLoop renaming next→wB
open Int renaming toNat_natCast→wA,mul_nonneg→xV,tmod_eq_emod_of_nonneg→wY,add_mul_emod_self_left→yR
namespace Go.Proofs.YtclfmfabcnbbpaaGreat
open Go.Av
abbrev f_impl_powerUpTo : Nat:=44
def c_impl_powerUpTo : SC :=
 .seq (.reg [⟨s' 6,.mv (.const (.int .i64 0)),n'⟩] [0,1,2]) (.seq (.reg [⟨s' 7,.mv (.const (.int .i64 1)),n'⟩] [0,1,2,7]) (.seq (.block 0 (.loop [0,1,2,7] (.seq (.seq (.reg [
 ⟨s' 8,.mv (t' 1),n'⟩,⟨s' 9,.bin .gtr (t' 8) (.const (.int .i64 0)),n'⟩,⟨s' 10,.mv (t' 9),n'⟩,⟨s' 11,.mv (t' 7),(some (10,true))⟩,⟨s' 12,.mv (t' 2),(some (10,true))⟩,
 ⟨s' 13,.bin .leq (t' 11) (t' 12),(some (10,true))⟩,⟨s' 14,.pick (t' 10) (t' 13) (.const (.bool false)),n'⟩] [0,1,2,7,14]) (.cond (t' 14) (.skip) (.exit 0)))
 (.seq (.block 1 (.reg [⟨s' 17,.mv (t' 7),n'⟩,⟨s' 18,.mv (t' 0),n'⟩,⟨s' 19,.bin .mul (t' 17) (t' 18),n'⟩,⟨s' 7,.mv (t' 19),n'⟩] [0,1,2,7])) (.reg [⟨s' 15,.mv (t' 1),n'⟩,
 ⟨s' 16,.bin .sub (t' 15) (.const (.int .i64 1)),n'⟩,⟨s' 1,.mv (t' 16),n'⟩] [0,1,2,7]))))) (.seq (.reg [⟨s' 20,.mv (t' 7),n'⟩,⟨s' 6,.mv (t' 20),n'⟩] [6]) (.ret))))
theorem s_impl_powerUpTo : stripF Tryz.prog 44 [[0,1,2],[0,1,2,7],[0,1,2,7],[0,1,2,7,14],[0,1,2,7],[0,1,2,7],[6]] = some (c_impl_powerUpTo,[.tmp 6],21):=by kernel_rfl
abbrev f_impl_IsPrime : Nat:=86
def c_impl_IsPrime : SC :=
 .seq (.reg [⟨s' 2,.mv (.const (.bool false)),n'⟩] [0]) (.seq (.reg [⟨s' 3,.mv (t' 0),n'⟩,⟨s' 4,.call 100 [(t' 3)],n'⟩,⟨s' 5,.len (t' 4),n'⟩,
 ⟨s' 6,.bin .eql (t' 5) (.const (.int .i64 1)),n'⟩,⟨s' 2,.mv (t' 6),n'⟩] [2]) (.ret))
theorem s_impl_IsPrime : stripF Tryz.prog 86 [[0],[2]] = some (c_impl_IsPrime,[.tmp 2],7):=by kernel_rfl
abbrev f_impl_FactorsOf : Nat:=100
def c_impl_FactorsOf : SC :=
 .seq (.reg [⟨s' 2,.mv (.const (.slice none 0 0)),n'⟩] [0]) (.seq (.seq (.reg [⟨s' 5,.mv (t' 0),n'⟩,
 ⟨s' 6,.call 63 [(t' 5),(.const (.int .i64 1)),(.const (.int .i64 1000000))],n'⟩,⟨s' 7,.un .not (t' 6),n'⟩] [0,7]) (.cond (t' 7) (.seq (.reg [
 ⟨s' 2,.mv (.const (.slice none 0 0)),n'⟩] [2]) (.ret)) (.skip))) (.seq (.reg [⟨s' 3,.mv (.const (.slice none 0 0)),n'⟩] [0,3]) (.seq (.seq (.reg [
 ⟨s' 4,.mv (.const (.int .i64 2)),n'⟩] [0,3,4]) (.block 0 (.loop [0,3,4] (.seq (.seq (.reg [⟨s' 8,.mv (t' 4),n'⟩,⟨s' 9,.mv (t' 4),n'⟩,⟨s' 10,.bin .mul (t' 8) (t' 9),n'⟩,
 ⟨s' 11,.mv (t' 0),n'⟩,⟨s' 12,.bin .leq (t' 10) (t' 11),n'⟩] [0,3,4,12]) (.cond (t' 12) (.skip) (.exit 0))) (.seq (.block 1 (.block 2 (.loop [0,3,4] (.seq (.seq (.reg [
 ⟨s' 15,.mv (t' 0),n'⟩,⟨s' 16,.mv (t' 4),n'⟩,⟨s' 17,.bin .rem (t' 15) (t' 16),n'⟩,⟨s' 18,.bin .eql (t' 17) (.const (.int .i64 0)),n'⟩] [0,3,4,18]) (.cond (t' 18) (.skip)
 (.exit 2))) (.block 3 (.seq (.reg [⟨s' 19,.mv (t' 3),n'⟩,⟨s' 20,.mv (t' 4),n'⟩,⟨s' 21,.bslice 2 1 1 [(.int .i64 0)] [(0,(t' 20))],n'⟩,⟨s' 22,.app 2 1 8 (t' 19) (t' 21),n'⟩,
 ⟨s' 3,.mv (t' 22),n'⟩] [0,3,4]) (.reg [⟨s' 23,.mv (t' 0),n'⟩,⟨s' 24,.mv (t' 4),n'⟩,⟨s' 25,.bin .quo (t' 23) (t' 24),n'⟩,⟨s' 0,.mv (t' 25),n'⟩] [0,3,4]))))))) (.reg [
 ⟨s' 13,.mv (t' 4),n'⟩,⟨s' 14,.bin .add (t' 13) (.const (.int .i64 1)),n'⟩,⟨s' 4,.mv (t' 14),n'⟩] [0,3,4])))))) (.seq (.seq (.reg [⟨s' 26,.mv (t' 0),n'⟩,
 ⟨s' 27,.bin .gtr (t' 26) (.const (.int .i64 1)),n'⟩] [0,3,27]) (.cond (t' 27) (.reg [⟨s' 28,.mv (t' 3),n'⟩,⟨s' 29,.mv (t' 0),n'⟩,
 ⟨s' 30,.bslice 2 1 1 [(.int .i64 0)] [(0,(t' 29))],n'⟩,⟨s' 31,.app 2 1 8 (t' 28) (t' 30),n'⟩,⟨s' 3,.mv (t' 31),n'⟩] [3]) (.skip))) (.seq (.reg [⟨s' 32,.mv (t' 3),n'⟩,
 ⟨s' 2,.mv (t' 32),n'⟩] [2]) (.ret))))))
theorem s_impl_FactorsOf : stripF Tryz.prog 100 [[0],[0,7],[2],[0,3],[0,3,4],[0,3,4],[0,3,4,12],[0,3,4],[0,3,4,18],[0,3,4],[0,3,4],[0,3,4],[0,3,27],[3],[2]] = some (c_impl_FactorsOf,[.tmp 2],33):=by kernel_rfl
def pwU (b l : Nat) : Nat → Nat → Nat
 | 0,a=>a
 | e + 1,a=>if a ≤ l then pwU b l e (a * b) else a
theorem pwU_le {b l : Nat} (hb : 1 ≤ b) : ∀ e a,1 ≤ a → a * b ^ e ≤ l → pwU b l e a = a * b ^ e
 | 0,a,_,_=>by simp [pwU]
 | e + 1,a,ha,h=>by
  have h1 : a * b ^ (e + 1) = a * b * b ^ e:=by rw [yG,Nat.mul_assoc,yZ b]
  have h2 : a ≤ a * b ^ (e + 1):=Nat.le_mul_of_pos_right _ (Nat.pow_pos (by omega))
  rw [pwU,if_pos (by omega),pwU_le hb e (a * b) (Nat.mul_pos (by omega) (by omega)) (by rw [← h1];exact h),h1]
theorem pwU_gt {b l : Nat} : ∀ e a,l < a * b ^ e → l < pwU b l e a
 | 0,a,h=>by simpa [pwU] using h
 | e + 1,a,h=>by
  have h1 : a * b ^ (e + 1) = a * b * b ^ e:=by rw [yG,Nat.mul_assoc,yZ b]
  rw [pwU]
  split
  ·exact pwU_gt e (a * b) (by rw [← h1];exact h)
  ·omega
theorem powerUpTo_fn (b e l : Nat) (hb : 1 ≤ b ∧ b ≤ 1000000) (hl : l ≤ 4096) (he : e ≤ 9223372036854775807) : PFn Tryz.prog f_impl_powerUpTo [I b,I e,I l] (I (pwU b l e 1 : Nat)):=by
 intro H;refine ACalls.introB s_impl_powerUpTo (by simp) ?_;intro hB hA;unfold c_impl_powerUpTo;simp (disch:=(first|omega|(simp only [go_sem];try omega))) only [go_sem,Nat.reduceAdd,Nat.reduceEqDiff,Nat.reduceLeDiff,reduceIte,w64_id,cast_succ]
 generalize hV : pwU b l e 1 = V
 repeat (first|(with_reducible first|refine SW.seq ?_|refine q8 ?_|refine SW.rowC ?_|refine SW.skip ?_|refine SW.exit ?_|intro _|refine And.intro (by omega) ?_)|simp (disch:=(first|omega|(simp only [go_sem];try omega))) only [go_sem,Nat.reduceAdd,Nat.reduceEqDiff,Nat.reduceLeDiff,reduceIte,w64_id,cast_succ])
 refine wJ (fun E0 H0 m E' H'=>∃ a : Nat,1 ≤ a ∧ a ≤ 4096 * 1000000 ∧ m ≤ e ∧ V = pwU b l m a ∧ E' = aput (aput E0 1 (I m)) 7 (I a) ∧ H' = H0) e ⟨1,by omega,by omega,qZ _,hV.symm,rfl,rfl⟩ ?_
 rintro m E' H' ⟨a,ha1,ha2,hme,hva,rfl,rfl⟩
 simp (disch:=(first|omega|(simp only [go_sem];try omega))) only [go_sem,Nat.reduceAdd,Nat.reduceEqDiff,Nat.reduceLeDiff,reduceIte,w64_id,cast_succ]
 by_cases h0 : m = 0
 ·subst h0
  rw [pwU] at hva
  subst hva
  have d0 : decide ((0 : Int) < ((0 : Nat) : Int)) = false:=rfl
  repeat (first|(with_reducible first|refine SW.seq ?_|refine q8 ?_|refine SW.rowC ?_|refine SW.skip ?_|refine SW.exit ?_|intro _|refine And.intro (by omega) ?_)|simp (disch:=(first|omega|(simp only [go_sem];try omega))) only [go_sem,Nat.reduceAdd,Nat.reduceEqDiff,Nat.reduceLeDiff,reduceIte,w64_id,cast_succ,d0])
  refine wE rfl ?_
  repeat (first|(with_reducible first|refine SW.seq ?_|refine q8 ?_|refine SW.rowC ?_|refine SW.skip ?_|refine SW.exit ?_|intro _|refine And.intro (by omega) ?_)|simp (disch:=(first|omega|(simp only [go_sem];try omega))) only [go_sem,Nat.reduceAdd,Nat.reduceEqDiff,Nat.reduceLeDiff,reduceIte,w64_id,cast_succ])
  refine SW.ret ?_;(try simp only [go_sem]);(first|refine qP ?_|refine qS ?_|refine qQ ?_);(try simp (disch:=(first|omega|(simp only [go_sem];try omega))) only [go_sem,Nat.reduceAdd,Nat.reduceEqDiff,Nat.reduceLeDiff,reduceIte,w64_id,cast_succ]);(first|(with_reducible refine GR.drop ?_ ?_;(simp only [go_sem,and_self,and_true,true_and,implies_true,qI,qO]))|refine GR.of ?_);refine ⟨?_,rfl⟩;(try with_reducible rfl)
 obtain ⟨m,rfl⟩ : ∃ m',m = m' + 1:=⟨m - 1,by omega⟩
 rw [pwU] at hva
 have d0 : decide ((0 : Int) < ((m + 1 : Nat) : Int)) = true:=decide_eq_true (by omega)
 by_cases hal : a ≤ l
 ·rw [if_pos hal] at hva
  have d1 : decide ((a : Int) ≤ l) = true:=decide_eq_true (by omega)
  have e1 : (a : Int) * (b : Int) = ((a * b : Nat) : Int):=by simp
  have e2 : ((m + 1 : Nat) : Int) - 1 = (m : Int):=by omega
  have hab : a * b ≤ 4096 * 1000000:=zI (by omega) hb.2
  have hab1 : 1 ≤ a * b:=Nat.mul_pos (by omega) (by omega)
  generalize hAB : a * b = ab at *
  repeat (first|(with_reducible first|refine SW.seq ?_|refine q8 ?_|refine SW.rowC ?_|refine SW.skip ?_|refine SW.exit ?_|intro _|refine And.intro (by omega) ?_)|simp (disch:=(first|omega|(simp only [go_sem];try omega))) only [go_sem,Nat.reduceAdd,Nat.reduceEqDiff,Nat.reduceLeDiff,reduceIte,w64_id,cast_succ,d0,d1])
  refine wM rfl ?_
  repeat (first|(with_reducible first|refine SW.seq ?_|refine q8 ?_|refine SW.rowC ?_|refine SW.skip ?_|refine SW.exit ?_|intro _|refine And.intro (by omega) ?_)|simp (disch:=(first|omega|(simp only [go_sem];try omega))) only [go_sem,Nat.reduceAdd,Nat.reduceEqDiff,Nat.reduceLeDiff,reduceIte,w64_id,cast_succ,e1,e2])
  exact wB m (by omega) ⟨ab,hab1,hab,by omega,hva,by simp [go_sem],rfl⟩
 ·rw [if_neg hal] at hva
  subst hva
  have d1 : decide ((V : Int) ≤ l) = false:=decide_eq_false (by omega)
  repeat (first|(with_reducible first|refine SW.seq ?_|refine q8 ?_|refine SW.rowC ?_|refine SW.skip ?_|refine SW.exit ?_|intro _|refine And.intro (by omega) ?_)|simp (disch:=(first|omega|(simp only [go_sem];try omega))) only [go_sem,Nat.reduceAdd,Nat.reduceEqDiff,Nat.reduceLeDiff,reduceIte,w64_id,cast_succ,d0,d1])
  refine wE rfl ?_
  repeat (first|(with_reducible first|refine SW.seq ?_|refine q8 ?_|refine SW.rowC ?_|refine SW.skip ?_|refine SW.exit ?_|intro _|refine And.intro (by omega) ?_)|simp (disch:=(first|omega|(simp only [go_sem];try omega))) only [go_sem,Nat.reduceAdd,Nat.reduceEqDiff,Nat.reduceLeDiff,reduceIte,w64_id,cast_succ])
  refine SW.ret ?_;(try simp only [go_sem]);(first|refine qP ?_|refine qS ?_|refine qQ ?_);(try simp (disch:=(first|omega|(simp only [go_sem];try omega))) only [go_sem,Nat.reduceAdd,Nat.reduceEqDiff,Nat.reduceLeDiff,reduceIte,w64_id,cast_succ]);(first|(with_reducible refine GR.drop ?_ ?_;(simp only [go_sem,and_self,and_true,true_and,implies_true,qI,qO]))|refine GR.of ?_);refine ⟨?_,rfl⟩;(try with_reducible rfl)
def inn (p : Nat) : Nat → Nat → List Int → Nat × List Int
 | 0,n,acc=>(n,acc)
 | f + 1,n,acc=>if n % p = 0 then inn p f (n / p) (acc ++ [(p : Int)]) else (n,acc)
def facs : Nat → Nat → Nat → List Int → List Int
 | 0,_,_,acc=>acc
 | f + 1,n,p,acc=>if p * p ≤ n then facs f (inn p 64 n acc).1 (p + 1) (inn p 64 n acc).2 else (if 1 < n then acc ++ [(n : Int)] else acc)
theorem sq_le {p n : Nat} (h : p * p ≤ n) (hn : n ≤ 1000000) : p ≤ 1000:=by
 apply Classical.byContradiction
 intro hc
 have : 1001 * 1001 ≤ p * p:=zI (by omega) (by omega)
 omega
theorem FactorsOf_g (n : Nat) (h1 : 1 ≤ n) (hn : n ≤ 1000000) : PFn Tryz.prog f_impl_FactorsOf [I n] (ilS (facs 1002 n 2 [])):=by
 intro H;refine ACalls.introB s_impl_FactorsOf (by simp) ?_;intro hB hA;unfold c_impl_FactorsOf;simp (disch:=(first|omega|(simp only [go_sem];try omega))) only [go_sem,Nat.reduceAdd,Nat.reduceEqDiff,Nat.reduceLeDiff,reduceIte,w64_id,cast_succ]
 have hb : (decide ((1 : Int) ≤ (n : Int)) && decide ((n : Int) ≤ 1000000)) = true:=by simp;omega
 repeat (first|(with_reducible first|refine SW.seq ?_|refine q8 ?_|refine SW.rowC ?_|refine SW.skip ?_|refine SW.exit ?_|refine PFn.use (within_fn _ _ _) ?_|refine PFn.useq (within_fn _ _ _) ?_|intro _|refine And.intro (by omega) ?_)|simp (disch:=(first|omega|(simp only [go_sem];try omega))) only [go_sem,Nat.reduceAdd,Nat.reduceEqDiff,Nat.reduceLeDiff,reduceIte,w64_id,cast_succ,hb])
 refine wE rfl ?_
 repeat (first|(with_reducible first|refine SW.seq ?_|refine q8 ?_|refine SW.rowC ?_|refine SW.skip ?_|refine SW.exit ?_|intro _|refine And.intro (by omega) ?_)|simp (disch:=(first|omega|(simp only [go_sem];try omega))) only [go_sem,Nat.reduceAdd,Nat.reduceEqDiff,Nat.reduceLeDiff,reduceIte,w64_id,cast_succ])
 refine SW.ghost (Gh.name 3 2 1 rfl) ?_
 simp (disch:=(first|omega|(simp only [go_sem];try omega))) only [go_sem,Nat.reduceAdd,Nat.reduceEqDiff,Nat.reduceLeDiff,reduceIte,w64_id,cast_succ]
 generalize hZ : facs 1002 n 2 [] = Z
 refine wJ (fun E0 H0 q E' H'=>∃ (p k ver : Nat) (acc : List Int),2 ≤ p ∧ p ≤ 1001 ∧ 1 ≤ k ∧ k ≤ n ∧ p + q = 1004 ∧ acc.length ≤ 64 * p ∧ E' = aput (aput (aput E0 4 (I p)) 0 (I k)) 3 (.nm H.length ver 0 acc.length) ∧ H' = H ++ [⟨ver,2,1,acc.map I⟩] ∧ Z = facs q k p acc) 1002 ⟨2,n,0,[],by omega,by omega,by omega,by omega,by omega,by simp,rfl,rfl,hZ.symm⟩ ?_
 rintro q E' H' ⟨p,k,ver,acc,hp2,hp7,hk1,hkn,hq,hal,rfl,rfl,hfa⟩
 have hpp : p * p ≤ 1001 * 1001:=zI (by omega) (by omega)
 have e1 : (p : Int) * (p : Int) = ((p * p : Nat) : Int):=by simp
 have hple : p ≤ p * p:=Nat.le_mul_self p
 have hp0 : ¬ (p : Int) = 0:=by omega
 simp (disch:=(first|omega|(simp only [go_sem];try omega))) only [go_sem,Nat.reduceAdd,Nat.reduceEqDiff,Nat.reduceLeDiff,reduceIte,w64_id,cast_succ]
 repeat (first|(with_reducible first|refine SW.seq ?_|refine q8 ?_|refine SW.rowC ?_|refine SW.skip ?_|refine SW.exit ?_|intro _|refine And.intro (by omega) ?_)|simp (disch:=(first|omega|(simp only [go_sem];try omega))) only [go_sem,Nat.reduceAdd,Nat.reduceEqDiff,Nat.reduceLeDiff,reduceIte,w64_id,cast_succ,e1])
 (first|refine wK rfl (fun h3=>?_) (fun h3=>?_)|refine wL rfl (fun h3=>?_) (fun h3=>?_)|refine wF rfl (fun h3=>?_) (fun h3=>?_)|refine wH rfl (fun h3=>?_) (fun h3=>?_))
 ·have h3' : p * p ≤ k:=by omega
  have hp1000:=sq_le h3' (by omega)
  obtain ⟨f,rfl⟩ : ∃ f,q = f + 1:=⟨q - 1,by omega⟩
  rw [facs,if_pos h3'] at hfa
  repeat (first|(with_reducible first|refine SW.seq ?_|refine q8 ?_|refine SW.rowC ?_|refine SW.skip ?_|refine SW.exit ?_|intro _|refine And.intro (by omega) ?_)|simp (disch:=(first|omega|(simp only [go_sem];try omega))) only [go_sem,Nat.reduceAdd,Nat.reduceEqDiff,Nat.reduceLeDiff,reduceIte,w64_id,cast_succ])
  refine wJ (fun E0 H0 q E' H'=>∃ (j ver : Nat) (ac : List Int),1 ≤ j ∧ j < 2 ^ q ∧ j ≤ k ∧ ac.length + q ≤ acc.length + 64 ∧ q ≤ 64 ∧ E' = aput (aput E0 0 (I j)) 3 (.nm H.length ver 0 ac.length) ∧ H' = H ++ [⟨ver,2,1,ac.map I⟩] ∧ inn p 64 k acc = inn p q j ac) 64 ⟨k,ver,acc,by omega,by omega,by omega,by omega,by omega,rfl,rfl,rfl⟩ ?_
  rintro q E' H' ⟨j,ver,ac,hj1,hjq,hjk,hacl,hq64,rfl,rfl,hin⟩
  have htl : (ac.map I).take ac.length = ac.map I:=qW (by simp)
  have hdm:=Nat.div_add_mod j p
  simp (disch:=(first|omega|(simp only [go_sem];try omega))) only [go_sem,Nat.reduceAdd,Nat.reduceEqDiff,Nat.reduceLeDiff,reduceIte,w64_id,cast_succ]
  repeat (first|(with_reducible first|refine SW.seq ?_|refine q8 ?_|refine SW.rowC ?_|refine SW.skip ?_|refine SW.exit ?_|intro _|refine And.intro (by omega) ?_)|simp (disch:=(first|omega|(simp only [go_sem];try omega))) only [go_sem,Nat.reduceAdd,Nat.reduceEqDiff,Nat.reduceLeDiff,reduceIte,w64_id,cast_succ,tmodN])
  (first|refine wK rfl (fun h5=>?_) (fun h5=>?_)|refine wL rfl (fun h5=>?_) (fun h5=>?_)|refine wF rfl (fun h5=>?_) (fun h5=>?_)|refine wH rfl (fun h5=>?_) (fun h5=>?_))
  ·have h5' : j % p = 0:=by omega
   obtain ⟨g,rfl⟩ : ∃ g,q = g + 1:=⟨q - 1,by
    rcases zG q with h0|h0
    ·rw [h0] at hjq;omega
    ·omega⟩
   rw [show inn p (g + 1) j ac = if j % p = 0 then inn p g (j / p) (ac ++ [(p : Int)]) else (j,ac) from rfl,if_pos h5'] at hin
   have hjp : j / p < j:=Nat.div_lt_self (by omega) (by omega)
   have hjp1 : 1 ≤ j / p:=by
    rcases zG (j / p) with h0|h0
    ·rw [h0,h5'] at hdm;omega
    ·exact h0
   have hjg : j / p < 2 ^ g:=by
    refine Nat.div_lt_of_lt_mul (Nat.lt_of_lt_of_le hjq ?_)
    rw [yG,yZ]
    exact Nat.mul_le_mul_right _ hp2
   repeat (first|(with_reducible first|refine SW.seq ?_|refine q8 ?_|refine SW.rowC ?_|refine SW.skip ?_|refine SW.exit ?_|intro _|refine And.intro (by omega) ?_)|simp (disch:=(first|omega|(simp only [go_sem];try omega))) only [go_sem,Nat.reduceAdd,Nat.reduceEqDiff,Nat.reduceLeDiff,reduceIte,w64_id,cast_succ,tdivN,htl])
   refine SLoop.nextT 1 g hB (by omega) (by omega) (by simp) ?_ ?_ ⟨j / p,ver + 1,ac ++ [(p : Int)],by omega,hjg,by omega,by simp;omega,by omega,?_,?_,hin⟩
   ·(simp only [go_sem,Nat.reduceAdd,Nat.reduceEqDiff,reduceIte,go_sem,and_self,and_true,true_and,implies_true,qI,qO,and_true,true_and];try omega)
   ·(simp only [go_sem,Nat.reduceAdd,Nat.reduceEqDiff,reduceIte,go_sem,and_self,and_true,true_and,implies_true,qI,qO,and_true,true_and];try omega)
   ·simp [go_sem]
   ·simp
  ·have h5' : ¬ j % p = 0:=by omega
   have hin2 : inn p 64 k acc = (j,ac):=by
    rw [hin]
    cases q with
    | zero=>rfl
    | succ g=>rw [show inn p (g + 1) j ac = if j % p = 0 then inn p g (j / p) (ac ++ [(p : Int)]) else (j,ac) from rfl,if_neg h5']
   rw [hin2] at hfa
   repeat (first|(with_reducible first|refine SW.seq ?_|refine q8 ?_|refine SW.rowC ?_|refine SW.skip ?_|refine SW.exit ?_|intro _|refine And.intro (by omega) ?_)|simp (disch:=(first|omega|(simp only [go_sem];try omega))) only [go_sem,Nat.reduceAdd,Nat.reduceEqDiff,Nat.reduceLeDiff,reduceIte,w64_id,cast_succ])
   refine wB f (by omega) ⟨p + 1,j,ver,ac,by omega,by omega,by omega,by omega,by omega,by omega,?_,rfl,hfa⟩
   simp [go_sem]
 ·have h3' : ¬ p * p ≤ k:=by omega
  have hfa2 : facs q k p acc = if 1 < k then acc ++ [(k : Int)] else acc:=by
   cases q with
   | zero=>exfalso;omega
   | succ f=>rw [facs,if_neg h3']
  rw [hfa,hfa2]
  repeat (first|(with_reducible first|refine SW.seq ?_|refine q8 ?_|refine SW.rowC ?_|refine SW.skip ?_|refine SW.exit ?_|intro _|refine And.intro (by omega) ?_)|simp (disch:=(first|omega|(simp only [go_sem];try omega))) only [go_sem,Nat.reduceAdd,Nat.reduceEqDiff,Nat.reduceLeDiff,reduceIte,w64_id,cast_succ])
  by_cases hk : 1 < k
  ·rw [if_pos hk]
   have hkd : decide (1 < (k : Int)) = true:=decide_eq_true (by omega)
   repeat (first|(with_reducible first|refine SW.seq ?_|refine q8 ?_|refine SW.rowC ?_|refine SW.skip ?_|refine SW.exit ?_|intro _|refine And.intro (by omega) ?_)|simp (disch:=(first|omega|(simp only [go_sem];try omega))) only [go_sem,Nat.reduceAdd,Nat.reduceEqDiff,Nat.reduceLeDiff,reduceIte,w64_id,cast_succ,hkd])
   refine wM rfl ?_
   have htl : (acc.map I).take acc.length = acc.map I:=qW (by simp)
   repeat (first|(with_reducible first|refine SW.seq ?_|refine q8 ?_|refine SW.rowC ?_|refine SW.skip ?_|refine SW.exit ?_|intro _|refine And.intro (by omega) ?_)|simp (disch:=(first|omega|(simp only [go_sem];try omega))) only [go_sem,Nat.reduceAdd,Nat.reduceEqDiff,Nat.reduceLeDiff,reduceIte,w64_id,cast_succ,htl])
   refine SW.ret ?_;(try simp only [go_sem]);(first|refine qP ?_|refine qS ?_|refine qQ ?_);(try simp (disch:=(first|omega|(simp only [go_sem];try omega))) only [go_sem,Nat.reduceAdd,Nat.reduceEqDiff,Nat.reduceLeDiff,reduceIte,w64_id,cast_succ])
   refine GR.froz (r':=ilS (acc ++ [(k : Int)])) ?_ ⟨rfl,rfl⟩
   have e:=froz_rowI (H:=H ++ [⟨ver + 1,2,1,(acc ++ [(k : Int)]).map I⟩,⟨0,2,1,[I k]⟩]) (b:=H.length) (r:=H.length) (ver:=ver + 1) (ty:=2) (xs:=acc ++ [(k : Int)]) (qZ _) (by simp)
   rw [List.length_append] at e
   exact e
  ·rw [if_neg hk]
   have hkd : decide (1 < (k : Int)) = false:=decide_eq_false (by omega)
   repeat (first|(with_reducible first|refine SW.seq ?_|refine q8 ?_|refine SW.rowC ?_|refine SW.skip ?_|refine SW.exit ?_|intro _|refine And.intro (by omega) ?_)|simp (disch:=(first|omega|(simp only [go_sem];try omega))) only [go_sem,Nat.reduceAdd,Nat.reduceEqDiff,Nat.reduceLeDiff,reduceIte,w64_id,cast_succ,hkd])
   refine wE rfl ?_
   repeat (first|(with_reducible first|refine SW.seq ?_|refine q8 ?_|refine SW.rowC ?_|refine SW.skip ?_|refine SW.exit ?_|intro _|refine And.intro (by omega) ?_)|simp (disch:=(first|omega|(simp only [go_sem];try omega))) only [go_sem,Nat.reduceAdd,Nat.reduceEqDiff,Nat.reduceLeDiff,reduceIte,w64_id,cast_succ])
   refine SW.ret ?_;(try simp only [go_sem]);(first|refine qP ?_|refine qS ?_|refine qQ ?_);(try simp (disch:=(first|omega|(simp only [go_sem];try omega))) only [go_sem,Nat.reduceAdd,Nat.reduceEqDiff,Nat.reduceLeDiff,reduceIte,w64_id,cast_succ])
   exact GR.froz (froz_rowI (r:=H.length) (ver:=ver) (ty:=2) (qZ _) (by simp)) ⟨rfl,rfl⟩
theorem FactorsOf_none (n : Int) (h : n < 1 ∨ 1000000 < n) : PFn Tryz.prog f_impl_FactorsOf [I n] nilS:=by
 intro H;refine ACalls.introB s_impl_FactorsOf (by simp) ?_;intro hB hA;unfold c_impl_FactorsOf;simp (disch:=(first|omega|(simp only [go_sem];try omega))) only [go_sem,Nat.reduceAdd,Nat.reduceEqDiff,Nat.reduceLeDiff,reduceIte,w64_id,cast_succ]
 have hb : (decide ((1 : Int) ≤ n) && decide (n ≤ 1000000)) = false:=by simp;omega
 repeat (first|(with_reducible first|refine SW.seq ?_|refine q8 ?_|refine SW.rowC ?_|refine SW.skip ?_|refine SW.exit ?_|refine PFn.use (within_fn _ _ _) ?_|refine PFn.useq (within_fn _ _ _) ?_|intro _|refine And.intro (by omega) ?_)|simp (disch:=(first|omega|(simp only [go_sem];try omega))) only [go_sem,Nat.reduceAdd,Nat.reduceEqDiff,Nat.reduceLeDiff,reduceIte,w64_id,cast_succ,hb])
 refine wM rfl ?_
 repeat (first|(with_reducible first|refine SW.seq ?_|refine q8 ?_|refine SW.rowC ?_|refine SW.skip ?_|refine SW.exit ?_|intro _|refine And.intro (by omega) ?_)|simp (disch:=(first|omega|(simp only [go_sem];try omega))) only [go_sem,Nat.reduceAdd,Nat.reduceEqDiff,Nat.reduceLeDiff,reduceIte,w64_id,cast_succ])
 refine SW.ret ?_;(try simp only [go_sem]);(first|refine qP ?_|refine qS ?_|refine qQ ?_);(try simp (disch:=(first|omega|(simp only [go_sem];try omega))) only [go_sem,Nat.reduceAdd,Nat.reduceEqDiff,Nat.reduceLeDiff,reduceIte,w64_id,cast_succ]);(first|(with_reducible refine GR.drop ?_ ?_;(simp only [go_sem,and_self,and_true,true_and,implies_true,qI,qO]))|refine GR.of ?_);refine ⟨?_,rfl⟩;(try with_reducible rfl)
def priB (n : Int) : Bool:=if 1 ≤ n ∧ n ≤ 1000000 then decide ((facs 1002 n.toNat 2 []).length = 1) else false
theorem implIsPrime_g (n : Int) : PFn Tryz.prog f_impl_IsPrime [I n] (Bv (priB n)):=by
 unfold priB
 by_cases h1 : 1 ≤ n ∧ n ≤ 1000000
 ·obtain ⟨k,rfl⟩:=Int.eq_ofNat_of_zero_le (show 0 ≤ n by omega)
  rw [if_pos h1,wA]
  intro H;refine ACalls.introB s_impl_IsPrime (by simp) ?_;intro hB hA;unfold c_impl_IsPrime;simp (disch:=(first|omega|(simp only [go_sem];try omega))) only [go_sem,Nat.reduceAdd,Nat.reduceEqDiff,Nat.reduceLeDiff,reduceIte,w64_id,cast_succ]
  repeat (first|(with_reducible first|refine SW.seq ?_|refine q8 ?_|refine SW.rowC ?_|refine SW.skip ?_|refine SW.exit ?_|refine PFn.use (FactorsOf_g k (by omega) (by omega)) ?_|refine PFn.useq (FactorsOf_g k (by omega) (by omega)) ?_|intro _|refine And.intro (by omega) ?_)|simp (disch:=(first|omega|(simp only [go_sem];try omega))) only [go_sem,Nat.reduceAdd,Nat.reduceEqDiff,Nat.reduceLeDiff,reduceIte,w64_id,cast_succ])
  refine SW.ret ?_;(try simp only [go_sem]);(first|refine qP ?_|refine qS ?_|refine qQ ?_);(try simp (disch:=(first|omega|(simp only [go_sem];try omega))) only [go_sem,Nat.reduceAdd,Nat.reduceEqDiff,Nat.reduceLeDiff,reduceIte,w64_id,cast_succ]);(first|(with_reducible refine GR.drop ?_ ?_;(simp only [go_sem,and_self,and_true,true_and,implies_true,qI,qO]))|refine GR.of ?_);refine ⟨?_,rfl⟩;(try with_reducible rfl)
  refine congrArg Bv ?_
  rw [Bool.eq_iff_iff,decide_eq_true_eq,decide_eq_true_eq];omega
 ·rw [if_neg h1]
  intro H;refine ACalls.introB s_impl_IsPrime (by simp) ?_;intro hB hA;unfold c_impl_IsPrime;simp (disch:=(first|omega|(simp only [go_sem];try omega))) only [go_sem,Nat.reduceAdd,Nat.reduceEqDiff,Nat.reduceLeDiff,reduceIte,w64_id,cast_succ]
  repeat (first|(with_reducible first|refine SW.seq ?_|refine q8 ?_|refine SW.rowC ?_|refine SW.skip ?_|refine SW.exit ?_|refine PFn.use (FactorsOf_none n (by omega)) ?_|refine PFn.useq (FactorsOf_none n (by omega)) ?_|intro _|refine And.intro (by omega) ?_)|simp (disch:=(first|omega|(simp only [go_sem];try omega))) only [go_sem,Nat.reduceAdd,Nat.reduceEqDiff,Nat.reduceLeDiff,reduceIte,w64_id,cast_succ])
  refine SW.ret ?_;(try simp only [go_sem]);(first|refine qP ?_|refine qS ?_|refine qQ ?_);(try simp (disch:=(first|omega|(simp only [go_sem];try omega))) only [go_sem,Nat.reduceAdd,Nat.reduceEqDiff,Nat.reduceLeDiff,reduceIte,w64_id,cast_succ]);(first|(with_reducible refine GR.drop ?_ ?_;(simp only [go_sem,and_self,and_true,true_and,implies_true,qI,qO]))|refine GR.of ?_);refine ⟨?_,rfl⟩;(try with_reducible rfl)
  rfl
theorem pri_all : ((List.range 65).all fun p=>(List.range 7).all fun d=>decide (p < 2) || decide (d < 1) || decide (64 < p ^ d) || (priB (p : Int) == decide (splV (p ^ d) = p))) = true:=by decide +kernel
theorem pri_spl {p d : Nat} (h1 : 2 ≤ p) (h2 : p ≤ 64) (h3 : 1 ≤ d) (h4 : d ≤ 6) (h5 : p ^ d ≤ 64) : priB (p : Int) = decide (splV (p ^ d) = p):=by
 have h:=pri_all
 rw [w9] at h
 have h:=h p (wP.2 (by omega))
 rw [w9] at h
 have h:=h d (wP.2 (by omega))
 rw [decide_eq_false (show ¬ p < 2 by omega),decide_eq_false (show ¬ d < 1 by omega),decide_eq_false (show ¬ 64 < p ^ d by omega),Bool.false_or,Bool.false_or,Bool.false_or] at h
 exact eq_of_beq h
end Go.Proofs.YtclfmfabcnbbpaaGreat
namespace Go.Proofs.YtclfmfabcnbbpaaGreat
open Go.Av
abbrev f_impl_digitsOf : Nat:=75
def c_impl_digitsOf : SC :=
 .seq (.reg [⟨s' 6,.mv (.const (.slice none 0 0)),n'⟩] [0,1,2]) (.seq (.reg [⟨s' 9,.mv (t' 2),n'⟩,⟨s' 10,.mslice 2 8 (.int .i64 0) (t' 9) (t' 9),n'⟩,
 ⟨s' 7,.mv (t' 10),n'⟩] [0,1,7]) (.seq (.seq (.reg [⟨s' 11,.mv (t' 7),n'⟩,⟨s' 12,.len (t' 11),n'⟩,⟨s' 13,.mv (.const (.int .i64 0)),n'⟩] [0,1,7,12,13])
 (.block 0 (.loop [0,1,7,12,13] (.seq (.reg [⟨s' 14,.bin .lss (t' 13) (t' 12),n'⟩] [0,1,7,12,13,14]) (.seq (.cond (t' 14) (.skip) (.exit 0)) (.seq (.block 1 (.seq (.reg [
 ⟨s' 15,.mv (t' 13),n'⟩,⟨s' 8,.mv (t' 15),n'⟩] [0,1,7,8,12,13]) (.seq (.reg [⟨s' 16,.mv (t' 7),n'⟩,⟨s' 17,.mv (t' 8),n'⟩,⟨s' 18,.mv (t' 0),n'⟩,⟨s' 19,.mv (t' 1),n'⟩,
 ⟨s' 20,.bin .rem (t' 18) (t' 19),n'⟩,⟨s' 21,.iaddr 1 (t' 16) (t' 17),n'⟩,⟨n',.store 1 (t' 21) (t' 20),n'⟩] [0,1,7,12,13]) (.reg [⟨s' 22,.mv (t' 0),n'⟩,⟨s' 23,.mv (t' 1),n'⟩,
 ⟨s' 24,.bin .quo (t' 22) (t' 23),n'⟩,⟨s' 0,.mv (t' 24),n'⟩] [0,1,7,12,13])))) (.reg [⟨s' 25,.bin .add (t' 13) (.const (.int .i64 1)),n'⟩,
 ⟨s' 13,.mv (t' 25),n'⟩] [0,1,7,12,13]))))))) (.seq (.reg [⟨s' 26,.mv (t' 7),n'⟩,⟨s' 6,.mv (t' 26),n'⟩] [6]) (.ret))))
theorem s_impl_digitsOf : stripF Tryz.prog 75 [[0,1,2],[0,1,7],[0,1,7,12,13],[0,1,7,12,13],[0,1,7,12,13,14],[0,1,7,8,12,13],[0,1,7,12,13],[0,1,7,12,13],[0,1,7,12,13],[6]] = some (c_impl_digitsOf,[.tmp 6],27):=by kernel_rfl
abbrev f_impl_numberOf : Nat:=90
def c_impl_numberOf : SC :=
 .seq (.reg [⟨s' 4,.mv (.const (.int .i64 0)),n'⟩] [0,1]) (.seq (.reg [⟨s' 5,.mv (.const (.int .i64 0)),n'⟩] [0,1,5]) (.seq (.seq (.reg [⟨s' 7,.mv (t' 0),n'⟩,
 ⟨s' 8,.len (t' 7),n'⟩,⟨s' 9,.bin .sub (t' 8) (.const (.int .i64 1)),n'⟩,⟨s' 6,.mv (t' 9),n'⟩] [0,1,5,6]) (.block 0 (.loop [0,1,5,6] (.seq (.seq (.reg [⟨s' 10,.mv (t' 6),n'⟩,
 ⟨s' 11,.bin .geq (t' 10) (.const (.int .i64 0)),n'⟩] [0,1,5,6,11]) (.cond (t' 11) (.skip) (.exit 0))) (.seq (.block 1 (.reg [⟨s' 14,.mv (t' 5),n'⟩,⟨s' 15,.mv (t' 1),n'⟩,
 ⟨s' 16,.bin .mul (t' 14) (t' 15),n'⟩,⟨s' 17,.mv (t' 0),n'⟩,⟨s' 18,.mv (t' 6),n'⟩,⟨s' 19,.iaddr 1 (t' 17) (t' 18),n'⟩,⟨s' 20,.load 1 false (t' 19),n'⟩,
 ⟨s' 21,.bin .add (t' 16) (t' 20),n'⟩,⟨s' 5,.mv (t' 21),n'⟩] [0,1,5,6])) (.reg [⟨s' 12,.mv (t' 6),n'⟩,⟨s' 13,.bin .sub (t' 12) (.const (.int .i64 1)),n'⟩,
 ⟨s' 6,.mv (t' 13),n'⟩] [0,1,5,6])))))) (.seq (.reg [⟨s' 22,.mv (t' 5),n'⟩,⟨s' 4,.mv (t' 22),n'⟩] [4]) (.ret))))
theorem s_impl_numberOf : stripF Tryz.prog 90 [[0,1],[0,1,5],[0,1,5,6],[0,1,5,6],[0,1,5,6,11],[0,1,5,6],[0,1,5,6],[4]] = some (c_impl_numberOf,[.tmp 4],23):=by kernel_rfl
abbrev f_impl_remainder : Nat:=91
def c_impl_remainder : SC :=
 .seq (.reg [⟨s' 6,.mv (.const (.slice none 0 0)),n'⟩] [0,1,2]) (.seq (.reg [⟨s' 14,.mv (t' 0),n'⟩,⟨s' 15,.call 92 [(t' 14)],n'⟩,⟨s' 7,.mv (t' 15),n'⟩] [1,2,7]) (.seq (.reg [
 ⟨s' 16,.mv (t' 1),n'⟩,⟨s' 17,.len (t' 16),n'⟩,⟨s' 18,.bin .sub (t' 17) (.const (.int .i64 1)),n'⟩,⟨s' 8,.mv (t' 18),n'⟩] [1,2,7,8]) (.seq (.seq (.reg [⟨s' 19,.mv (t' 7),n'⟩,
 ⟨s' 20,.len (t' 19),n'⟩,⟨s' 21,.bin .sub (t' 20) (.const (.int .i64 1)),n'⟩,⟨s' 9,.mv (t' 21),n'⟩] [1,2,7,8,9]) (.block 0 (.loop [1,2,7,8,9] (.seq (.seq (.reg [
 ⟨s' 22,.mv (t' 9),n'⟩,⟨s' 23,.mv (t' 8),n'⟩,⟨s' 24,.bin .geq (t' 22) (t' 23),n'⟩] [1,2,7,8,9,24]) (.cond (t' 24) (.skip) (.exit 0))) (.seq (.block 1 (.seq (.reg [
 ⟨s' 27,.mv (t' 7),n'⟩,⟨s' 28,.mv (t' 9),n'⟩,⟨s' 29,.iaddr 1 (t' 27) (t' 28),n'⟩,⟨s' 30,.load 1 false (t' 29),n'⟩,⟨s' 10,.mv (t' 30),n'⟩] [1,2,7,8,9,10]) (.seq (.reg [
 ⟨s' 31,.mv (t' 1),n'⟩,⟨s' 32,.len (t' 31),n'⟩,⟨s' 33,.mv (.const (.int .i64 0)),n'⟩] [1,2,7,8,9,10,31,32,33]) (.block 2 (.loop [1,2,7,8,9,10,31,32,33] (.seq (.reg [
 ⟨s' 34,.bin .lss (t' 33) (t' 32),n'⟩] [1,2,7,8,9,10,31,32,33,34]) (.seq (.cond (t' 34) (.skip) (.exit 2)) (.seq (.block 3 (.seq (.reg [⟨s' 35,.mv (t' 33),n'⟩,
 ⟨s' 36,.iaddr 1 (t' 31) (t' 33),n'⟩,⟨s' 37,.load 1 false (t' 36),n'⟩,⟨s' 11,.mv (t' 35),n'⟩,⟨s' 12,.mv (t' 37),n'⟩] [1,2,7,8,9,10,11,12,31,32,33]) (.seq (.reg [
 ⟨s' 38,.mv (t' 9),n'⟩,⟨s' 39,.mv (t' 8),n'⟩,⟨s' 40,.bin .sub (t' 38) (t' 39),n'⟩,⟨s' 41,.mv (t' 11),n'⟩,⟨s' 42,.bin .add (t' 40) (t' 41),n'⟩,
 ⟨s' 13,.mv (t' 42),n'⟩] [1,2,7,8,9,10,12,13,31,32,33]) (.reg [⟨s' 43,.mv (t' 7),n'⟩,⟨s' 44,.mv (t' 13),n'⟩,⟨s' 45,.mv (t' 7),n'⟩,⟨s' 46,.mv (t' 13),n'⟩,
 ⟨s' 47,.iaddr 1 (t' 45) (t' 46),n'⟩,⟨s' 48,.load 1 false (t' 47),n'⟩,⟨s' 49,.mv (t' 10),n'⟩,⟨s' 50,.mv (t' 12),n'⟩,⟨s' 51,.bin .mul (t' 49) (t' 50),n'⟩,
 ⟨s' 52,.bin .sub (t' 48) (t' 51),n'⟩,⟨s' 53,.mv (t' 2),n'⟩,⟨s' 54,.bin .rem (t' 52) (t' 53),n'⟩,⟨s' 55,.mv (t' 2),n'⟩,⟨s' 56,.bin .add (t' 54) (t' 55),n'⟩,⟨s' 57,.mv (t' 2),n'⟩,
 ⟨s' 58,.bin .rem (t' 56) (t' 57),n'⟩,⟨s' 59,.iaddr 1 (t' 43) (t' 44),n'⟩,⟨n',.store 1 (t' 59) (t' 58),n'⟩] [1,2,7,8,9,10,31,32,33])))) (.reg [
 ⟨s' 60,.bin .add (t' 33) (.const (.int .i64 1)),n'⟩,⟨s' 33,.mv (t' 60),n'⟩] [1,2,7,8,9,10,31,32,33]))))))))) (.reg [⟨s' 25,.mv (t' 9),n'⟩,
 ⟨s' 26,.bin .sub (t' 25) (.const (.int .i64 1)),n'⟩,⟨s' 9,.mv (t' 26),n'⟩] [1,2,7,8,9])))))) (.seq (.reg [⟨s' 61,.mv (t' 7),n'⟩,⟨s' 62,.mv (t' 8),n'⟩,⟨s' 63,.mv (t' 7),n'⟩,
 ⟨s' 64,.len (t' 63),n'⟩,⟨s' 65,.mm false (t' 62) (t' 64),n'⟩,⟨s' 66,.slc 1 (t' 61) none (some (t' 65)),n'⟩,⟨s' 6,.mv (t' 66),n'⟩] [6]) (.ret)))))
theorem s_impl_remainder : stripF Tryz.prog 91 [[0,1,2],[1,2,7],[1,2,7,8],[1,2,7,8,9],[1,2,7,8,9],[1,2,7,8,9,24],[1,2,7,8,9,10],[1,2,7,8,9,10,31,32,33],[1,2,7,8,9,10,31,32,33],[1,2,7,8,9,10,31,32,33,34],[1,2,7,8,9,10,11,12,31,32,33],[1,2,7,8,9,10,12,13,31,32,33],[1,2,7,8,9,10,31,32,33],[1,2,7,8,9,10,31,32,33],[1,2,7,8,9],[6]] = some (c_impl_remainder,[.tmp 6],67):=by kernel_rfl
abbrev f_impl_isZero : Nat:=101
def c_impl_isZero : SC :=
 .seq (.reg [⟨s' 2,.mv (.const (.bool false)),n'⟩] [0]) (.seq (.reg [⟨s' 3,.mv (t' 0),n'⟩,⟨s' 4,.call 88 [(t' 3),(.func 107)],n'⟩,⟨s' 5,.un .not (t' 4),n'⟩,
 ⟨s' 2,.mv (t' 5),n'⟩] [2]) (.ret))
theorem s_impl_isZero : stripF Tryz.prog 101 [[0],[2]] = some (c_impl_isZero,[.tmp 2],6):=by kernel_rfl
abbrev f_impl_isZero_c1 : Nat:=107
def c_impl_isZero_c1 : SC :=
 .seq (.reg [⟨s' 2,.mv (.const (.bool false)),n'⟩] [0]) (.seq (.reg [⟨s' 3,.mv (t' 0),n'⟩,⟨s' 4,.bin .neq (t' 3) (.const (.int .i64 0)),n'⟩,⟨s' 2,.mv (t' 4),n'⟩] [2]) (.ret))
theorem s_impl_isZero_c1 : stripF Tryz.prog 107 [[0],[2]] = some (c_impl_isZero_c1,[.tmp 2],5):=by kernel_rfl
def NewD (P : Program) (f : FuncId) (args : List AV) (xs : List Int) : Prop :=
 ∀ H,ACalls P f args H fun r H'=>r = .nm H.length 0 0 xs.length ∧ H' = H ++ [⟨0,2,1,xs.map I⟩]
theorem set_mid (acc : List Int) (m : Nat) (x : Int) : (acc ++ qT (m + 1) 0).set acc.length x = acc ++ [x] ++ qT m 0:=by
 rw [x6 _ _ (qZ _),wS,List.replicate_succ,xG];simp
theorem digitsOf_new (a p n : Nat) (h1 : 1 ≤ p) (hp : p ≤ 4096) (ha : a ≤ 100000) (hn : n ≤ 64) : NewD Tryz.prog f_impl_digitsOf [I a,I p,I n] (digL p n a):=by
 intro H
 rw [digL_len]
 have hDl:=digL_len p n a
 generalize hD : digL p n a = D at *
 refine ACalls.introB s_impl_digitsOf (by simp) ?_;intro hB hA;unfold c_impl_digitsOf;simp (disch:=(first|omega|(simp only [go_sem];try omega))) only [go_sem,Nat.reduceAdd,Nat.reduceEqDiff,Nat.reduceLeDiff,reduceIte,w64_id,cast_succ]
 repeat (first|(with_reducible first|refine SW.seq ?_|refine q8 ?_|refine SW.rowC ?_|refine SW.skip ?_|refine SW.exit ?_|intro _|refine And.intro (by omega) ?_)|simp (disch:=(first|omega|(simp only [go_sem];try omega))) only [go_sem,Nat.reduceAdd,Nat.reduceEqDiff,Nat.reduceLeDiff,reduceIte,w64_id,cast_succ,wA])
 refine wJ (fun E0 H0 q E' H'=>∃ (b : Nat) (acc : List Int),acc.length ≤ n ∧ q = n - acc.length ∧ D = acc ++ digL p (n - acc.length) b ∧ b ≤ 100000 ∧ E' = aput (aput E0 0 (I b)) 13 (I acc.length) ∧ H' = H ++ [⟨0,2,1,(acc ++ qT (n - acc.length) 0).map I⟩]) n ⟨a,[],by simp,by simp,by rw [← hD];rfl,ha,rfl,by simp⟩ ?_
 rintro q E' H' ⟨b,acc,hal,rfl,hA,hb,rfl,rfl⟩
 have hp0 : ¬ (p : Int) = 0:=by omega
 simp (disch:=(first|omega|(simp only [go_sem];try omega))) only [go_sem,Nat.reduceAdd,Nat.reduceEqDiff,Nat.reduceLeDiff,reduceIte,w64_id,cast_succ]
 repeat (first|(with_reducible first|refine SW.seq ?_|refine q8 ?_|refine SW.rowC ?_|refine SW.skip ?_|refine SW.exit ?_|intro _|refine And.intro (by omega) ?_)|simp (disch:=(first|omega|(simp only [go_sem];try omega))) only [go_sem,Nat.reduceAdd,Nat.reduceEqDiff,Nat.reduceLeDiff,reduceIte,w64_id,cast_succ])
 (first|refine wK rfl (fun h2=>?_) (fun h2=>?_)|refine wL rfl (fun h2=>?_) (fun h2=>?_)|refine wF rfl (fun h2=>?_) (fun h2=>?_)|refine wH rfl (fun h2=>?_) (fun h2=>?_))
 ·have hin : acc.length < n:=by omega
  have hm:=set_mid acc (n - (acc.length + 1)) ((b % p : Nat) : Int)
  rw [show n - (acc.length + 1) + 1 = n - acc.length by omega] at hm
  have htl : ((acc ++ qT (n - acc.length) 0).map I).take n = (acc ++ qT (n - acc.length) 0).map I:=qW (by simp;omega)
  have hll : ((acc ++ qT (n - acc.length) 0).map I).length = n:=by simp;omega
  have hbd : b / p ≤ b:=Nat.div_le_self _ _
  have hbm:=Nat.mod_le b p
  have hw : w64 ((b / p : Nat) : Int) = ((b / p : Nat) : Int):=w64_id (by generalize b / p = x at *;omega) (by generalize b / p = x at *;omega)
  rw [show n - acc.length = (n - (acc.length + 1)) + 1 by omega,digL] at hA
  have hms : ((acc ++ qT (n - acc.length) 0).map I).set acc.length (I ((b % p : Nat) : Int)) = (acc ++ [((b % p : Nat) : Int)] ++ qT (n - (acc.length + 1)) 0).map I:=by rw [← hm,List.map_set]
  generalize hX : (acc ++ qT (n - acc.length) 0).map I = X at *
  repeat (first|(with_reducible first|refine SW.seq ?_|refine q8 ?_|refine SW.rowC ?_|refine SW.skip ?_|refine SW.exit ?_|intro _|refine And.intro (by omega) ?_)|simp (disch:=(first|omega|(simp only [go_sem];try omega))) only [go_sem,Nat.reduceAdd,Nat.reduceEqDiff,Nat.reduceLeDiff,reduceIte,w64_id,cast_succ,htl,hll,tmodN,tdivN,hw,hms])
  exact wB (n - (acc.length + 1)) (by omega) ⟨b / p,acc ++ [((b % p : Nat) : Int)],by simp;omega,by simp,by rw [hA];simp,by omega,by simp [go_sem],by simp⟩
 ·have hae : acc.length = n:=by omega
  rw [hae,wS,digL,wX] at hA
  subst hA
  rw [hae,wS,List.replicate_zero,wX]
  repeat (first|(with_reducible first|refine SW.seq ?_|refine q8 ?_|refine SW.rowC ?_|refine SW.skip ?_|refine SW.exit ?_|intro _|refine And.intro (by omega) ?_)|simp (disch:=(first|omega|(simp only [go_sem];try omega))) only [go_sem,Nat.reduceAdd,Nat.reduceEqDiff,Nat.reduceLeDiff,reduceIte,w64_id,cast_succ])
  refine SW.ret ?_;(try simp only [go_sem]);(first|refine qP ?_|refine qS ?_|refine qQ ?_);(try simp (disch:=(first|omega|(simp only [go_sem];try omega))) only [go_sem,Nat.reduceAdd,Nat.reduceEqDiff,Nat.reduceLeDiff,reduceIte,w64_id,cast_succ])
  exact GR.of ⟨rfl,rfl⟩
theorem numberOf_fn (p : Nat) (xs : List Int) (h1 : 1 ≤ p) (hp : p ≤ 64) (hx : OkD p xs) (hl : xs.length ≤ 6) : PFn Tryz.prog f_impl_numberOf [ilS xs,I p] (I (numL p xs)):=by
 intro H;refine ACalls.introB s_impl_numberOf (by simp) ?_;intro hB hA;unfold c_impl_numberOf;simp (disch:=(first|omega|(simp only [go_sem];try omega))) only [go_sem,Nat.reduceAdd,Nat.reduceEqDiff,Nat.reduceLeDiff,reduceIte,w64_id,cast_succ]
 repeat (first|(with_reducible first|refine SW.seq ?_|refine q8 ?_|refine SW.rowC ?_|refine SW.skip ?_|refine SW.exit ?_|intro _|refine And.intro (by omega) ?_)|simp (disch:=(first|omega|(simp only [go_sem];try omega))) only [go_sem,Nat.reduceAdd,Nat.reduceEqDiff,Nat.reduceLeDiff,reduceIte,w64_id,cast_succ])
 refine wJ (fun E0 H0 q E' H'=>∃ k : Nat,k ≤ xs.length ∧ q = k ∧ E' = aput (aput E0 6 (I ((k : Int) - 1))) 5 (I (numL p (xs.drop k))) ∧ H' = H0) xs.length ⟨xs.length,by omega,rfl,by simp [go_sem,numL],rfl⟩ ?_
 rintro q E' H' ⟨_,hk,rfl,rfl,rfl⟩
 simp (disch:=(first|omega|(simp only [go_sem];try omega))) only [go_sem,Nat.reduceAdd,Nat.reduceEqDiff,Nat.reduceLeDiff,reduceIte,w64_id,cast_succ]
 repeat (first|(with_reducible first|refine SW.seq ?_|refine q8 ?_|refine SW.rowC ?_|refine SW.skip ?_|refine SW.exit ?_|intro _|refine And.intro (by omega) ?_)|simp (disch:=(first|omega|(simp only [go_sem];try omega))) only [go_sem,Nat.reduceAdd,Nat.reduceEqDiff,Nat.reduceLeDiff,reduceIte,w64_id,cast_succ])
 (first|refine wK rfl (fun h2=>?_) (fun h2=>?_)|refine wL rfl (fun h2=>?_) (fun h2=>?_)|refine wF rfl (fun h2=>?_) (fun h2=>?_)|refine wH rfl (fun h2=>?_) (fun h2=>?_))
 ·obtain ⟨k,rfl⟩ : ∃ k,q = k + 1:=⟨q - 1,by omega⟩
  have e1 : ((k + 1 : Nat) : Int) - 1 = (k : Int):=by omega
  have hd : xs.drop k = xs[k] :: xs.drop (k + 1):=List.drop_eq_getElem_cons (by omega)
  have hb:=numL_bd h1 (xs.drop k) fun z hz=>hx z (y6 hz)
  have hb2:=numL_bd h1 (xs.drop (k + 1)) fun z hz=>hx z (y6 hz)
  have hl1:=pow_le6 hp (show (xs.drop k).length ≤ 6 by simp;omega)
  have hx1:=hx xs[k] (List.getElem_mem _)
  have hg : xs.getD k 0 = xs[k]:=(List.getElem_eq_getD 0).symm
  rw [hd,← numL_cons] at hb
  rw [hd] at hl1
  generalize hN : numL (p : Int) (xs.drop (k + 1)) = N at *
  have h0 : 0 ≤ N * (p : Int):=xV hb2.1 (by omega)
  generalize hx0 : xs[k] = x at *
  generalize p ^ (x :: xs.drop (k + 1)).length = P1 at *
  generalize p ^ (xs.drop (k + 1)).length = P2 at *
  repeat (first|(with_reducible first|refine SW.seq ?_|refine q8 ?_|refine SW.rowC ?_|refine SW.skip ?_|refine SW.exit ?_|intro _|refine And.intro (by omega) ?_)|simp (disch:=(first|omega|(simp only [go_sem];try omega))) only [go_sem,Nat.reduceAdd,Nat.reduceEqDiff,Nat.reduceLeDiff,reduceIte,w64_id,cast_succ,e1,hg])
  refine wB k (by omega) ⟨k,by omega,rfl,?_,rfl⟩
  rw [hd,← numL_cons,hN]
  simp [go_sem]
 ·have : q = 0:=by omega
  subst this
  repeat (first|(with_reducible first|refine SW.seq ?_|refine q8 ?_|refine SW.rowC ?_|refine SW.skip ?_|refine SW.exit ?_|intro _|refine And.intro (by omega) ?_)|simp (disch:=(first|omega|(simp only [go_sem];try omega))) only [go_sem,Nat.reduceAdd,Nat.reduceEqDiff,Nat.reduceLeDiff,reduceIte,w64_id,cast_succ])
  refine SW.ret ?_;(try simp only [go_sem]);(first|refine qP ?_|refine qS ?_|refine qQ ?_);(try simp (disch:=(first|omega|(simp only [go_sem];try omega))) only [go_sem,Nat.reduceAdd,Nat.reduceEqDiff,Nat.reduceLeDiff,reduceIte,w64_id,cast_succ]);(first|(with_reducible refine GR.drop ?_ ?_;(simp only [go_sem,and_self,and_true,true_and,implies_true,qI,qO]))|refine GR.of ?_);refine ⟨?_,rfl⟩;(try with_reducible rfl)
theorem remE {p o f b : Int} (hp : 0 < p) (ho : 0 ≤ o ∧ o < p) (hf : 0 ≤ f ∧ f < p) (hb : 0 ≤ b ∧ b < p) : ((o - f * b).tmod p + p).tmod p = (o + (p - f) * b).tmod p:=by
 have h0 : 0 ≤ f * b:=xV hf.1 hb.1
 have h1 : 0 ≤ (p - f) * b:=xV (by omega) hb.1
 have h2:=Int.lt_tmod_of_pos (o - f * b) hp
 rw [wY (show 0 ≤ (o - f * b).tmod p + p by omega),wY (show 0 ≤ o + (p - f) * b by omega)]
 have h3 : (o - f * b).tmod p = (o - f * b) - p * (o - f * b).tdiv p:=Int.tmod_def _ _
 have e : (p - f) * b = p * b - f * b:=Int.sub_mul p f b
 rw [h3,e,show o - f * b - p * (o - f * b).tdiv p + p = (o - f * b) + p * (1 - (o - f * b).tdiv p) by rw [Int.mul_sub,Int.mul_one];omega,show o + (p * b - f * b) = (o - f * b) + p * b by omega,yR,yR]
theorem remainder_new (p : Nat) (a by' : List Int) (h1 : 1 ≤ p) (hp : p ≤ 64) (ha : OkD p a) (hb : OkD p by') (hl : a.length ≤ 64) (hn1 : 1 ≤ by'.length) (hn : by'.length ≤ 64) : NewL Tryz.prog f_impl_remainder [ilS a,ilS by',I p] (restL a by' p):=by
 intro H
 refine ACalls.introB s_impl_remainder (by simp) ?_;intro hB hA;unfold c_impl_remainder;simp (disch:=(first|omega|(simp only [go_sem];try omega))) only [go_sem,Nat.reduceAdd,Nat.reduceEqDiff,Nat.reduceLeDiff,reduceIte,w64_id,cast_succ]
 have hp0 : ¬ (p : Int) = 0:=by omega
 repeat (first|(with_reducible first|refine SW.seq ?_|refine q8 ?_|refine SW.rowC ?_|refine SW.skip ?_|refine SW.exit ?_|intro _|refine And.intro (by omega) ?_)|simp (disch:=(first|omega|(simp only [go_sem];try omega))) only [go_sem,Nat.reduceAdd,Nat.reduceEqDiff,Nat.reduceLeDiff,reduceIte,w64_id,cast_succ])
 refine (clone_ok _ (ilS a) a (rd_ilS _ _) (by omega)).mono ?_
 rintro r H2 ⟨ver,rfl,rfl⟩
 repeat (first|(with_reducible first|refine SW.seq ?_|refine q8 ?_|refine SW.rowC ?_|refine SW.skip ?_|refine SW.exit ?_|intro _|refine And.intro (by omega) ?_)|simp (disch:=(first|omega|(simp only [go_sem];try omega))) only [go_sem,Nat.reduceAdd,Nat.reduceEqDiff,Nat.reduceLeDiff,reduceIte,w64_id,cast_succ])
 generalize hR : rstO p by' (a.length + 1 - by'.length) a = R
 have hRn : restL a by' p = R.take (by'.length - 1):=by rw [← hR];rfl
 rw [hRn]
 have hRk:=rstO_ok (p:=(p : Int)) (by omega) (by omega) hb (a.length + 1 - by'.length) a ha
 rw [hR] at hRk
 have ed : (by'.length : Int) - 1 = ((by'.length - 1 : Nat) : Int):=by omega
 rw [ed]
 refine wJ (fun E0 H0 q E' H'=>∃ (i : Int) (o : List Int),(i + 2 = q + by'.length ∨ (q = 0 ∧ i + 1 < by'.length)) ∧ i < a.length ∧ -1 ≤ i ∧ o.length = a.length ∧ OkD p o ∧ R = rstO p by' q o ∧ E' = aput E0 9 (I i) ∧ H' = H ++ [⟨ver,2,1,o.map I⟩]) (a.length + 1 - by'.length) ⟨(a.length : Int) - 1,a,by omega,by omega,by omega,rfl,ha,hR.symm,rfl,rfl⟩ ?_
 rintro q E' H' ⟨i,o,hi,hil,hi0,hol,ho,hq,rfl,rfl⟩
 simp (disch:=(first|omega|(simp only [go_sem];try omega))) only [go_sem,Nat.reduceAdd,Nat.reduceEqDiff,Nat.reduceLeDiff,reduceIte,w64_id,cast_succ]
 repeat (first|(with_reducible first|refine SW.seq ?_|refine q8 ?_|refine SW.rowC ?_|refine SW.skip ?_|refine SW.exit ?_|intro _|refine And.intro (by omega) ?_)|simp (disch:=(first|omega|(simp only [go_sem];try omega))) only [go_sem,Nat.reduceAdd,Nat.reduceEqDiff,Nat.reduceLeDiff,reduceIte,w64_id,cast_succ])
 (first|refine wK rfl (fun h2=>?_) (fun h2=>?_)|refine wL rfl (fun h2=>?_) (fun h2=>?_)|refine wF rfl (fun h2=>?_) (fun h2=>?_)|refine wH rfl (fun h2=>?_) (fun h2=>?_))
 ·obtain ⟨f,rfl⟩ : ∃ f,q = f + 1:=⟨q - 1,by omega⟩
  have hif : i = ((f + (by'.length - 1) : Nat) : Int):=by omega
  subst hif
  have hfl : f + (by'.length - 1) < o.length:=by omega
  rw [rstO] at hq
  have hc:=ho.getD (show (0 : Int) < p by omega) (f + (by'.length - 1))
  have hto : (o.map I).take a.length = o.map I:=qW (by simp;omega)
  generalize hc0 : o.getD (f + (by'.length - 1)) 0 = c at *
  generalize hS : rstI p by' f c by'.length o = S at *
  repeat (first|(with_reducible first|refine SW.seq ?_|refine q8 ?_|refine SW.rowC ?_|refine SW.skip ?_|refine SW.exit ?_|intro _|refine And.intro (by omega) ?_)|simp (disch:=(first|omega|(simp only [go_sem];try omega))) only [go_sem,Nat.reduceAdd,Nat.reduceEqDiff,Nat.reduceLeDiff,reduceIte,w64_id,cast_succ,hto,hc0])
  refine wJ (fun E0 H0 m E' H'=>∃ (k : Nat) (x : List Int),k ≤ by'.length ∧ m = by'.length - k ∧ x.length = a.length ∧ OkD p x ∧ S = rstI p by' f c (by'.length - k) x ∧ E' = aput E0 33 (I k) ∧ H' = H ++ [⟨ver,2,1,x.map I⟩]) by'.length ⟨0,o,by omega,by omega,hol,ho,by rw [← hS];rfl,rfl,rfl⟩ ?_
  rintro m E' H' ⟨k,x,hk,rfl,hxl,hx,hs,rfl,rfl⟩
  simp (disch:=(first|omega|(simp only [go_sem];try omega))) only [go_sem,Nat.reduceAdd,Nat.reduceEqDiff,Nat.reduceLeDiff,reduceIte,w64_id,cast_succ]
  repeat (first|(with_reducible first|refine SW.seq ?_|refine q8 ?_|refine SW.rowC ?_|refine SW.skip ?_|refine SW.exit ?_|intro _|refine And.intro (by omega) ?_)|simp (disch:=(first|omega|(simp only [go_sem];try omega))) only [go_sem,Nat.reduceAdd,Nat.reduceEqDiff,Nat.reduceLeDiff,reduceIte,w64_id,cast_succ])
  (first|refine wK rfl (fun h3=>?_) (fun h3=>?_)|refine wL rfl (fun h3=>?_) (fun h3=>?_)|refine wF rfl (fun h3=>?_) (fun h3=>?_)|refine wH rfl (fun h3=>?_) (fun h3=>?_))
  ·have hkn : k < by'.length:=by omega
   rw [show by'.length - k = (by'.length - (k + 1)) + 1 by omega,rstI] at hs
   rw [show by'.length - (by'.length - (k + 1) + 1) = k by omega] at hs
   have hb1:=hb.getD (show (0 : Int) < p by omega) k
   have hx1:=hx.getD (show (0 : Int) < p by omega) (f + k)
   obtain ⟨d1,d2,d3⟩:=rst_bd (p:=p) (by omega) hc hb1 hx1
   have hrem:=remE (show (0 : Int) < p by omega) hx1 hc hb1
   have hx':=hx.set (f + k) d3
   have htx : (x.map I).take a.length = x.map I:=qW (by simp;omega)
   have hcb0 : 0 ≤ c * by'.getD k 0:=xV hc.1 hb1.1
   have hcb1 : c * by'.getD k 0 ≤ 64 * 64:=Int.mul_le_mul (by omega) (by omega) hb1.1 (by omega)
   have ht1:=Int.lt_tmod_of_pos (x.getD (f + k) 0 - c * by'.getD k 0) (show (0 : Int) < p by omega)
   have ht2:=Int.tmod_lt_of_pos (x.getD (f + k) 0 - c * by'.getD k 0) (show (0 : Int) < p by omega)
   rw [← hrem] at hs hx'
   generalize hbk : by'.getD k 0 = bk at *
   generalize hxk : x.getD (f + k) 0 = xk at *
   generalize hpr : c * bk = pr at *
   have hw1 : w64 (xk - pr) = xk - pr:=w64_id (by omega) (by omega)
   have hw2 : w64 ((xk - pr).tmod p) = (xk - pr).tmod p:=w64_id (by omega) (by omega)
   have e1 : ((f + (by'.length - 1) : Nat) : Int) - ((by'.length - 1 : Nat) : Int) + (k : Int) = ((f + k : Nat) : Int):=by omega
   generalize hrm : (xk - pr).tmod p = rm at *
   repeat (first|(with_reducible first|refine SW.seq ?_|refine q8 ?_|refine SW.rowC ?_|refine SW.skip ?_|refine SW.exit ?_|intro _|refine And.intro (by omega) ?_)|simp (disch:=(first|omega|(simp only [go_sem];try omega))) only [go_sem,Nat.reduceAdd,Nat.reduceEqDiff,Nat.reduceLeDiff,reduceIte,w64_id,cast_succ,htx,e1,hbk,hxk,hpr,hw1,hw2,hrm])
   exact wB (by'.length - (k + 1)) (by omega) ⟨k + 1,_,by omega,rfl,by rw [List.length_set];exact hxl,hx',hs,by simp [go_sem],rfl⟩
  ·have hkn : k = by'.length:=by omega
   rw [hkn,wS,rstI] at hs
   subst hs
   repeat (first|(with_reducible first|refine SW.seq ?_|refine q8 ?_|refine SW.rowC ?_|refine SW.skip ?_|refine SW.exit ?_|intro _|refine And.intro (by omega) ?_)|simp (disch:=(first|omega|(simp only [go_sem];try omega))) only [go_sem,Nat.reduceAdd,Nat.reduceEqDiff,Nat.reduceLeDiff,reduceIte,w64_id,cast_succ])
   refine wB f (by omega) ⟨((f + (by'.length - 1) : Nat) : Int) - 1,S,by omega,by omega,by omega,hxl,hx,hq,by simp [go_sem],rfl⟩
 ·have hq0 : q = 0:=by omega
  subst hq0
  rw [rstO] at hq
  subst hq
  obtain ⟨M,hM1,hM2,hM3⟩ : ∃ M : Nat,(if (a.length : Int) < ((by'.length - 1 : Nat) : Int) then (a.length : Int) else ((by'.length - 1 : Nat) : Int)) = (M : Int) ∧ M ≤ a.length ∧ (M = by'.length - 1 ∨ M = a.length ∧ a.length ≤ by'.length - 1):=by
   by_cases h : (a.length : Int) < ((by'.length - 1 : Nat) : Int)
   ·exact ⟨a.length,by rw [if_pos h],qZ _,.inr ⟨rfl,by omega⟩⟩
   ·exact ⟨by'.length - 1,by rw [if_neg h],by omega,.inl rfl⟩
  have hvw : aview (H ++ [⟨ver,2,1,R.map I⟩]) (.nm H.length ver 0 a.length) = some (a.length,R.map I):=view_nm (ty:=2) (by simp) (by rw [List.length_map];exact hRk.2)
  repeat (first|(with_reducible first|refine SW.seq ?_|refine q8 ?_|refine SW.rowC ?_|refine SW.skip ?_|refine SW.exit ?_|intro _|refine And.intro (by omega) ?_)|simp (disch:=(first|omega|(simp only [go_sem];try omega))) only [go_sem,Nat.reduceAdd,Nat.reduceEqDiff,Nat.reduceLeDiff,reduceIte,w64_id,cast_succ,hM1,hvw,Option.map_some,Option.map_none])
  rw [SlcG_nm (by simp) (by omega) (by omega),wA]
  repeat (first|(with_reducible first|refine SW.seq ?_|refine q8 ?_|refine SW.rowC ?_|refine SW.skip ?_|refine SW.exit ?_|intro _|refine And.intro (by omega) ?_)|simp (disch:=(first|omega|(simp only [go_sem];try omega))) only [go_sem,Nat.reduceAdd,Nat.reduceEqDiff,Nat.reduceLeDiff,reduceIte,w64_id,cast_succ])
  refine SW.ret ?_;(try simp only [go_sem]);(first|refine qP ?_|refine qS ?_|refine qQ ?_);(try simp (disch:=(first|omega|(simp only [go_sem];try omega))) only [go_sem,Nat.reduceAdd,Nat.reduceEqDiff,Nat.reduceLeDiff,reduceIte,w64_id,cast_succ])
  have hRt : R.take M = R.take (by'.length - 1):=by
   rcases hM3 with h|h
   ·rw [h]
   ·rw [qW (by rw [hRk.2];omega),qW (by rw [hRk.2];omega)]
  have htk : (R.take (by'.length - 1)).length = M:=by rw [List.length_take,hRk.2];omega
  refine GR.trunc (i:=H.length) (ver:=ver) (ty:=2) (cells:=R.map I) M (by simp) ?_
  rw [x6 _ _ (qZ _),wS,xG,← List.map_take,hRt]
  have hn:=newL_of (H:=H) (k:=H.length) (ver:=ver) (ty:=2) (xs:=R.take (by'.length - 1)) (ext:=[⟨ver,2,1,(R.take (by'.length - 1)).map I⟩]) (qZ _) (by simp)
  rw [htk] at hn
  exact GR.of hn
theorem isZero_c1_fn (x : Int) : PFn Tryz.prog f_impl_isZero_c1 [I x] (Bv (!decide (x = 0))):=by
 intro H;refine ACalls.introB s_impl_isZero_c1 (by simp) ?_;intro hB hA;unfold c_impl_isZero_c1;simp (disch:=(first|omega|(simp only [go_sem];try omega))) only [go_sem,Nat.reduceAdd,Nat.reduceEqDiff,Nat.reduceLeDiff,reduceIte,w64_id,cast_succ]
 repeat (first|(with_reducible first|refine SW.seq ?_|refine q8 ?_|refine SW.rowC ?_|refine SW.skip ?_|refine SW.exit ?_|intro _|refine And.intro (by omega) ?_)|simp (disch:=(first|omega|(simp only [go_sem];try omega))) only [go_sem,Nat.reduceAdd,Nat.reduceEqDiff,Nat.reduceLeDiff,reduceIte,w64_id,cast_succ])
 refine SW.ret ?_;(try simp only [go_sem]);(first|refine qP ?_|refine qS ?_|refine qQ ?_);(try simp (disch:=(first|omega|(simp only [go_sem];try omega))) only [go_sem,Nat.reduceAdd,Nat.reduceEqDiff,Nat.reduceLeDiff,reduceIte,w64_id,cast_succ]);(first|(with_reducible refine GR.drop ?_ ?_;(simp only [go_sem,and_self,and_true,true_and,implies_true,qI,qO]))|refine GR.of ?_);refine ⟨?_,rfl⟩;(try with_reducible rfl)
theorem isZero_call : callable Tryz.prog f_impl_isZero_c1 = true:=by kernel_rfl
theorem isZero_fn (xs : List Int) : PFn Tryz.prog f_impl_isZero [ilS xs] (Bv (xs.all fun x=>decide (x = 0))):=by
 intro H;refine ACalls.introB s_impl_isZero (by simp) ?_;intro hB hA;unfold c_impl_isZero;simp (disch:=(first|omega|(simp only [go_sem];try omega))) only [go_sem,Nat.reduceAdd,Nat.reduceEqDiff,Nat.reduceLeDiff,reduceIte,w64_id,cast_succ]
 repeat (first|(with_reducible first|refine SW.seq ?_|refine q8 ?_|refine SW.rowC ?_|refine SW.skip ?_|refine SW.exit ?_|intro _|refine And.intro (by omega) ?_)|simp (disch:=(first|omega|(simp only [go_sem];try omega))) only [go_sem,Nat.reduceAdd,Nat.reduceEqDiff,Nat.reduceLeDiff,reduceIte,w64_id,cast_succ])
 refine (conS_ok I _ (ilS xs) xs rfl f_impl_isZero_c1 [] isZero_call (fun x=>!decide (x = 0)) (fun x hx=>isZero_c1_fn x _)).mono ?_
 rintro r H' ⟨rfl,rfl⟩
 repeat (first|(with_reducible first|refine SW.seq ?_|refine q8 ?_|refine SW.rowC ?_|refine SW.skip ?_|refine SW.exit ?_|intro _|refine And.intro (by omega) ?_)|simp (disch:=(first|omega|(simp only [go_sem];try omega))) only [go_sem,Nat.reduceAdd,Nat.reduceEqDiff,Nat.reduceLeDiff,reduceIte,w64_id,cast_succ])
 refine SW.ret ?_;(try simp only [go_sem]);(first|refine qP ?_|refine qS ?_|refine qQ ?_);(try simp (disch:=(first|omega|(simp only [go_sem];try omega))) only [go_sem,Nat.reduceAdd,Nat.reduceEqDiff,Nat.reduceLeDiff,reduceIte,w64_id,cast_succ]);(first|(with_reducible refine GR.drop ?_ ?_;(simp only [go_sem,and_self,and_true,true_and,implies_true,qI,qO]))|refine GR.of ?_);refine ⟨?_,rfl⟩;(try with_reducible rfl)
 rw [List.any_eq_not_all_not]
 simp
end Go.Proofs.YtclfmfabcnbbpaaGreat