/- Sums in fields. -/
import Derived.Test.YtclfmfabcnbbpaaGreatProg
import Derived.KernelRfl
import Derived.Test.YtclfmfabcnbbpaaGreatzGX
import Derived.Test.YtclfmfabcnbbpaaGreatzK19
set_option linter.unusedSimpArgs false
set_option linter.unusedVariables false
set_option maxHeartbeats 4000000
set_option maxRecDepth 100000
open Go.Operand renaming tmp→t'
open Option renaming none→n',some→s'
open List renaming getD_eq_getElem?_getD→qE,length_map→w8,length_range→xJ,getElem?_eq_some_iff→qC,take_of_length_le→qW,take_succ_cons→qI,take_zero→qO,replicate→qT
open Nat renaming sub_self→wS
open Int renaming mul_nonneg→xV,mul_le_mul→zU,tmod_eq_emod_of_nonneg→wY
open Go.Av.SW renaming block→q8,loopE→wJ,condD→wK,condN→wL,condNB→wF,condB→wH
open Go.Av.SLoop renaming next→wB
open Go.Av.FunPost renaming three→qQ
namespace Go.Proofs.YtclfmfabcnbbpaaGreat
open Go.Av
abbrev f_spec_l03Sum : Nat:=85
def c_spec_l03Sum : SC :=
 .seq (.reg [⟨s' 8,.mv (.const (.int .i64 0)),n'⟩] [0,1,2,3]) (.seq (.reg [⟨s' 12,.mv (t' 1),n'⟩,⟨s' 13,.mv (t' 0),n'⟩,⟨s' 14,.nilc (t' 13),n'⟩,⟨s' 15,.faddr 0 (t' 14),n'⟩,
 ⟨s' 16,.load 1 false (t' 15),n'⟩,⟨s' 17,.mv (t' 0),n'⟩,⟨s' 18,.nilc (t' 17),n'⟩,⟨s' 19,.faddr 1 (t' 18),n'⟩,⟨s' 20,.load 1 false (t' 19),n'⟩,
 ⟨s' 21,.fcall 96 [(t' 12),(t' 16),(t' 20)],n'⟩,⟨s' 9,.mv (t' 21),n'⟩] [0,2,3,9]) (.seq (.reg [⟨s' 22,.mv (t' 2),n'⟩,⟨s' 23,.mv (t' 0),n'⟩,⟨s' 24,.nilc (t' 23),n'⟩,
 ⟨s' 25,.faddr 0 (t' 24),n'⟩,⟨s' 26,.load 1 false (t' 25),n'⟩,⟨s' 27,.mv (t' 0),n'⟩,⟨s' 28,.nilc (t' 27),n'⟩,⟨s' 29,.faddr 1 (t' 28),n'⟩,⟨s' 30,.load 1 false (t' 29),n'⟩,
 ⟨s' 31,.fcall 96 [(t' 22),(t' 26),(t' 30)],n'⟩,⟨s' 10,.mv (t' 31),n'⟩] [0,3,9,10]) (.seq (.seq (.reg [⟨s' 11,.mv (.const (.int .i64 0)),n'⟩] [0,3,9,10,11])
 (.block 0 (.loop [0,3,9,10,11] (.seq (.seq (.reg [⟨s' 32,.mv (t' 11),n'⟩,⟨s' 33,.mv (t' 9),n'⟩,⟨s' 34,.len (t' 33),n'⟩,⟨s' 35,.bin .lss (t' 32) (t' 34),n'⟩] [0,3,9,10,11,35])
 (.cond (t' 35) (.skip) (.exit 0))) (.seq (.block 1 (.reg [⟨s' 38,.mv (t' 9),n'⟩,⟨s' 39,.mv (t' 11),n'⟩,⟨s' 40,.mv (t' 9),n'⟩,⟨s' 41,.mv (t' 11),n'⟩,
 ⟨s' 42,.iaddr 1 (t' 40) (t' 41),n'⟩,⟨s' 43,.load 1 false (t' 42),n'⟩,⟨s' 44,.mv (t' 3),n'⟩,⟨s' 45,.mv (t' 10),n'⟩,⟨s' 46,.mv (t' 11),n'⟩,⟨s' 47,.iaddr 1 (t' 45) (t' 46),n'⟩,
 ⟨s' 48,.load 1 false (t' 47),n'⟩,⟨s' 49,.bin .mul (t' 44) (t' 48),n'⟩,⟨s' 50,.bin .add (t' 43) (t' 49),n'⟩,⟨s' 51,.mv (t' 0),n'⟩,⟨s' 52,.nilc (t' 51),n'⟩,
 ⟨s' 53,.faddr 0 (t' 52),n'⟩,⟨s' 54,.load 1 false (t' 53),n'⟩,⟨s' 55,.bin .rem (t' 50) (t' 54),n'⟩,⟨s' 56,.iaddr 1 (t' 38) (t' 39),n'⟩,
 ⟨n',.store 1 (t' 56) (t' 55),n'⟩] [0,3,9,10,11])) (.reg [⟨s' 36,.mv (t' 11),n'⟩,⟨s' 37,.bin .add (t' 36) (.const (.int .i64 1)),n'⟩,⟨s' 11,.mv (t' 37),n'⟩] [0,3,9,10,11]))))))
 (.seq (.reg [⟨s' 57,.mv (t' 9),n'⟩,⟨s' 58,.mv (t' 0),n'⟩,⟨s' 59,.nilc (t' 58),n'⟩,⟨s' 60,.faddr 0 (t' 59),n'⟩,⟨s' 61,.load 1 false (t' 60),n'⟩,
 ⟨s' 62,.call 98 [(t' 57),(t' 61)],n'⟩,⟨s' 8,.mv (t' 62),n'⟩] [8]) (.ret)))))
theorem s_spec_l03Sum : stripF Tryz.prog 85 [[0,1,2,3],[0,2,3,9,1001009],[0,3,9,10,1001009],[0,3,9,10,11],[0,3,9,10,11],[0,3,9,10,11,35],[0,3,9,10,11],[0,3,9,10,11],[8]] = some (c_spec_l03Sum,[.tmp 8],63):=by kernel_rfl
def fdC (ty P K : Nat) (L : List Int) (rest : List AV) : Blk:=⟨0,ty,1,I P :: I K :: ilS L :: rest⟩
def sumX (p k : Int) (x y : List Int) (i : Nat) : Int:=(x.getD i 0 + k * y.getD i 0).tmod p
def sumT (p k : Int) (x y : List Int) (i : Nat) : List Int:=(List.range i).map (sumX p k x y) ++ x.drop i
theorem sumT_len (p k : Int) (x y : List Int) {i : Nat} (h : i ≤ x.length) : (sumT p k x y i).length = x.length:=by unfold sumT;simp;omega
theorem sumT_get (p k : Int) (x y : List Int) {i : Nat} (h : i < x.length) : (sumT p k x y i).getD i 0 = x.getD i 0:=by
 unfold sumT
 rw [qE,List.getElem?_append_right (by simp),w8,xJ,wS,List.getElem?_drop,Nat.add_zero,qE]
theorem sumT_set (p k : Int) (x y : List Int) {i : Nat} (h : i < x.length) : (sumT p k x y i).set i (sumX p k x y i) = sumT p k x y (i + 1):=by
 unfold sumT
 rw [List.set_append_right _ _ (by simp),w8,xJ,wS,List.range_succ,List.map_append,List.append_assoc,List.drop_eq_getElem_cons h]
 rfl
def sumG (P K a b k : Nat) : Int:=numL P (sumT P k (digL P K a) (digL P K b) K)
theorem sumX_bd {p k : Int} {x y : List Int} (hp : 0 < p ∧ p ≤ 64) (hk : 0 ≤ k ∧ k ≤ 100) (hx : OkD p x) (hy : OkD p y) (i : Nat) : 0 ≤ k * y.getD i 0 ∧ k * y.getD i 0 ≤ 6400 ∧ 0 ≤ sumX p k x y i ∧ sumX p k x y i < p:=by
 have h1:=hx.getD hp.1 i
 have h2:=hy.getD hp.1 i
 have h3 : 0 ≤ k * y.getD i 0:=xV hk.1 h2.1
 have h4 : k * y.getD i 0 ≤ 100 * 64:=zU (by omega) (by omega) h2.1 (by omega)
 refine ⟨h3,by omega,?_⟩
 unfold sumX
 rw [wY (by omega)]
 exact ⟨Int.emod_nonneg _ (by omega),Int.emod_lt_of_pos _ (by omega)⟩
theorem sumT_ok {p k : Int} {x y : List Int} (hp : 0 < p ∧ p ≤ 64) (hk : 0 ≤ k ∧ k ≤ 100) (hx : OkD p x) (hy : OkD p y) (i : Nat) : OkD p (sumT p k x y i):=fun z hz=>by
 unfold sumT at hz
 rcases List.mem_append.1 hz with h|h
 ·obtain ⟨j,_,rfl⟩:=List.mem_map.1 h
  exact (sumX_bd hp hk hx hy j).2.2
 ·exact hx z (List.mem_of_mem_drop h)
theorem sumG_bd {P K a b k : Nat} (h2 : 2 ≤ P) (h6 : P ≤ 64) (hk : k ≤ 100) : 0 ≤ sumG P K a b k ∧ sumG P K a b k < ((P ^ K : Nat) : Int):=by
 have h:=numL_bd (p:=P) (by omega) _ (sumT_ok (p:=(P : Int)) (k:=(k : Int)) (by omega) (by omega) (digL_ok (p:=P) (by omega) K a) (digL_ok (p:=P) (by omega) K b) K)
 rw [sumT_len _ _ _ _ (by rw [digL_len];exact Nat.le_refl _),digL_len] at h
 unfold sumG
 omega
theorem FcallW.rowD {P : Program} {f : FuncId} {args : List AV} {X : List Blk} {xs : List Int} {n : Nat} {K : AV → List Blk → Prop} (h : ACalls P f args X fun r H'=>∃ ver,r = .nm X.length ver 0 n ∧ H' = X ++ [⟨ver,2,1,xs.map I⟩])
  (hk : ∀ ver,K (.nm X.length ver 0 n) (X ++ [⟨ver,2,1,xs.map I⟩])) : FcallW P f args X K :=
 h.mono (by rintro r H' ⟨ver,rfl,rfl⟩;exact ⟨hk ver,_,rfl⟩)
theorem l03Sum_g (H : List Blk) (r ty P K : Nat) (L : List Int) (rest : List AV) (a b k : Nat) (hr : H[r]? = some (fdC ty P K L rest)) (hpb : 2 ≤ P ∧ P ≤ 64) (hkb : 1 ≤ K ∧ K ≤ 6) (ha : a ≤ 1000) (hb : b ≤ 1000) (hk : k ≤ 100) : ACalls Tryz.prog f_spec_l03Sum [.pc r 0 0,I a,I b,I k] H (fun v H'=>v = I (sumG P K a b k) ∧ H' = H):=by
 refine ACalls.introB s_spec_l03Sum (by simp) ?_;intro hB hA;unfold c_spec_l03Sum;simp (disch:=(first|omega|(simp only [go_sem];try omega))) only [go_sem,Nat.reduceAdd,Nat.reduceEqDiff,Nat.reduceLeDiff,reduceIte,w64_id,cast_succ]
 have hrl:=(qC.1 hr).1
 have xa:=fun o e=>pc_alive (off:=o) (get_appU hr e)
 have xl:=fun o e=>pc_ld (off:=o) (get_appU hr e)
 have xa0:=fun o=>pc_alive (off:=o) hr
 have xl0:=fun o=>pc_ld (off:=o) hr
 repeat (first|(with_reducible first|refine SW.seq ?_|refine q8 ?_|refine SW.rowC ?_|refine SW.skip ?_|refine SW.exit ?_|intro _|refine And.intro (by omega) ?_)|simp (disch:=(first|omega|(simp only [go_sem];try omega))) only [go_sem,Nat.reduceAdd,Nat.reduceEqDiff,Nat.reduceLeDiff,reduceIte,w64_id,cast_succ,xa0,xl0])
 refine FcallW.rowD (l03Digits_new _ a (P) (K) (by omega) (by omega) (by omega) (by omega)) ?_
 intro va
 repeat (first|(with_reducible first|refine SW.seq ?_|refine q8 ?_|refine SW.rowC ?_|refine SW.skip ?_|refine SW.exit ?_|intro _|refine And.intro (by omega) ?_)|simp (disch:=(first|omega|(simp only [go_sem];try omega))) only [go_sem,Nat.reduceAdd,Nat.reduceEqDiff,Nat.reduceLeDiff,reduceIte,w64_id,cast_succ,xa,xl])
 refine FcallW.rowD (l03Digits_new _ b (P) (K) (by omega) (by omega) (by omega) (by omega)) ?_
 intro vb
 have hXl:=digL_len (P) (K) a
 have hXo:=digL_ok (p:=P) (by omega) (K) a
 have hYl:=digL_len (P) (K) b
 have hYo:=digL_ok (p:=P) (by omega) (K) b
 have hV : sumG P K a b k = numL (P) (sumT (P) k (digL (P) (K) a) (digL (P) (K) b) (K)):=rfl
 rw [hV]
 clear hV
 generalize digL (P) (K) a = x at *
 generalize digL (P) (K) b = y at *
 have hP0 : ¬ ((P : Nat) : Int) = 0:=by omega
 have hSl:=fun i (h : i ≤ K)=>sumT_len (P) (k : Int) x y (i:=i) (by omega)
 have hSo:=fun i=>sumT_ok (p:=(P : Int)) (k:=(k : Int)) (by omega) (by omega) hXo hYo i
 have hnum:=l03Number_fn (P) (sumT (P) k x y (K)) (by omega) (by omega) (hSo _) (by rw [hSl _ (by omega)];omega)
 repeat (first|(with_reducible first|refine SW.seq ?_|refine q8 ?_|refine SW.rowC ?_|refine SW.skip ?_|refine SW.exit ?_|intro _|refine And.intro (by omega) ?_)|simp (disch:=(first|omega|(simp only [go_sem];try omega))) only [go_sem,Nat.reduceAdd,Nat.reduceEqDiff,Nat.reduceLeDiff,reduceIte,w64_id,cast_succ])
 refine wJ (fun E0 H0 m E' H'=>∃ i : Nat,i ≤ K ∧ m = K - i ∧ E' = aput E0 11 (I i) ∧ H' = H ++ [⟨va,2,1,(sumT P k x y i).map I⟩,⟨vb,2,1,y.map I⟩]) K ⟨0,by omega,by omega,rfl,by simp [sumT]⟩ ?_
 rintro m E' H' ⟨i,hi,rfl,rfl,rfl⟩
 have htx : ((sumT P k x y i).map I).take K = (sumT P k x y i).map I:=qW (by rw [w8,hSl i hi];omega)
 have hty : (y.map I).take K = y.map I:=qW (by rw [w8];omega)
 have hsl:=hSl i hi
 simp (disch:=(first|omega|(simp only [go_sem];try omega))) only [go_sem,Nat.reduceAdd,Nat.reduceEqDiff,Nat.reduceLeDiff,reduceIte,w64_id,cast_succ]
 repeat (first|(with_reducible first|refine SW.seq ?_|refine q8 ?_|refine SW.rowC ?_|refine SW.skip ?_|refine SW.exit ?_|intro _|refine And.intro (by omega) ?_)|simp (disch:=(first|omega|(simp only [go_sem];try omega))) only [go_sem,Nat.reduceAdd,Nat.reduceEqDiff,Nat.reduceLeDiff,reduceIte,w64_id,cast_succ,xa,xl,htx,hty])
 (first|refine wK rfl (fun h2=>?_) (fun h2=>?_)|refine wL rfl (fun h2=>?_) (fun h2=>?_)|refine wF rfl (fun h2=>?_) (fun h2=>?_)|refine wH rfl (fun h2=>?_) (fun h2=>?_))
 ·have hiK : i < K:=by omega
  have hg:=sumT_get P (k : Int) x y (i:=i) (by omega)
  have hs:=sumT_set P (k : Int) x y (i:=i) (by omega)
  obtain ⟨d1,d2,d3,d4⟩:=sumX_bd (p:=(P : Int)) (k:=(k : Int)) (by omega) (by omega) hXo hYo i
  have hx1:=hXo.getD (show (0 : Int) < P by omega) i
  unfold sumX at hs d3 d4
  generalize x.getD i 0 = xi at *
  generalize hyi : y.getD i 0 = yi at *
  generalize hpr : (k : Int) * yi = pr at *
  repeat (first|(with_reducible first|refine SW.seq ?_|refine q8 ?_|refine SW.rowC ?_|refine SW.skip ?_|refine SW.exit ?_|intro _|refine And.intro (by omega) ?_)|simp (disch:=(first|omega|(simp only [go_sem];try omega))) only [go_sem,Nat.reduceAdd,Nat.reduceEqDiff,Nat.reduceLeDiff,reduceIte,w64_id,cast_succ,xa,xl,htx,hty,hg,hyi,hpr])
  refine wB (K - (i + 1)) (by omega) ⟨i + 1,by omega,rfl,by simp [go_sem],by rw [hs]⟩
 ·have hiK : i = K:=by omega
  subst hiK
  have hfb:=froz_rowI (H:=H ++ [⟨va,2,1,(sumT P k x y i).map I⟩,(⟨vb,2,1,y.map I⟩ : Blk)]) (b:=0) (r:=H.length) (ver:=va) (ty:=2) (xs:=sumT P k x y i) (Nat.zero_le _) (by simp)
  rw [hsl,hXl] at hfb
  repeat (first|(with_reducible first|refine SW.seq ?_|refine q8 ?_|refine SW.rowC ?_|refine SW.skip ?_|refine SW.exit ?_|intro _|refine And.intro (by omega) ?_)|simp (disch:=(first|omega|(simp only [go_sem];try omega))) only [go_sem,Nat.reduceAdd,Nat.reduceEqDiff,Nat.reduceLeDiff,reduceIte,w64_id,cast_succ,xa,xl])
  refine ACalls.fn (hnum.lend (.cons hfb (.cons (froz_I' _) .nil))) ?_
  repeat (first|(with_reducible first|refine SW.seq ?_|refine q8 ?_|refine SW.rowC ?_|refine SW.skip ?_|refine SW.exit ?_|intro _|refine And.intro (by omega) ?_)|simp (disch:=(first|omega|(simp only [go_sem];try omega))) only [go_sem,Nat.reduceAdd,Nat.reduceEqDiff,Nat.reduceLeDiff,reduceIte,w64_id,cast_succ])
  refine SW.ret ?_;(try simp only [go_sem]);(first|refine FunPost.one ?_|refine FunPost.two ?_|refine qQ ?_);(try simp (disch:=(first|omega|(simp only [go_sem];try omega))) only [go_sem,Nat.reduceAdd,Nat.reduceEqDiff,Nat.reduceLeDiff,reduceIte,w64_id,cast_succ]);(first|(with_reducible refine GR.drop ?_ ?_;(simp only [go_sem,and_self,and_true,true_and,implies_true,qI,qO]))|refine GR.of ?_);refine ⟨?_,rfl⟩;(try with_reducible rfl)
end Go.Proofs.YtclfmfabcnbbpaaGreat
namespace Go.Proofs.YtclfmfabcnbbpaaGreat
open Go.Av
abbrev f_spec_l03Mul : Nat:=84
def c_spec_l03Mul : SC :=
 .seq (.reg [⟨s' 6,.mv (.const (.int .i64 0)),n'⟩] [0,1,2]) (.seq (.reg [⟨s' 12,.mv (t' 1),n'⟩,⟨s' 13,.mv (t' 0),n'⟩,⟨s' 14,.nilc (t' 13),n'⟩,⟨s' 15,.faddr 0 (t' 14),n'⟩,
 ⟨s' 16,.load 1 false (t' 15),n'⟩,⟨s' 17,.mv (t' 0),n'⟩,⟨s' 18,.nilc (t' 17),n'⟩,⟨s' 19,.faddr 1 (t' 18),n'⟩,⟨s' 20,.load 1 false (t' 19),n'⟩,
 ⟨s' 21,.fcall 96 [(t' 12),(t' 16),(t' 20)],n'⟩,⟨s' 7,.mv (t' 21),n'⟩] [0,2,7]) (.seq (.reg [⟨s' 22,.mv (t' 2),n'⟩,⟨s' 23,.mv (t' 0),n'⟩,⟨s' 24,.nilc (t' 23),n'⟩,
 ⟨s' 25,.faddr 0 (t' 24),n'⟩,⟨s' 26,.load 1 false (t' 25),n'⟩,⟨s' 27,.mv (t' 0),n'⟩,⟨s' 28,.nilc (t' 27),n'⟩,⟨s' 29,.faddr 1 (t' 28),n'⟩,⟨s' 30,.load 1 false (t' 29),n'⟩,
 ⟨s' 31,.fcall 96 [(t' 22),(t' 26),(t' 30)],n'⟩,⟨s' 8,.mv (t' 31),n'⟩] [0,7,8]) (.seq (.reg [⟨s' 32,.mv (t' 0),n'⟩,⟨s' 33,.nilc (t' 32),n'⟩,⟨s' 34,.faddr 1 (t' 33),n'⟩,
 ⟨s' 35,.load 1 false (t' 34),n'⟩,⟨s' 36,.bin .mul (.const (.int .i64 2)) (t' 35),n'⟩,⟨s' 37,.bin .sub (t' 36) (.const (.int .i64 1)),n'⟩,
 ⟨s' 38,.mslice 2 8 (.int .i64 0) (t' 37) (t' 37),n'⟩,⟨s' 9,.mv (t' 38),n'⟩] [0,7,8,9]) (.seq (.seq (.reg [⟨s' 10,.mv (.const (.int .i64 0)),n'⟩] [0,7,8,9,10])
 (.block 0 (.loop [0,7,8,9,10] (.seq (.seq (.reg [⟨s' 39,.mv (t' 10),n'⟩,⟨s' 40,.mv (t' 7),n'⟩,⟨s' 41,.len (t' 40),n'⟩,⟨s' 42,.bin .lss (t' 39) (t' 41),n'⟩] [0,7,8,9,10,42])
 (.cond (t' 42) (.skip) (.exit 0))) (.seq (.block 1 (.seq (.reg [⟨s' 11,.mv (.const (.int .i64 0)),n'⟩] [0,7,8,9,10,11]) (.block 2 (.loop [0,7,8,9,10,11] (.seq (.seq (.reg [
 ⟨s' 45,.mv (t' 11),n'⟩,⟨s' 46,.mv (t' 8),n'⟩,⟨s' 47,.len (t' 46),n'⟩,⟨s' 48,.bin .lss (t' 45) (t' 47),n'⟩] [0,7,8,9,10,11,48]) (.cond (t' 48) (.skip) (.exit 2)))
 (.seq (.block 3 (.reg [⟨s' 51,.mv (t' 9),n'⟩,⟨s' 52,.mv (t' 10),n'⟩,⟨s' 53,.mv (t' 11),n'⟩,⟨s' 54,.bin .add (t' 52) (t' 53),n'⟩,⟨s' 55,.mv (t' 9),n'⟩,⟨s' 56,.mv (t' 10),n'⟩,
 ⟨s' 57,.mv (t' 11),n'⟩,⟨s' 58,.bin .add (t' 56) (t' 57),n'⟩,⟨s' 59,.iaddr 1 (t' 55) (t' 58),n'⟩,⟨s' 60,.load 1 false (t' 59),n'⟩,⟨s' 61,.mv (t' 7),n'⟩,⟨s' 62,.mv (t' 10),n'⟩,
 ⟨s' 63,.iaddr 1 (t' 61) (t' 62),n'⟩,⟨s' 64,.load 1 false (t' 63),n'⟩,⟨s' 65,.mv (t' 8),n'⟩,⟨s' 66,.mv (t' 11),n'⟩,⟨s' 67,.iaddr 1 (t' 65) (t' 66),n'⟩,
 ⟨s' 68,.load 1 false (t' 67),n'⟩,⟨s' 69,.bin .mul (t' 64) (t' 68),n'⟩,⟨s' 70,.bin .add (t' 60) (t' 69),n'⟩,⟨s' 71,.mv (t' 0),n'⟩,⟨s' 72,.nilc (t' 71),n'⟩,
 ⟨s' 73,.faddr 0 (t' 72),n'⟩,⟨s' 74,.load 1 false (t' 73),n'⟩,⟨s' 75,.bin .rem (t' 70) (t' 74),n'⟩,⟨s' 76,.iaddr 1 (t' 51) (t' 54),n'⟩,
 ⟨n',.store 1 (t' 76) (t' 75),n'⟩] [0,7,8,9,10,11])) (.reg [⟨s' 49,.mv (t' 11),n'⟩,⟨s' 50,.bin .add (t' 49) (.const (.int .i64 1)),n'⟩,
 ⟨s' 11,.mv (t' 50),n'⟩] [0,7,8,9,10,11]))))))) (.reg [⟨s' 43,.mv (t' 10),n'⟩,⟨s' 44,.bin .add (t' 43) (.const (.int .i64 1)),n'⟩,⟨s' 10,.mv (t' 44),n'⟩] [0,7,8,9,10]))))))
 (.seq (.reg [⟨s' 77,.mv (t' 9),n'⟩,⟨s' 78,.mv (t' 0),n'⟩,⟨s' 79,.nilc (t' 78),n'⟩,⟨s' 80,.faddr 2 (t' 79),n'⟩,⟨s' 81,.load 1 false (t' 80),n'⟩,⟨s' 82,.mv (t' 0),n'⟩,
 ⟨s' 83,.nilc (t' 82),n'⟩,⟨s' 84,.faddr 0 (t' 83),n'⟩,⟨s' 85,.load 1 false (t' 84),n'⟩,⟨s' 86,.qcall 97 [(t' 77),(t' 81),(t' 85)],n'⟩,⟨s' 87,.mv (t' 0),n'⟩,
 ⟨s' 88,.nilc (t' 87),n'⟩,⟨s' 89,.faddr 0 (t' 88),n'⟩,⟨s' 90,.load 1 false (t' 89),n'⟩,⟨s' 91,.qcall 98 [(t' 86),(t' 90)],n'⟩,⟨s' 6,.mv (t' 91),n'⟩] [6]) (.ret))))))
theorem s_spec_l03Mul : stripF Tryz.prog 84 [[0,1,2],[0,2,7,1001009],[0,7,8,1001009],[0,7,8,9],[0,7,8,9,10],[0,7,8,9,10],[0,7,8,9,10,42],[0,7,8,9,10,11],[0,7,8,9,10,11],[0,7,8,9,10,11,48],[0,7,8,9,10,11],[0,7,8,9,10,11],[0,7,8,9,10],[6]] = some (c_spec_l03Mul,[.tmp 6],92):=by kernel_rfl
def mulI (p c : Int) (y : List Int) (i : Nat) : Nat → List Int → List Int
 | 0,z=>z
 | m + 1,z=>mulI p c y i m (z.set (i + (y.length - (m + 1))) ((z.getD (i + (y.length - (m + 1))) 0 + c * y.getD (y.length - (m + 1)) 0).tmod p))
def mulO (p : Int) (x y : List Int) : Nat → List Int → List Int
 | 0,z=>z
 | m + 1,z=>mulO p x y m (mulI p (x.getD (x.length - (m + 1)) 0) y (x.length - (m + 1)) y.length z)
theorem mul_bd {p c b o : Int} (hp : 0 < p ∧ p ≤ 64) (hc : 0 ≤ c ∧ c < p) (hb : 0 ≤ b ∧ b < p) (ho : 0 ≤ o ∧ o < p) : 0 ≤ c * b ∧ c * b ≤ 4096 ∧ 0 ≤ (o + c * b).tmod p ∧ (o + c * b).tmod p < p:=by
 have h1 : 0 ≤ c * b:=xV (by omega) hb.1
 have h2 : c * b ≤ 64 * 64:=zU (by omega) (by omega) hb.1 (by omega)
 refine ⟨h1,by omega,?_⟩
 rw [wY (by omega)]
 exact ⟨Int.emod_nonneg _ (by omega),Int.emod_lt_of_pos _ (by omega)⟩
theorem mulI_ok {p c : Int} {y : List Int} {i : Nat} (hp : 0 < p ∧ p ≤ 64) (hc : 0 ≤ c ∧ c < p) (hy : OkD p y) : ∀ (m : Nat) (z : List Int),OkD p z → OkD p (mulI p c y i m z) ∧ (mulI p c y i m z).length = z.length
 | 0,z,h=>⟨h,rfl⟩
 | m + 1,z,h=>by
  have h1:=mulI_ok (i:=i) hp hc hy m (z.set (i + (y.length - (m + 1))) ((z.getD (i + (y.length - (m + 1))) 0 + c * y.getD (y.length - (m + 1)) 0).tmod p)) (h.set _ (mul_bd hp hc (hy.getD hp.1 _) (h.getD hp.1 _)).2.2)
  exact ⟨h1.1,h1.2.trans (by simp)⟩
theorem mulO_ok {p : Int} {x y : List Int} (hp : 0 < p ∧ p ≤ 64) (hx : OkD p x) (hy : OkD p y) : ∀ (m : Nat) (z : List Int),OkD p z → OkD p (mulO p x y m z) ∧ (mulO p x y m z).length = z.length
 | 0,z,h=>⟨h,rfl⟩
 | m + 1,z,h=>by
  have h1:=mulI_ok (i:=x.length - (m + 1)) hp (hx.getD hp.1 (x.length - (m + 1))) hy y.length z h
  have h2:=mulO_ok hp hx hy m _ h1.1
  exact ⟨h2.1,h2.2.trans h1.2⟩
def mulG (P K : Nat) (L : List Int) (a b : Nat) : Int:=numL P (restL (mulO P (digL P K a) (digL P K b) K (qT (2 * K - 1) 0)) L P)
theorem rep_ok {p : Int} (hp : 0 < p) (n : Nat) : OkD p (qT n 0):=fun z hz=>by
 rw [(List.mem_replicate.1 hz).2];omega
theorem mulG_bd {P K a b : Nat} {L : List Int} (h2 : 2 ≤ P) (h6 : P ≤ 64) (hL : OkD P L ∧ L.length = K + 1) : 0 ≤ mulG P K L a b ∧ mulG P K L a b < ((P ^ K : Nat) : Int):=by
 have hm:=mulO_ok (p:=(P : Int)) (by omega) (digL_ok (p:=P) (by omega) K a) (digL_ok (p:=P) (by omega) K b) K (qT (2 * K - 1) 0) (rep_ok (by omega) _)
 have hr:=restL_ok (p:=(P : Int)) (by omega) (by omega) hL.1 hm.1
 have hn:=numL_bd (p:=P) (by omega) _ hr.1
 have hpw : P ^ (restL (mulO P (digL P K a) (digL P K b) K (qT (2 * K - 1) 0)) L P).length ≤ P ^ K:=by
  refine Nat.pow_le_pow_right (by omega) (show _ ≤ K by have:=hr.2.2;omega)
 unfold mulG
 omega
theorem l03Mul_g (H : List Blk) (r ty P K : Nat) (L : List Int) (rest : List AV) (a b : Nat) (hr : H[r]? = some (fdC ty P K L rest)) (hpb : 2 ≤ P ∧ P ≤ 64) (hkb : 1 ≤ K ∧ K ≤ 6) (hLb : OkD P L ∧ L.length = K + 1) (ha : a ≤ 1000) (hb : b ≤ 1000) : ACalls Tryz.prog f_spec_l03Mul [.pc r 0 0,I a,I b] H (fun v H'=>v = I (mulG P K L a b) ∧ H' = H):=by
 refine ACalls.introB s_spec_l03Mul (by simp) ?_;intro hB hA;unfold c_spec_l03Mul;simp (disch:=(first|omega|(simp only [go_sem];try omega))) only [go_sem,Nat.reduceAdd,Nat.reduceEqDiff,Nat.reduceLeDiff,reduceIte,w64_id,cast_succ]
 have hrl:=(qC.1 hr).1
 have xa:=fun o e=>pc_alive (off:=o) (get_appU hr e)
 have xl:=fun o e=>pc_ld (off:=o) (get_appU hr e)
 have xa0:=fun o=>pc_alive (off:=o) hr
 have xl0:=fun o=>pc_ld (off:=o) hr
 repeat (first|(with_reducible first|refine SW.seq ?_|refine q8 ?_|refine SW.rowC ?_|refine SW.skip ?_|refine SW.exit ?_|intro _|refine And.intro (by omega) ?_)|simp (disch:=(first|omega|(simp only [go_sem];try omega))) only [go_sem,Nat.reduceAdd,Nat.reduceEqDiff,Nat.reduceLeDiff,reduceIte,w64_id,cast_succ,xa0,xl0])
 refine FcallW.rowD (l03Digits_new _ a (P) (K) (by omega) (by omega) (by omega) (by omega)) ?_
 intro va
 repeat (first|(with_reducible first|refine SW.seq ?_|refine q8 ?_|refine SW.rowC ?_|refine SW.skip ?_|refine SW.exit ?_|intro _|refine And.intro (by omega) ?_)|simp (disch:=(first|omega|(simp only [go_sem];try omega))) only [go_sem,Nat.reduceAdd,Nat.reduceEqDiff,Nat.reduceLeDiff,reduceIte,w64_id,cast_succ,xa,xl])
 refine FcallW.rowD (l03Digits_new _ b (P) (K) (by omega) (by omega) (by omega) (by omega)) ?_
 intro vb
 have hXl:=digL_len (P) (K) a
 have hXo:=digL_ok (p:=P) (by omega) (K) a
 have hYl:=digL_len (P) (K) b
 have hYo:=digL_ok (p:=P) (by omega) (K) b
 have hV : mulG P K L a b = numL (P) (restL (mulO (P) (digL (P) (K) a) (digL (P) (K) b) (K) (qT (2 * K - 1) 0)) (L) (P)):=rfl
 rw [hV]
 clear hV
 generalize digL (P) (K) a = x at *
 generalize digL (P) (K) b = y at *
 have hP0 : ¬ ((P : Nat) : Int) = 0:=by omega
 have e0 : 2 * (K : Int) - 1 = ((2 * K - 1 : Nat) : Int):=by omega
 repeat (first|(with_reducible first|refine SW.seq ?_|refine q8 ?_|refine SW.rowC ?_|refine SW.skip ?_|refine SW.exit ?_|intro _|refine And.intro (by omega) ?_)|simp (disch:=(first|omega|(simp only [go_sem];try omega))) only [go_sem,Nat.reduceAdd,Nat.reduceEqDiff,Nat.reduceLeDiff,reduceIte,w64_id,cast_succ,xa,xl,e0,Int.toNat_natCast])
 have hZ0:=rep_ok (p:=(P : Int)) (by omega) (2 * K - 1)
 have hMk:=mulO_ok (p:=(P : Int)) (by omega) hXo hYo K (qT (2 * K - 1) 0) hZ0
 rw [List.length_replicate] at hMk
 generalize hM : mulO P x y K (qT (2 * K - 1) 0) = M at *
 have hrst:=restL_ok (p:=(P : Int)) (by omega) (by omega) hLb.1 hMk.1
 have hnum:=l03Number_fn P (restL M L P) (by omega) (by omega) hrst.1 (by omega)
 refine wJ (fun E0 H0 m E' H'=>∃ (i : Nat) (z : List Int),i ≤ K ∧ m = K - i ∧ OkD P z ∧ z.length = 2 * K - 1 ∧ M = mulO P x y (K - i) z ∧ E' = aput E0 10 (I i) ∧ H' = H ++ [⟨va,2,1,x.map I⟩,⟨vb,2,1,y.map I⟩,⟨0,2,1,z.map I⟩]) K ⟨0,qT (2 * K - 1) 0,by omega,by omega,hZ0,by simp,hM.symm,rfl,rfl⟩ ?_
 rintro m E' H' ⟨i,z,hi,rfl,hzo,hzl,hMz,rfl,rfl⟩
 have htx : (x.map I).take K = x.map I:=qW (by rw [w8];omega)
 have hty : (y.map I).take K = y.map I:=qW (by rw [w8];omega)
 simp (disch:=(first|omega|(simp only [go_sem];try omega))) only [go_sem,Nat.reduceAdd,Nat.reduceEqDiff,Nat.reduceLeDiff,reduceIte,w64_id,cast_succ]
 repeat (first|(with_reducible first|refine SW.seq ?_|refine q8 ?_|refine SW.rowC ?_|refine SW.skip ?_|refine SW.exit ?_|intro _|refine And.intro (by omega) ?_)|simp (disch:=(first|omega|(simp only [go_sem];try omega))) only [go_sem,Nat.reduceAdd,Nat.reduceEqDiff,Nat.reduceLeDiff,reduceIte,w64_id,cast_succ,htx])
 (first|refine wK rfl (fun h2=>?_) (fun h2=>?_)|refine wL rfl (fun h2=>?_) (fun h2=>?_)|refine wF rfl (fun h2=>?_) (fun h2=>?_)|refine wH rfl (fun h2=>?_) (fun h2=>?_))
 ·have hiK : i < K:=by omega
  rw [show K - i = (K - (i + 1)) + 1 by omega,mulO,show x.length - (K - (i + 1) + 1) = i by omega] at hMz
  have hxi:=hXo.getD (show (0 : Int) < P by omega) i
  generalize hc : x.getD i 0 = c at *
  generalize hS : mulI P c y i y.length z = S at *
  repeat (first|(with_reducible first|refine SW.seq ?_|refine q8 ?_|refine SW.rowC ?_|refine SW.skip ?_|refine SW.exit ?_|intro _|refine And.intro (by omega) ?_)|simp (disch:=(first|omega|(simp only [go_sem];try omega))) only [go_sem,Nat.reduceAdd,Nat.reduceEqDiff,Nat.reduceLeDiff,reduceIte,w64_id,cast_succ])
  refine wJ (fun E0 H0 m E' H'=>∃ (k : Nat) (o : List Int),k ≤ K ∧ m = K - k ∧ OkD P o ∧ o.length = 2 * K - 1 ∧ S = mulI P c y i (K - k) o ∧ E' = aput E0 11 (I k) ∧ H' = H ++ [⟨va,2,1,x.map I⟩,⟨vb,2,1,y.map I⟩,⟨0,2,1,o.map I⟩]) K ⟨0,z,by omega,by omega,hzo,hzl,by rw [← hS,hYl];rfl,rfl,rfl⟩ ?_
  rintro m E' H' ⟨k,o,hk,rfl,hoo,hol,hSo,rfl,rfl⟩
  have hto : (o.map I).take (2 * K - 1) = o.map I:=qW (by rw [w8];omega)
  simp (disch:=(first|omega|(simp only [go_sem];try omega))) only [go_sem,Nat.reduceAdd,Nat.reduceEqDiff,Nat.reduceLeDiff,reduceIte,w64_id,cast_succ]
  repeat (first|(with_reducible first|refine SW.seq ?_|refine q8 ?_|refine SW.rowC ?_|refine SW.skip ?_|refine SW.exit ?_|intro _|refine And.intro (by omega) ?_)|simp (disch:=(first|omega|(simp only [go_sem];try omega))) only [go_sem,Nat.reduceAdd,Nat.reduceEqDiff,Nat.reduceLeDiff,reduceIte,w64_id,cast_succ,hty])
  (first|refine wK rfl (fun h3=>?_) (fun h3=>?_)|refine wL rfl (fun h3=>?_) (fun h3=>?_)|refine wF rfl (fun h3=>?_) (fun h3=>?_)|refine wH rfl (fun h3=>?_) (fun h3=>?_))
  ·have hkK : k < K:=by omega
   rw [show K - k = (K - (k + 1)) + 1 by omega,mulI,show y.length - (K - (k + 1) + 1) = k by omega] at hSo
   have hyk:=hYo.getD (show (0 : Int) < P by omega) k
   have hok:=hoo.getD (show (0 : Int) < P by omega) (i + k)
   obtain ⟨d1,d2,d3⟩:=mul_bd (p:=(P : Int)) (by omega) hxi hyk hok
   have ho':=hoo.set (i + k) d3
   generalize hyk0 : y.getD k 0 = yk at *
   generalize hok0 : o.getD (i + k) 0 = ok at *
   generalize hpr : c * yk = pr at *
   have e1 : (i : Int) + (k : Int) = ((i + k : Nat) : Int):=by omega
   repeat (first|(with_reducible first|refine SW.seq ?_|refine q8 ?_|refine SW.rowC ?_|refine SW.skip ?_|refine SW.exit ?_|intro _|refine And.intro (by omega) ?_)|simp (disch:=(first|omega|(simp only [go_sem];try omega))) only [go_sem,Nat.reduceAdd,Nat.reduceEqDiff,Nat.reduceLeDiff,reduceIte,w64_id,cast_succ,xa,xl,htx,hty,hto,e1,hyk0,hok0,hpr,hc])
   refine wB (K - (k + 1)) (by omega) ⟨k + 1,_,by omega,rfl,ho',by rw [List.length_set];exact hol,hSo,by simp [go_sem],rfl⟩
  ·have hkK : k = K:=by omega
   rw [hkK,wS,mulI] at hSo
   subst hSo
   repeat (first|(with_reducible first|refine SW.seq ?_|refine q8 ?_|refine SW.rowC ?_|refine SW.skip ?_|refine SW.exit ?_|intro _|refine And.intro (by omega) ?_)|simp (disch:=(first|omega|(simp only [go_sem];try omega))) only [go_sem,Nat.reduceAdd,Nat.reduceEqDiff,Nat.reduceLeDiff,reduceIte,w64_id,cast_succ])
   refine wB (K - (i + 1)) (by omega) ⟨i + 1,S,by omega,rfl,hoo,hol,hMz,by simp [go_sem],rfl⟩
 ·have hiK : K - i = 0:=by omega
  rw [hiK,mulO] at hMz
  subst hMz
  have hfb:=froz_rowI (H:=H ++ [⟨va,2,1,x.map I⟩,⟨vb,2,1,y.map I⟩,(⟨0,2,1,M.map I⟩ : Blk)]) (b:=0) (r:=H.length + 2) (ver:=0) (ty:=2) (xs:=M) (Nat.zero_le _) (by simp)
  rw [hzl] at hfb
  repeat (first|(with_reducible first|refine SW.seq ?_|refine q8 ?_|refine SW.rowC ?_|refine SW.skip ?_|refine SW.exit ?_|intro _|refine And.intro (by omega) ?_)|simp (disch:=(first|omega|(simp only [go_sem];try omega))) only [go_sem,Nat.reduceAdd,Nat.reduceEqDiff,Nat.reduceLeDiff,reduceIte,w64_id,cast_succ,xa,xl])
  refine QcallW.of ((l03Rest_new P M L (by omega) (by omega) hMk.1 hLb.1 (by omega) (by omega) (by omega)).lendq (.cons hfb (.cons (.old _ (by rw [Bel_ilS];trivial)) (.cons (froz_I' _) .nil)))) ?_
  repeat (first|(with_reducible first|refine SW.seq ?_|refine q8 ?_|refine SW.rowC ?_|refine SW.skip ?_|refine SW.exit ?_|refine PFn.use (hnum) ?_|refine PFn.useq (hnum) ?_|intro _|refine And.intro (by omega) ?_)|simp (disch:=(first|omega|(simp only [go_sem];try omega))) only [go_sem,Nat.reduceAdd,Nat.reduceEqDiff,Nat.reduceLeDiff,reduceIte,w64_id,cast_succ,xa,xl])
  refine SW.ret ?_;(try simp only [go_sem]);(first|refine FunPost.one ?_|refine FunPost.two ?_|refine qQ ?_);(try simp (disch:=(first|omega|(simp only [go_sem];try omega))) only [go_sem,Nat.reduceAdd,Nat.reduceEqDiff,Nat.reduceLeDiff,reduceIte,w64_id,cast_succ]);(first|(with_reducible refine GR.drop ?_ ?_;(simp only [go_sem,and_self,and_true,true_and,implies_true,qI,qO]))|refine GR.of ?_);refine ⟨?_,rfl⟩;(try with_reducible rfl)
end Go.Proofs.YtclfmfabcnbbpaaGreat