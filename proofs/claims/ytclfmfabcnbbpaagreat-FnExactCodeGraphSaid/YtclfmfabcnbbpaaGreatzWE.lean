/- Graphs of binary codes: the program. -/
import Derived.Test.YtclfmfabcnbbpaaGreatProg
import Derived.KernelRfl
import Derived.Test.YtclfmfabcnbbpaaGreatzWB
import Derived.Test.YtclfmfabcnbbpaaGreatzPO
import Derived.Test.YtclfmfabcnbbpaaGreatzE4
import Derived.Test.YtclfmfabcnbbpaaGreatzWI
set_option linter.unusedSimpArgs false
set_option linter.unusedVariables false
set_option maxHeartbeats 4000000
set_option maxRecDepth 100000
open Go.Operand renaming tmp→t'
open Option renaming none→n',some→s'
open Go.Av.SW renaming block→q8,ghost→zO,loopE→wJ,condD→wK,condN→wL,condNB→wF,condB→wH,condF→wE,condT→wM
open List renaming take_of_length_le→qW,take_succ_cons→qI,take_zero→qO,range→w7,getElem?_set_ne→qR
open Go.Av.SLoop renaming nextT→y4
open Go.Av.FunPost renaming one→qP,two→qS,three→qQ,cell_tmp→xI
open Nat renaming le_refl→qZ,pow_le_pow_right→xP
namespace Go.Proofs.YtclfmfabcnbbpaaGreat
open Go.Av
abbrev f_impl_CodeGraph : Nat:=7
def c_impl_CodeGraph : SC :=
 .seq (.reg [⟨s' 1,.box 36 (t' 0),n'⟩,⟨s' 2,.alloc 31 [(.slice none 0 0),(.slice none 0 0)],n'⟩,⟨s' 3,.mv (.const (.int .i64 0)),n'⟩] [1,2]) (.seq (.seq (.reg [
 ⟨s' 7,.load 4 true (t' 1),n'⟩,⟨s' 8,.call 19 [(t' 7)],n'⟩,⟨s' 9,.un .not (t' 8),n'⟩] [1,2,9]) (.cond (t' 9) (.seq (.reg [
 ⟨s' 10,.build [(.slice none 0 0),(.slice none 0 0)] [],n'⟩,⟨n',.store 2 (t' 2) (t' 10),n'⟩,⟨s' 3,.mv (.const (.int .i64 1)),n'⟩] [2,3]) (.ret)) (.skip))) (.seq (.seq (.reg [
 ⟨s' 11,.faddr 0 (t' 1),n'⟩,⟨s' 12,.load 3 true (t' 11),n'⟩,⟨s' 13,.call 20 [(t' 12)],n'⟩,⟨s' 14,.bin .neq (t' 13) (.const (.int .i64 2)),n'⟩] [1,2,14]) (.cond (t' 14)
 (.seq (.reg [⟨s' 15,.build [(.slice none 0 0),(.slice none 0 0)] [],n'⟩,⟨n',.store 2 (t' 2) (t' 15),n'⟩,⟨s' 3,.mv (.const (.int .i64 6)),n'⟩] [2,3]) (.ret)) (.skip)))
 (.seq (.reg [⟨s' 4,.mv (.const (.slice none 0 0)),n'⟩] [1,2,4]) (.seq (.seq (.reg [⟨s' 16,.load 4 true (t' 1),n'⟩,⟨s' 17,.call 21 [(t' 16)],n'⟩,
 ⟨s' 18,.slc 1 (t' 17) (some (.const (.int .i64 1))) none,n'⟩,⟨s' 19,.len (t' 18),n'⟩,⟨s' 20,.mv (.const (.int .i64 0)),n'⟩] [1,2,4,18,19,20]) (.block 0 (.loop [1,2,4,18,19,20]
 (.seq (.reg [⟨s' 21,.bin .lss (t' 20) (t' 19),n'⟩] [1,2,4,18,19,20,21]) (.seq (.cond (t' 21) (.skip) (.exit 0)) (.seq (.block 1 (.seq (.reg [⟨s' 22,.iaddr 1 (t' 18) (t' 20),n'⟩,
 ⟨s' 23,.load 1 false (t' 22),n'⟩,⟨s' 6,.mv (t' 23),n'⟩] [1,2,4,6,18,19,20]) (.reg [⟨s' 24,.mv (t' 4),n'⟩,⟨s' 25,.mv (t' 6),n'⟩,⟨s' 26,.call 22 [(t' 25)],n'⟩,
 ⟨s' 27,.bslice 22 1 1 [(.slice none 0 0)] [(0,(t' 26))],n'⟩,⟨s' 28,.app 22 1 24 (t' 24) (t' 27),n'⟩,⟨s' 4,.mv (t' 28),n'⟩] [1,2,4,18,19,20]))) (.reg [
 ⟨s' 29,.bin .add (t' 20) (.const (.int .i64 1)),n'⟩,⟨s' 20,.mv (t' 29),n'⟩] [1,2,4,18,19,20]))))))) (.seq (.reg [⟨s' 30,.load 4 true (t' 1),n'⟩,⟨s' 31,.call 24 [(t' 30)],n'⟩,
 ⟨s' 32,.mv (t' 4),n'⟩,⟨s' 33,.call 23 [(t' 31),(t' 32)],n'⟩,⟨s' 34,.ext (t' 33) 0,n'⟩,⟨s' 35,.ext (t' 33) 1,n'⟩,⟨n',.store 2 (t' 2) (t' 34),n'⟩,⟨s' 3,.mv (t' 35),n'⟩] [2,3])
 (.ret))))))
theorem s_impl_CodeGraph : stripF Tryz.prog 7 [[1,2],[1,2,9],[2,3],[1,2,14],[2,3],[1,2,4],[1,2,4,18,19,20],[1,2,4,18,19,20],[1,2,4,18,19,20,21],[1,2,4,6,18,19,20],[1,2,4,18,19,20],[1,2,4,18,19,20],[2,3]] = some (c_impl_CodeGraph,[.cell 2 2,.tmp 3],36):=by kernel_rfl
abbrev f_impl_wordsOf : Nat:=21
def c_impl_wordsOf : SC :=
 .seq (.reg [⟨s' 1,.box 36 (t' 0),n'⟩,⟨s' 2,.mv (.const (.slice none 0 0)),n'⟩] [1]) (.seq (.reg [⟨s' 7,.faddr 0 (t' 1),n'⟩,⟨s' 8,.load 3 true (t' 7),n'⟩,
 ⟨s' 9,.call 46 [(t' 8)],n'⟩,⟨s' 3,.alloc 76 [(.int .i64 0),(.slice none 0 0),(.slice none 0 0),(.slice none 0 0),(.slice none 0 0)],n'⟩,⟨n',.store 5 (t' 3) (t' 9),n'⟩] [1,3])
 (.seq (.reg [⟨s' 10,.faddr 3 (t' 1),n'⟩,⟨s' 11,.load 1 false (t' 10),n'⟩,⟨s' 12,.call 45 [(t' 11)],n'⟩,⟨s' 4,.mv (t' 12),n'⟩] [1,3,4]) (.seq (.reg [
 ⟨s' 5,.mv (.const (.slice none 0 0)),n'⟩] [1,3,4,5]) (.seq (.seq (.reg [⟨s' 13,.faddr 0 (t' 3),n'⟩,⟨s' 14,.load 1 false (t' 13),n'⟩,⟨s' 15,.mv (t' 4),n'⟩,
 ⟨s' 16,.call 44 [(t' 14),(t' 15),(.const (.int .i64 4096))],n'⟩,⟨s' 17,.mv (.const (.int .i64 0)),n'⟩] [1,3,4,5,16,17]) (.block 0 (.loop [1,3,4,5,16,17] (.seq (.reg [
 ⟨s' 18,.bin .lss (t' 17) (t' 16),n'⟩] [1,3,4,5,16,17,18]) (.seq (.cond (t' 18) (.skip) (.exit 0)) (.seq (.block 1 (.seq (.reg [⟨s' 19,.mv (t' 17),n'⟩,
 ⟨s' 6,.mv (t' 19),n'⟩] [1,3,4,5,6,16,17]) (.reg [⟨s' 20,.mv (t' 5),n'⟩,⟨s' 21,.load 5 true (t' 3),n'⟩,⟨s' 22,.faddr 3 (t' 1),n'⟩,⟨s' 23,.load 1 false (t' 22),n'⟩,
 ⟨s' 24,.mv (t' 6),n'⟩,⟨s' 25,.faddr 0 (t' 3),n'⟩,⟨s' 26,.load 1 false (t' 25),n'⟩,⟨s' 27,.mv (t' 4),n'⟩,⟨s' 28,.qcall 50 [(t' 24),(t' 26),(t' 27)],n'⟩,
 ⟨s' 29,.qcall 49 [(t' 21),(t' 23),(t' 28)],n'⟩,⟨s' 30,.bslice 22 1 1 [(.slice none 0 0)] [(0,(t' 29))],n'⟩,⟨s' 31,.app 22 1 24 (t' 20) (t' 30),n'⟩,
 ⟨s' 5,.mv (t' 31),n'⟩] [1,3,4,5,16,17]))) (.reg [⟨s' 32,.bin .add (t' 17) (.const (.int .i64 1)),n'⟩,⟨s' 17,.mv (t' 32),n'⟩] [1,3,4,5,16,17]))))))) (.seq (.reg [
 ⟨s' 33,.mv (t' 5),n'⟩,⟨s' 2,.mv (t' 33),n'⟩] [2]) (.ret))))))
theorem s_impl_wordsOf : stripF Tryz.prog 21 [[1],[1,3],[1,3,4],[1,3,4,5],[1,3,4,5,16,17],[1,3,4,5,16,17],[1,3,4,5,16,17,18],[1,3,4,5,6,16,17],[1,3,4,5,16,17],[1,3,4,5,16,17],[2]] = some (c_impl_wordsOf,[.tmp 2],34):=by kernel_rfl
abbrev f_impl_supportOf : Nat:=22
def c_impl_supportOf : SC :=
 .seq (.reg [⟨s' 2,.mv (.const (.slice none 0 0)),n'⟩] [0]) (.seq (.reg [⟨s' 3,.mv (.const (.slice none 0 0)),n'⟩] [0,3]) (.seq (.seq (.reg [⟨s' 6,.mv (t' 0),n'⟩,
 ⟨s' 7,.len (t' 6),n'⟩,⟨s' 8,.mv (.const (.int .i64 0)),n'⟩] [3,6,7,8]) (.block 0 (.loop [3,6,7,8] (.seq (.reg [⟨s' 9,.bin .lss (t' 8) (t' 7),n'⟩] [3,6,7,8,9]) (.seq (.cond (t' 9)
 (.skip) (.exit 0)) (.seq (.block 1 (.seq (.reg [⟨s' 10,.mv (t' 8),n'⟩,⟨s' 11,.iaddr 1 (t' 6) (t' 8),n'⟩,⟨s' 12,.load 1 false (t' 11),n'⟩,⟨s' 4,.mv (t' 10),n'⟩,
 ⟨s' 5,.mv (t' 12),n'⟩] [3,4,5,6,7,8]) (.seq (.reg [⟨s' 13,.mv (t' 5),n'⟩,⟨s' 14,.bin .neq (t' 13) (.const (.int .i64 0)),n'⟩] [3,4,6,7,8,14]) (.cond (t' 14) (.reg [
 ⟨s' 15,.mv (t' 3),n'⟩,⟨s' 16,.mv (t' 4),n'⟩,⟨s' 17,.bslice 2 1 1 [(.int .i64 0)] [(0,(t' 16))],n'⟩,⟨s' 18,.app 2 1 8 (t' 15) (t' 17),n'⟩,⟨s' 3,.mv (t' 18),n'⟩] [3,6,7,8])
 (.skip))))) (.reg [⟨s' 19,.bin .add (t' 8) (.const (.int .i64 1)),n'⟩,⟨s' 8,.mv (t' 19),n'⟩] [3,6,7,8]))))))) (.seq (.reg [⟨s' 20,.mv (t' 3),n'⟩,⟨s' 2,.mv (t' 20),n'⟩] [2])
 (.ret))))
theorem s_impl_supportOf : stripF Tryz.prog 22 [[0],[0,3],[3,6,7,8],[3,6,7,8],[3,6,7,8,9],[3,4,5,6,7,8],[3,4,6,7,8,14],[3,6,7,8],[3,6,7,8],[2]] = some (c_impl_supportOf,[.tmp 2],21):=by kernel_rfl
abbrev f_impl_lengthOf : Nat:=24
def c_impl_lengthOf : SC :=
 .seq (.reg [⟨s' 1,.box 36 (t' 0),n'⟩,⟨s' 2,.mv (.const (.int .i64 0)),n'⟩] [1]) (.seq (.reg [⟨s' 3,.faddr 3 (t' 1),n'⟩,⟨s' 4,.load 1 false (t' 3),n'⟩,
 ⟨s' 5,.iaddr 1 (t' 4) (.const (.int .i64 0)),n'⟩,⟨s' 6,.load 1 false (t' 5),n'⟩,⟨s' 7,.call 53 [(t' 6)],n'⟩,⟨s' 2,.mv (t' 7),n'⟩] [2]) (.ret))
theorem s_impl_lengthOf : stripF Tryz.prog 24 [[1],[2]] = some (c_impl_lengthOf,[.tmp 2],8):=by kernel_rfl
theorem slc_ilSSW {H : List Blk} (K : AV → Prop) (xs : List (List Int)) (z y : Int) (h0 : 0 ≤ z) (h1 : z ≤ y) (h2 : y ≤ xs.length) : SlcG 1 (ilSS xs) z y H K (some (xs.length,xs.map ilS)) = K (ilSS ((xs.drop z.toNat).take (y.toNat - z.toNat))):=by
 unfold ilSS
 rw [SlcG_il (h0:=h0) (h1:=h1) (h2:=h2)]
 simp only [Nat.mul_one,← List.map_drop,← List.map_take,List.length_take,List.length_drop]
 rw [Nat.min_eq_left (by omega)]
theorem supportOf_fn (v : List Int) (hv : v.length ≤ 1000) : PFn Tryz.prog f_impl_supportOf [ilS v] (ilS (supp v)):=by
 intro H;refine ACalls.introB s_impl_supportOf (by simp) ?_;intro hB hA;unfold c_impl_supportOf;simp (disch:=(first|omega|(simp only [go_sem];try omega))) only [go_sem,Nat.reduceAdd,Nat.reduceEqDiff,Nat.reduceLeDiff,reduceIte,w64_id,cast_succ]
 repeat (first|(with_reducible first|refine SW.seq ?_|refine q8 ?_|refine SW.rowC ?_|refine SW.skip ?_|refine SW.exit ?_|intro _|refine And.intro (by omega) ?_)|simp (disch:=(first|omega|(simp only [go_sem];try omega))) only [go_sem,Nat.reduceAdd,Nat.reduceEqDiff,Nat.reduceLeDiff,reduceIte,w64_id,cast_succ])
 refine zO (Gh.name 3 2 1 rfl) ?_
 simp (disch:=(first|omega|(simp only [go_sem];try omega))) only [go_sem,Nat.reduceAdd,Nat.reduceEqDiff,Nat.reduceLeDiff,reduceIte,w64_id,cast_succ]
 unfold supp
 refine wJ (fun E0 H0 q E' H'=>∃ (j ver : Nat),j ≤ v.length ∧ q = v.length - j ∧ E' = aput (aput E0 8 (I j)) 3 (.nm H.length ver 0 (suppF v j).length) ∧ H' = H ++ [⟨ver,2,1,(suppF v j).map I⟩]) v.length ⟨0,0,by omega,by omega,rfl,rfl⟩ ?_
 rintro q E' H' ⟨j,ver,hj,rfl,rfl,rfl⟩
 have hs:=suppF_succ v j
 have hl:=suppF_len v j
 generalize hM : suppF v j = M at *
 have htl : (M.map I).take M.length = M.map I:=qW (by simp)
 simp (disch:=(first|omega|(simp only [go_sem];try omega))) only [go_sem,Nat.reduceAdd,Nat.reduceEqDiff,Nat.reduceLeDiff,reduceIte,w64_id,cast_succ]
 repeat (first|(with_reducible first|refine SW.seq ?_|refine q8 ?_|refine SW.rowC ?_|refine SW.skip ?_|refine SW.exit ?_|intro _|refine And.intro (by omega) ?_)|simp (disch:=(first|omega|(simp only [go_sem];try omega))) only [go_sem,Nat.reduceAdd,Nat.reduceEqDiff,Nat.reduceLeDiff,reduceIte,w64_id,cast_succ])
 (first|refine wK rfl (fun h2=>?_) (fun h2=>?_)|refine wL rfl (fun h2=>?_) (fun h2=>?_)|refine wF rfl (fun h2=>?_) (fun h2=>?_)|refine wH rfl (fun h2=>?_) (fun h2=>?_))
 ·have hjv : j < v.length:=by omega
  by_cases h3 : v.getD j 0 = 0
  ·rw [if_pos h3,List.append_nil] at hs
   repeat (first|(with_reducible first|refine SW.seq ?_|refine q8 ?_|refine SW.rowC ?_|refine SW.skip ?_|refine SW.exit ?_|intro _|refine And.intro (by omega) ?_)|simp (disch:=(first|omega|(simp only [go_sem];try omega))) only [go_sem,Nat.reduceAdd,Nat.reduceEqDiff,Nat.reduceLeDiff,reduceIte,w64_id,cast_succ,h3])
   refine wE rfl ?_
   repeat (first|(with_reducible first|refine SW.seq ?_|refine q8 ?_|refine SW.rowC ?_|refine SW.skip ?_|refine SW.exit ?_|intro _|refine And.intro (by omega) ?_)|simp (disch:=(first|omega|(simp only [go_sem];try omega))) only [go_sem,Nat.reduceAdd,Nat.reduceEqDiff,Nat.reduceLeDiff,reduceIte,w64_id,cast_succ])
   refine SLoop.next (v.length - (j + 1)) (by omega) ⟨j + 1,ver,by omega,rfl,?_,by rw [hs]⟩
   rw [hs];simp [go_sem]
  ·rw [if_neg h3] at hs
   have d3 : decide (v.getD j 0 = 0) = false:=decide_eq_false h3
   repeat (first|(with_reducible first|refine SW.seq ?_|refine q8 ?_|refine SW.rowC ?_|refine SW.skip ?_|refine SW.exit ?_|intro _|refine And.intro (by omega) ?_)|simp (disch:=(first|omega|(simp only [go_sem];try omega))) only [go_sem,Nat.reduceAdd,Nat.reduceEqDiff,Nat.reduceLeDiff,reduceIte,w64_id,cast_succ,d3])
   refine wM rfl ?_
   repeat (first|(with_reducible first|refine SW.seq ?_|refine q8 ?_|refine SW.rowC ?_|refine SW.skip ?_|refine SW.exit ?_|intro _|refine And.intro (by omega) ?_)|simp (disch:=(first|omega|(simp only [go_sem];try omega))) only [go_sem,Nat.reduceAdd,Nat.reduceEqDiff,Nat.reduceLeDiff,reduceIte,w64_id,cast_succ,htl])
   refine y4 1 (v.length - (j + 1)) hB (by omega) (by omega) (by simp) ?_ ?_ ⟨j + 1,ver + 1,by omega,rfl,?_,?_⟩
   ·(simp only [go_sem,Nat.reduceAdd,Nat.reduceEqDiff,reduceIte,go_sem,and_self,and_true,true_and,implies_true,qI,qO,and_true,true_and];try omega)
   ·(simp only [go_sem,Nat.reduceAdd,Nat.reduceEqDiff,reduceIte,go_sem,and_self,and_true,true_and,implies_true,qI,qO,and_true,true_and];try omega)
   ·rw [hs];simp [go_sem]
   ·rw [hs];simp
 ·have : j = v.length:=by omega
  subst this
  rw [hM]
  repeat (first|(with_reducible first|refine SW.seq ?_|refine q8 ?_|refine SW.rowC ?_|refine SW.skip ?_|refine SW.exit ?_|intro _|refine And.intro (by omega) ?_)|simp (disch:=(first|omega|(simp only [go_sem];try omega))) only [go_sem,Nat.reduceAdd,Nat.reduceEqDiff,Nat.reduceLeDiff,reduceIte,w64_id,cast_succ])
  refine SW.ret ?_;(try simp only [go_sem]);(first|refine qP ?_|refine qS ?_|refine qQ ?_);(try simp (disch:=(first|omega|(simp only [go_sem];try omega))) only [go_sem,Nat.reduceAdd,Nat.reduceEqDiff,Nat.reduceLeDiff,reduceIte,w64_id,cast_succ])
  exact GR.froz (froz_rowI (r:=H.length) (ver:=ver) (ty:=2) (qZ _) (by simp)) ⟨rfl,rfl⟩
theorem tables_two {L : List Int} (hL : OkD (2 : Nat) L ∧ L.length = 1 + 1) (h1 : L.getD 1 0 = 1) : ∃ F1 F2 F3 : Nat → Nat → Int,Two F1 F3 ∧ PFn Tryz.prog f_impl_tablesOf [.agg [I 2,I 1,ilS L]] (.agg [I ((2 : Nat) : Int),ilSS (tabG F1 2 2),ilSS (tabG F2 2 2),ilSS (tabG F3 2 2),ilS (invL F3 2)]) :=
 ⟨_,_,_,fun a b ha hb=>⟨sum_two ha hb,mul_two hL h1 ha hb⟩,tablesOf_fn 2 1 L (by omega) (by omega) hL (by decide)⟩
theorem wordsOf_fn (L : List Int) (m : List (List Int)) (w : Nat) (hL : OkD (2 : Nat) L ∧ L.length = 1 + 1) (h1 : L.getD 1 0 = 1) (hk : 1 ≤ m.length ∧ m.length ≤ 8) (hw : w ≤ 32) (hm : ∀ r ∈ m,r.length = w ∧ Bit r) :
  PFn Tryz.prog f_impl_wordsOf [.agg [I 2,I 1,ilS L,ilSS m]] (ilSS (wds w m)):=by
 obtain ⟨F1,F2,F3,hTwo,htb⟩:=tables_two hL h1
 have hen : ∀ n,PFn Tryz.prog f_impl_arithmetic_encode [.agg [I ((2 : Nat) : Int),ilSS (tabG F1 2 2),ilSS (tabG F2 2 2),ilSS (tabG F3 2 2),ilS (invL F3 2)],ilSS m,ilS (digL 2 m.length n).reverse] (ilS (wR w m.reverse n)):=fun n=>encode_fn F1 F2 F3 m w n hTwo (by omega) (by omega) hm
 have hhf : ∀ n : Nat,n ≤ 100000 → PFn Tryz.prog f_impl_highFirst [I n,I ((2 : Nat) : Int),I m.length] (ilS (digL 2 m.length n).reverse):=fun n hn=>(highFirst_new n 2 m.length (by omega) (by omega) hn (by omega)).pfn
 have hN8 : 2 ^ m.length ≤ 2 ^ 8:=xP (by omega) hk.2
 have hpw:=powerUpTo_fn 2 m.length 4096 (by omega) (by omega) (by omega)
 rw [pwU_le (by omega) _ 1 (qZ _) (by omega),Nat.one_mul] at hpw
 have hsz:=sizeS_fn m
 unfold wds
 generalize hN : 2 ^ m.length = N at *
 intro H;refine ACalls.introB s_impl_wordsOf (by simp) ?_;intro hB hA;unfold c_impl_wordsOf;simp (disch:=(first|omega|(simp only [go_sem];try omega))) only [go_sem,Nat.reduceAdd,Nat.reduceEqDiff,Nat.reduceLeDiff,reduceIte,w64_id,cast_succ]
 repeat (first|(with_reducible first|refine SW.seq ?_|refine q8 ?_|refine SW.rowC ?_|refine SW.skip ?_|refine SW.exit ?_|refine PFn.use (htb) ?_|refine PFn.useq (htb) ?_|refine PFn.use (hsz) ?_|refine PFn.useq (hsz) ?_|refine PFn.use (hpw) ?_|refine PFn.useq (hpw) ?_|intro _|refine And.intro (by omega) ?_)|simp (disch:=(first|omega|(simp only [go_sem];try omega))) only [go_sem,Nat.reduceAdd,Nat.reduceEqDiff,Nat.reduceLeDiff,reduceIte,w64_id,cast_succ])
 refine zO (Gh.name 5 22 1 rfl) ?_
 simp (disch:=(first|omega|(simp only [go_sem];try omega))) only [go_sem,Nat.reduceAdd,Nat.reduceEqDiff,Nat.reduceLeDiff,reduceIte,w64_id,cast_succ]
 generalize hbx : (⟨0,tyAr,1,[I ((2 : Nat) : Int),ilSS (tabG F1 2 2),ilSS (tabG F2 2 2),ilSS (tabG F3 2 2),ilS (invL F3 2)]⟩ : Blk) = bx
 refine wJ (fun E0 H0 q E' H'=>∃ (j ver : Nat),j ≤ N ∧ q = N - j ∧ E' = aput (aput E0 17 (I j)) 5 (.nm (H.length + 2) ver 0 ((w7 j).map (wR w m.reverse)).length) ∧ H' = H ++ [⟨0,36,1,[I 2,I 1,ilS L,ilSS m]⟩,bx,⟨ver,tyLL,1,((w7 j).map (wR w m.reverse)).map ilS⟩]) N ⟨0,0,by omega,by omega,rfl,rfl⟩ ?_
 rintro q E' Z ⟨j,ver,hj,rfl,rfl,hZ⟩
 have hms : (w7 (j + 1)).map (wR w m.reverse) = (w7 j).map (wR w m.reverse) ++ [wR w m.reverse j]:=by simp [List.range_succ]
 have hml : ((w7 j).map (wR w m.reverse)).length = j:=by simp
 generalize hM : (w7 j).map (wR w m.reverse) = M at *
 have htl : (M.map ilS).take j = M.map ilS:=qW (by simp [hml])
 have hz0 : Z[H.length]? = some ⟨0,36,1,[I 2,I 1,ilS L,ilSS m]⟩:=by rw [hZ];simp
 have hz1 : Z[H.length + 1]? = some bx:=by rw [hZ];simp
 rw [← hbx] at hz1
 have ha0:=fun e o=>pc_alive (off:=o) (get_appU hz0 e)
 have hl0:=fun e o=>pc_ld (off:=o) (get_appU hz0 e)
 have ha1:=fun e o=>pc_alive (off:=o) (get_appU hz1 e)
 have hl1:=fun e o=>pc_ld (off:=o) (get_appU hz1 e)
 have hls1 : ∀ e,acells (Z ++ e) 5 (.pc (H.length + 1) 0 0) = some [I ((2 : Nat) : Int),ilSS (tabG F1 2 2),ilSS (tabG F2 2 2),ilSS (tabG F3 2 2),ilS (invL F3 2)]:=fun e=>pc_lds (get_appU hz1 e) (by simp)
 have xa0:=fun o=>pc_alive (off:=o) hz0
 have xl0:=fun o=>pc_ld (off:=o) hz0
 have xa1:=fun o=>pc_alive (off:=o) hz1
 have xl1:=fun o=>pc_ld (off:=o) hz1
 have xls1 : acells Z 5 (.pc (H.length + 1) 0 0) = some [I ((2 : Nat) : Int),ilSS (tabG F1 2 2),ilSS (tabG F2 2 2),ilSS (tabG F3 2 2),ilS (invL F3 2)]:=pc_lds hz1 (by simp)
 simp (disch:=(first|omega|(simp only [go_sem];try omega))) only [go_sem,Nat.reduceAdd,Nat.reduceEqDiff,Nat.reduceLeDiff,reduceIte,w64_id,cast_succ]
 repeat (first|(with_reducible first|refine SW.seq ?_|refine q8 ?_|refine SW.rowC ?_|refine SW.skip ?_|refine SW.exit ?_|intro _|refine And.intro (by omega) ?_)|simp (disch:=(first|omega|(simp only [go_sem];try omega))) only [go_sem,Nat.reduceAdd,Nat.reduceEqDiff,Nat.reduceLeDiff,reduceIte,w64_id,cast_succ])
 (first|refine wK rfl (fun h2=>?_) (fun h2=>?_)|refine wL rfl (fun h2=>?_) (fun h2=>?_)|refine wF rfl (fun h2=>?_) (fun h2=>?_)|refine wH rfl (fun h2=>?_) (fun h2=>?_))
 ·repeat (first|(with_reducible first|refine SW.seq ?_|refine q8 ?_|refine SW.rowC ?_|refine SW.skip ?_|refine SW.exit ?_|refine PFn.use (hhf j (by omega)) ?_|refine PFn.useq (hhf j (by omega)) ?_|refine PFn.use (hen j) ?_|refine PFn.useq (hen j) ?_|intro _|refine And.intro (by omega) ?_)|simp (disch:=(first|omega|(simp only [go_sem];try omega))) only [go_sem,Nat.reduceAdd,Nat.reduceEqDiff,Nat.reduceLeDiff,reduceIte,w64_id,cast_succ,ha0,hl0,ha1,hl1,hls1,xa0,xl0,xa1,xl1,xls1])
  subst hZ
  have hbb : ∀ k,BB k [bx]:=fun k=>by
   rw [← hbx];(simp only [go_sem,Nat.reduceAdd,Nat.reduceEqDiff,reduceIte,go_sem,and_self,and_true,true_and,implies_true,qI,qO,and_true,true_and];try omega)
  repeat (first|(with_reducible first|refine SW.seq ?_|refine q8 ?_|refine SW.rowC ?_|refine SW.skip ?_|refine SW.exit ?_|intro _|refine And.intro (by omega) ?_)|simp (disch:=(first|omega|(simp only [go_sem];try omega))) only [go_sem,Nat.reduceAdd,Nat.reduceEqDiff,Nat.reduceLeDiff,reduceIte,w64_id,cast_succ,htl,hml])
  refine y4 3 (N - (j + 1)) hB (by omega) (by omega) (by simp) ?_ ?_ ⟨j + 1,ver + 1,by omega,rfl,?_,?_⟩
  ·(simp only [go_sem,Nat.reduceAdd,Nat.reduceEqDiff,reduceIte,go_sem,and_self,and_true,true_and,implies_true,qI,qO,and_true,true_and];try omega)
  ·have:=hbb (H.length + 3)
   simp only [BB_cons,BB_nil,and_true] at this
   simp only [qI,qO,BB_cons,BB_nil,and_true]
   exact ⟨by (simp only [go_sem,Nat.reduceAdd,Nat.reduceEqDiff,reduceIte,go_sem,and_self,and_true,true_and,implies_true,qI,qO,and_true,true_and];try omega),this,by (simp only [go_sem,Nat.reduceAdd,Nat.reduceEqDiff,reduceIte,go_sem,and_self,and_true,true_and,implies_true,qI,qO,and_true,true_and];try omega)⟩
  ·simp [go_sem]
  ·rw [hms];simp
 ·have : j = N:=by omega
  subst this
  rw [hM]
  repeat (first|(with_reducible first|refine SW.seq ?_|refine q8 ?_|refine SW.rowC ?_|refine SW.skip ?_|refine SW.exit ?_|intro _|refine And.intro (by omega) ?_)|simp (disch:=(first|omega|(simp only [go_sem];try omega))) only [go_sem,Nat.reduceAdd,Nat.reduceEqDiff,Nat.reduceLeDiff,reduceIte,w64_id,cast_succ])
  refine SW.ret ?_;(try simp only [go_sem]);(first|refine qP ?_|refine qS ?_|refine qQ ?_);(try simp (disch:=(first|omega|(simp only [go_sem];try omega))) only [go_sem,Nat.reduceAdd,Nat.reduceEqDiff,Nat.reduceLeDiff,reduceIte,w64_id,cast_succ])
  subst hZ
  exact GR.froz (froz_rowS (r:=H.length + 2) (ver:=ver) (ty:=tyLL) (by omega) (by simp)) ⟨rfl,rfl⟩
theorem lengthOf_fn (p d : Int) (L : List Int) (m : List (List Int)) (hm : 1 ≤ m.length) : PFn Tryz.prog f_impl_lengthOf [.agg [I p,I d,ilS L,ilSS m]] (I (m.getD 0 []).length):=by
 have hm0 : ¬ m.length = 0:=by omega
 intro H;refine ACalls.introB s_impl_lengthOf (by simp) ?_;intro hB hA;unfold c_impl_lengthOf;simp (maxSteps:=1000000) (disch:=(first|omega|(simp only [go_sem];try omega))) only [go_sem,Nat.reduceAdd,Nat.reduceEqDiff,Nat.reduceLeDiff,Nat.reduceMul,Nat.reduceLT,reduceIte,Int.reduceToNat,w64_id,cast_succ]
 repeat (first|(with_reducible first|refine SW.seq ?_|refine q8 ?_|refine SW.rowC ?_|refine SW.skip ?_|refine SW.exit ?_|refine PFn.use (size_fn _) ?_|refine PFn.useq (size_fn _) ?_|intro _|refine And.intro (by omega) ?_)|simp (maxSteps:=1000000) (disch:=(first|omega|(simp only [go_sem];try omega))) only [go_sem,Nat.reduceAdd,Nat.reduceEqDiff,Nat.reduceLeDiff,Nat.reduceMul,Nat.reduceLT,reduceIte,Int.reduceToNat,w64_id,cast_succ])
 refine SW.ret ?_;(try simp only [go_sem]);(first|refine qP ?_|refine qS ?_|refine qQ ?_);(try simp (maxSteps:=1000000) (disch:=(first|omega|(simp only [go_sem];try omega))) only [go_sem,Nat.reduceAdd,Nat.reduceEqDiff,Nat.reduceLeDiff,Nat.reduceMul,Nat.reduceLT,reduceIte,Int.reduceToNat,w64_id,cast_succ]);(first|(with_reducible refine GR.drop ?_ ?_;(simp only [go_sem,and_self,and_true,true_and,implies_true,qI,qO]))|refine GR.of ?_);refine ⟨?_,rfl⟩;(try with_reducible rfl)
theorem implCodeGraph_ok (H : List Blk) (p d : Int) (L : List Int) (m : List (List Int)) (hl : L.length ≤ 2000000) (hw : -9223372036854775808 ≤ d ∧ d ≤ 9223372036854775807) (hm : m.length ≤ 2000000) (hm2 : ∀ x ∈ m,x.length ≤ 2000000) :
  ACalls Tryz.prog f_impl_CodeGraph [.agg [I p,I d,ilS L,ilSS m]] H (GrR H (cgV p d L m)):=by
 have hv:=ValidCode_fn p d L m hl hw hm hm2
 unfold cgV
 by_cases hc : codeB p d L m = true
 ·rw [if_pos hc]
  rw [hc] at hv
  obtain ⟨hf,hmc,h8⟩:=codeB_facts hc
  have hfs : PFn Tryz.prog f_impl_fieldSize [.agg [I p,I d,ilS L]] (I (p.toNat ^ d.toNat : Nat)):=by
   obtain ⟨P,K,rfl,rfl,hpb,hkb,hLb,hq,-,-,-⟩:=fieldB_facts hf
   have:=fieldSize_fn P K L (by omega) (by omega)
   rwa [pwU_le (by omega) K 1 (qZ _) (by omega),Nat.one_mul] at this
  by_cases h2 : p.toNat ^ d.toNat = 2
  ·rw [if_pos h2]
   rw [h2] at hfs
   obtain ⟨rfl,rfl,hL,h1L,hk,hw1,hw2,hrows⟩:=code_two hc h2
   refine ACalls.introB s_impl_CodeGraph (by simp) ?_;intro hB hA;unfold c_impl_CodeGraph;simp (maxSteps:=1000000) (disch:=(first|omega|(simp only [go_sem];try omega))) only [go_sem,Nat.reduceAdd,Nat.reduceEqDiff,Nat.reduceLeDiff,Nat.reduceMul,Nat.reduceLT,reduceIte,Int.reduceToNat,w64_id,cast_succ]
   repeat (first|(with_reducible first|refine SW.seq ?_|refine q8 ?_|refine SW.rowC ?_|refine SW.skip ?_|refine SW.exit ?_|refine PFn.use (hv) ?_|refine PFn.useq (hv) ?_|refine PFn.use (hfs) ?_|refine PFn.useq (hfs) ?_|intro _|refine And.intro (by omega) ?_)|simp (maxSteps:=1000000) (disch:=(first|omega|(simp only [go_sem];try omega))) only [go_sem,Nat.reduceAdd,Nat.reduceEqDiff,Nat.reduceLeDiff,Nat.reduceMul,Nat.reduceLT,reduceIte,Int.reduceToNat,w64_id,cast_succ])
   refine wE rfl ?_
   repeat (first|(with_reducible first|refine SW.seq ?_|refine q8 ?_|refine SW.rowC ?_|refine SW.skip ?_|refine SW.exit ?_|refine PFn.use (hv) ?_|refine PFn.useq (hv) ?_|refine PFn.use (hfs) ?_|refine PFn.useq (hfs) ?_|intro _|refine And.intro (by omega) ?_)|simp (maxSteps:=1000000) (disch:=(first|omega|(simp only [go_sem];try omega))) only [go_sem,Nat.reduceAdd,Nat.reduceEqDiff,Nat.reduceLeDiff,Nat.reduceMul,Nat.reduceLT,reduceIte,Int.reduceToNat,w64_id,cast_succ])
   refine wE rfl ?_
   have hwo:=wordsOf_fn L m _ hL h1L hk hw2 hrows
   have hlo:=lengthOf_fn 2 1 L m hk.1
   have hWl:=wds_len (m.getD 0 []).length m
   have hpos : 1 ≤ 2 ^ m.length:=Nat.pow_pos (by omega)
   have hp8 : 2 ^ m.length ≤ 2 ^ 8:=xP (by omega) hk.2
   have hsl:=supps_len (m.getD 0 []).length m
   have hsx:=supps_asc (w:=(m.getD 0 []).length) (m:=m)
   have hWm : ∀ v ∈ wds (m.getD 0 []).length m,v.length = (m.getD 0 []).length:=fun v hv=>(wds_mem hv).1
   unfold supps at hsl hsx ⊢
   generalize wds (m.getD 0 []).length m = WD at *
   generalize (m.getD 0 []).length = w at *
   have hdt : List.take (WD.length - 1) (List.drop 1 WD) = WD.drop 1:=qW (by simp)
   have hDm : ∀ v ∈ WD.drop 1,v.length = w:=fun v hv=>hWm v (List.mem_of_mem_drop hv)
   have hDl : (WD.drop 1).length ≤ 300:=by simp;omega
   repeat (first|(with_reducible first|refine SW.seq ?_|refine q8 ?_|refine SW.rowC ?_|refine SW.skip ?_|refine SW.exit ?_|refine PFn.use (hwo) ?_|refine PFn.useq (hwo) ?_|intro _|refine And.intro (by omega) ?_)|simp (maxSteps:=1000000) (disch:=(first|omega|(simp only [go_sem];try omega))) only [go_sem,Nat.reduceAdd,Nat.reduceEqDiff,Nat.reduceLeDiff,Nat.reduceMul,Nat.reduceLT,reduceIte,Int.reduceToNat,w64_id,cast_succ])
   repeat (first|(with_reducible first|refine SW.seq ?_|refine q8 ?_|refine SW.rowC ?_|refine SW.skip ?_|refine SW.exit ?_|intro _|refine And.intro (by omega) ?_)|simp (maxSteps:=1000000) (disch:=(first|omega|(simp only [go_sem];try omega))) only [go_sem,Nat.reduceAdd,Nat.reduceEqDiff,Nat.reduceLeDiff,Nat.reduceMul,Nat.reduceLT,reduceIte,Int.reduceToNat,w64_id,cast_succ,Option.map_some,Option.map_none,slc_ilSSW,hdt])
   generalize WD.drop 1 = D at *
   refine zO (Gh.name 4 22 1 rfl) ?_
   simp (maxSteps:=1000000) (disch:=(first|omega|(simp only [go_sem];try omega))) only [go_sem,Nat.reduceAdd,Nat.reduceEqDiff,Nat.reduceLeDiff,Nat.reduceMul,Nat.reduceLT,reduceIte,Int.reduceToNat,w64_id,cast_succ]
   refine wJ (fun E0 H0 q E' H'=>∃ (pre post : List (List Int)) (ver : Nat),D = pre ++ post ∧ q = post.length ∧ E' = aput (aput E0 20 (I pre.length)) 4 (.nm (H.length + 2) ver 0 (pre.map supp).length) ∧ H' = H ++ [⟨0,36,1,[I 2,I 1,ilS L,ilSS m]⟩,⟨0,tyGr,1,[nilS,nilS]⟩,⟨ver,tyLL,1,(pre.map supp).map ilS⟩]) D.length ⟨[],D,0,rfl,rfl,rfl,rfl⟩ ?_
   rintro q E' H' ⟨pre,post,ver,hpp,rfl,rfl,rfl⟩
   have hms : ∀ x,(pre ++ [x]).map supp = pre.map supp ++ [supp x]:=fun x=>by simp
   have hml : (pre.map supp).length = pre.length:=by simp
   have hpl : pre.length ≤ D.length:=by rw [hpp];simp
   generalize hM : pre.map supp = M at *
   have htl : (M.map ilS).take pre.length = M.map ilS:=qW (by simp [hml])
   simp (maxSteps:=1000000) (disch:=(first|omega|(simp only [go_sem];try omega))) only [go_sem,Nat.reduceAdd,Nat.reduceEqDiff,Nat.reduceLeDiff,Nat.reduceMul,Nat.reduceLT,reduceIte,Int.reduceToNat,w64_id,cast_succ]
   repeat (first|(with_reducible first|refine SW.seq ?_|refine q8 ?_|refine SW.rowC ?_|refine SW.skip ?_|refine SW.exit ?_|intro _|refine And.intro (by omega) ?_)|simp (maxSteps:=1000000) (disch:=(first|omega|(simp only [go_sem];try omega))) only [go_sem,Nat.reduceAdd,Nat.reduceEqDiff,Nat.reduceLeDiff,Nat.reduceMul,Nat.reduceLT,reduceIte,Int.reduceToNat,w64_id,cast_succ])
   (first|refine wK rfl (fun h3=>?_) (fun h3=>?_)|refine wL rfl (fun h3=>?_) (fun h3=>?_)|refine wF rfl (fun h3=>?_) (fun h3=>?_)|refine wH rfl (fun h3=>?_) (fun h3=>?_))
   ·obtain ⟨x,post,rfl,hg,-⟩:=consOf (d:=[]) hpp (by omega)
    have hxl:=hDm x (by rw [hpp];simp)
    repeat (first|(with_reducible first|refine SW.seq ?_|refine q8 ?_|refine SW.rowC ?_|refine SW.skip ?_|refine SW.exit ?_|refine PFn.use (supportOf_fn x (by omega)) ?_|refine PFn.useq (supportOf_fn x (by omega)) ?_|intro _|refine And.intro (by omega) ?_)|simp (maxSteps:=1000000) (disch:=(first|omega|(simp only [go_sem];try omega))) only [go_sem,Nat.reduceAdd,Nat.reduceEqDiff,Nat.reduceLeDiff,Nat.reduceMul,Nat.reduceLT,reduceIte,Int.reduceToNat,w64_id,cast_succ,hg,htl,hml])
    refine y4 3 post.length hB (by omega) (by simp) (by simp) ?_ ?_ ⟨pre ++ [x],post,ver + 1,by simp [hpp],rfl,?_,?_⟩
    ·(simp only [go_sem,Nat.reduceAdd,Nat.reduceEqDiff,reduceIte,go_sem,and_self,and_true,true_and,implies_true,qI,qO,and_true,true_and];try omega)
    ·(simp only [go_sem,Nat.reduceAdd,Nat.reduceEqDiff,reduceIte,go_sem,and_self,and_true,true_and,implies_true,qI,qO,and_true,true_and];try omega)
    ·simp [go_sem]
    ·rw [hms];simp
   ·obtain ⟨rfl,rfl⟩:=nilOf hpp (by omega)
    repeat (first|(with_reducible first|refine SW.seq ?_|refine q8 ?_|refine SW.rowC ?_|refine SW.skip ?_|refine SW.exit ?_|refine PFn.use (hlo) ?_|refine PFn.useq (hlo) ?_|intro _|refine And.intro (by omega) ?_)|simp (maxSteps:=1000000) (disch:=(first|omega|(simp only [go_sem];try omega))) only [go_sem,Nat.reduceAdd,Nat.reduceEqDiff,Nat.reduceLeDiff,Nat.reduceMul,Nat.reduceLT,reduceIte,Int.reduceToNat,w64_id,cast_succ])
    rw [hM]
    rw [hM] at hsx
    have hfz : Froz (H ++ [(⟨0,36,1,[I 2,I 1,ilS L,ilSS m]⟩ : Blk),⟨0,tyGr,1,[nilS,nilS]⟩,⟨ver,tyLL,1,M.map ilS⟩]) 0 (.nm (H.length + 2) ver 0 M.length) (ilSS M):=froz_rowS (r:=H.length + 2) (ver:=ver) (ty:=tyLL) (by omega) (by simp)
    refine (gr_lend (setGraph_ok [] w M hw1 hw2 (by omega) hsx) (.cons (froz_I' _) (.cons hfz .nil))).mono ?_
    generalize grV w M = V
    obtain ⟨⟨cols,es⟩,code⟩:=V
    rintro r H1 ⟨ext,v,u,q,rfl,rfl,q1,q2,hc,he⟩
    replace hc : OwnS _ _ _ v cols:=hc
    replace he : OwnE _ _ u es:=he
    have c1 : v.cell1 = true ∧ partsOf v = [v]:=by rcases hc with ⟨r,ver,ty,rfl,_⟩|⟨_,rfl|rfl⟩ <;> exact ⟨rfl,rfl⟩
    repeat (first|(with_reducible first|refine SW.seq ?_|refine q8 ?_|refine SW.rowC ?_|refine SW.skip ?_|refine SW.exit ?_|intro _|refine And.intro (by omega) ?_)|simp (maxSteps:=1000000) (disch:=(first|omega|(simp only [go_sem];try omega))) only [go_sem,Nat.reduceAdd,Nat.reduceEqDiff,Nat.reduceLeDiff,Nat.reduceMul,Nat.reduceLT,reduceIte,Int.reduceToNat,w64_id,cast_succ,c1.1,c1.2,he.one.1,he.one.2])
    refine SW.ret ?_
    have q1' : H.length + 3 ≤ q:=by simpa using q1
    generalize hDb : (⟨0,36,1,[I 2,I 1,ilS L,ilSS m]⟩ : Blk) = Db at *
    generalize hSb : (⟨ver,tyLL,1,M.map ilS⟩ : Blk) = Sb at *
    have e5 : H ++ (Db :: (⟨0,tyGr,1,[v,u]⟩ : Blk) :: Sb :: ext) = (H ++ [Db,(⟨0,tyGr,1,[nilS,nilS]⟩ : Blk),Sb] ++ ext).set (H.length + 1) ⟨0,tyGr,1,[v,u]⟩:=by simp
    refine xI (cs:=[v,u]) (by simp (maxSteps:=1000000) (disch:=(first|omega|(simp only [go_sem];try omega))) only [go_sem,Nat.reduceAdd,Nat.reduceEqDiff,Nat.reduceLeDiff,Nat.reduceMul,Nat.reduceLT,reduceIte,Int.reduceToNat,w64_id,cast_succ]) (GR.of ⟨_,v,u,q,rfl,rfl,by omega,by simp at q2 ⊢;omega,?_,?_⟩)
    ·rw [e5]
     refine OwnS.weak (N:=Btw (H ++ [Db,(⟨0,tyGr,1,[nilS,nilS]⟩ : Blk),Sb]).length q) ?_ (fun r h1 h2=>?_)
     ·have:=hc.same (H':=(H ++ [Db,(⟨0,tyGr,1,[nilS,nilS]⟩ : Blk),Sb] ++ ext).set (H.length + 1) ⟨0,tyGr,1,[v,u]⟩) (fun j b h1 _ h2=>by rw [qR (by unfold Btw at h1;simp at h1;omega)];exact h2)
      simpa using this
     ·unfold Btw at h1 ⊢;simp at h1 ⊢;omega
    ·rw [e5]
     refine (he.same (fun j b h1 h2=>?_)).weak (fun r h1 h2=>?_)
     ·rw [qR (by unfold Btw at h1;omega)];exact h2
     ·unfold Btw at h1 ⊢;simp at h1 h2 ⊢;omega
  ·rw [if_neg h2]
   have d1 : decide (((p.toNat ^ d.toNat : Nat) : Int) = 2) = false:=decide_eq_false (by omega)
   generalize p.toNat ^ d.toNat = q at *
   refine ACalls.introB s_impl_CodeGraph (by simp) ?_;intro hB hA;unfold c_impl_CodeGraph;simp (maxSteps:=1000000) (disch:=(first|omega|(simp only [go_sem];try omega))) only [go_sem,Nat.reduceAdd,Nat.reduceEqDiff,Nat.reduceLeDiff,Nat.reduceMul,Nat.reduceLT,reduceIte,Int.reduceToNat,w64_id,cast_succ]
   repeat (first|(with_reducible first|refine SW.seq ?_|refine q8 ?_|refine SW.rowC ?_|refine SW.skip ?_|refine SW.exit ?_|refine PFn.use (hv) ?_|refine PFn.useq (hv) ?_|refine PFn.use (hfs) ?_|refine PFn.useq (hfs) ?_|intro _|refine And.intro (by omega) ?_)|simp (maxSteps:=1000000) (disch:=(first|omega|(simp only [go_sem];try omega))) only [go_sem,Nat.reduceAdd,Nat.reduceEqDiff,Nat.reduceLeDiff,Nat.reduceMul,Nat.reduceLT,reduceIte,Int.reduceToNat,w64_id,cast_succ,d1])
   refine wE rfl ?_
   repeat (first|(with_reducible first|refine SW.seq ?_|refine q8 ?_|refine SW.rowC ?_|refine SW.skip ?_|refine SW.exit ?_|refine PFn.use (hv) ?_|refine PFn.useq (hv) ?_|refine PFn.use (hfs) ?_|refine PFn.useq (hfs) ?_|intro _|refine And.intro (by omega) ?_)|simp (maxSteps:=1000000) (disch:=(first|omega|(simp only [go_sem];try omega))) only [go_sem,Nat.reduceAdd,Nat.reduceEqDiff,Nat.reduceLeDiff,Nat.reduceMul,Nat.reduceLT,reduceIte,Int.reduceToNat,w64_id,cast_succ,d1])
   refine wM rfl ?_
   repeat (first|(with_reducible first|refine SW.seq ?_|refine q8 ?_|refine SW.rowC ?_|refine SW.skip ?_|refine SW.exit ?_|intro _|refine And.intro (by omega) ?_)|simp (maxSteps:=1000000) (disch:=(first|omega|(simp only [go_sem];try omega))) only [go_sem,Nat.reduceAdd,Nat.reduceEqDiff,Nat.reduceLeDiff,Nat.reduceMul,Nat.reduceLT,reduceIte,Int.reduceToNat,w64_id,cast_succ])
   refine SW.ret ?_
   exact xI (cs:=[nilS,nilS]) (by simp (maxSteps:=1000000) (disch:=(first|omega|(simp only [go_sem];try omega))) only [go_sem,Nat.reduceAdd,Nat.reduceEqDiff,Nat.reduceLeDiff,Nat.reduceMul,Nat.reduceLT,reduceIte,Int.reduceToNat,w64_id,cast_succ]) (GR.of nilGr)
 ·rw [if_neg hc]
  rw [Bool.not_eq_true] at hc
  rw [hc] at hv
  refine ACalls.introB s_impl_CodeGraph (by simp) ?_;intro hB hA;unfold c_impl_CodeGraph;simp (maxSteps:=1000000) (disch:=(first|omega|(simp only [go_sem];try omega))) only [go_sem,Nat.reduceAdd,Nat.reduceEqDiff,Nat.reduceLeDiff,Nat.reduceMul,Nat.reduceLT,reduceIte,Int.reduceToNat,w64_id,cast_succ]
  repeat (first|(with_reducible first|refine SW.seq ?_|refine q8 ?_|refine SW.rowC ?_|refine SW.skip ?_|refine SW.exit ?_|refine PFn.use (hv) ?_|refine PFn.useq (hv) ?_|intro _|refine And.intro (by omega) ?_)|simp (maxSteps:=1000000) (disch:=(first|omega|(simp only [go_sem];try omega))) only [go_sem,Nat.reduceAdd,Nat.reduceEqDiff,Nat.reduceLeDiff,Nat.reduceMul,Nat.reduceLT,reduceIte,Int.reduceToNat,w64_id,cast_succ])
  refine wM rfl ?_
  repeat (first|(with_reducible first|refine SW.seq ?_|refine q8 ?_|refine SW.rowC ?_|refine SW.skip ?_|refine SW.exit ?_|intro _|refine And.intro (by omega) ?_)|simp (maxSteps:=1000000) (disch:=(first|omega|(simp only [go_sem];try omega))) only [go_sem,Nat.reduceAdd,Nat.reduceEqDiff,Nat.reduceLeDiff,Nat.reduceMul,Nat.reduceLT,reduceIte,Int.reduceToNat,w64_id,cast_succ])
  refine SW.ret ?_
  exact xI (cs:=[nilS,nilS]) (by simp (maxSteps:=1000000) (disch:=(first|omega|(simp only [go_sem];try omega))) only [go_sem,Nat.reduceAdd,Nat.reduceEqDiff,Nat.reduceLeDiff,Nat.reduceMul,Nat.reduceLT,reduceIte,Int.reduceToNat,w64_id,cast_succ]) (GR.of nilGr)
end Go.Proofs.YtclfmfabcnbbpaaGreat