/- Graphs of sets: the program. -/
import Derived.Test.YtclfmfabcnbbpaaGreatProg
import Derived.KernelRfl
import Derived.Test.YtclfmfabcnbbpaaGreatzE1
import Derived.Test.YtclfmfabcnbbpaaGreatzK20
import Derived.Test.YtclfmfabcnbbpaaGreatzK6
import Derived.Test.YtclfmfabcnbbpaaGreatzK19
import Derived.Test.YtclfmfabcnbbpaaGreatzK4
import Derived.Test.YtclfmfabcnbbpaaGreatzL2
set_option linter.unusedSimpArgs false
set_option linter.unusedVariables false
set_option maxHeartbeats 4000000
set_option maxRecDepth 100000
open Go.Operand renaming tmp→t'
open Option renaming none→n',some→s'
open Go.Av.SW renaming block→q8,loopE→wJ,condD→wK,condN→wL,condNB→wF,condB→wH
open Go.Av.FunPost renaming three→qQ,cell_tmp→xI
open List renaming take_of_length_le→qW,take_succ_cons→qI,take_zero→qO,mem_map→wG,getElem?_set_ne→qR,reverse_reverse→yL,reverse_cons→yS
namespace Go.Proofs.YtclfmfabcnbbpaaGreat
open Go.Av
abbrev f_impl_setGraph : Nat:=23
def c_impl_setGraph : SC :=
 .seq (.reg [⟨s' 4,.alloc 31 [(.slice none 0 0),(.slice none 0 0)],n'⟩,⟨s' 5,.mv (.const (.int .i64 0)),n'⟩] [0,1,4]) (.seq (.reg [
 ⟨s' 6,.mv (.const (.slice none 0 0)),n'⟩] [0,1,4,6]) (.seq (.seq (.reg [⟨s' 11,.mv (t' 1),n'⟩,⟨s' 12,.len (t' 11),n'⟩,⟨s' 13,.mv (.const (.int .i64 0)),n'⟩] [0,1,4,6,11,12,13])
 (.block 0 (.loop [0,1,4,6,11,12,13] (.seq (.reg [⟨s' 14,.bin .lss (t' 13) (t' 12),n'⟩] [0,1,4,6,11,12,13,14]) (.seq (.cond (t' 14) (.skip) (.exit 0)) (.seq (.block 1 (.seq (.reg [
 ⟨s' 15,.mv (t' 13),n'⟩,⟨s' 16,.iaddr 1 (t' 11) (t' 13),n'⟩,⟨s' 17,.load 1 false (t' 16),n'⟩,⟨s' 7,.mv (t' 15),n'⟩,⟨s' 8,.mv (t' 17),n'⟩] [0,1,4,6,7,8,11,12,13]) (.seq (.reg [
 ⟨s' 18,.mv (t' 8),n'⟩,⟨s' 19,.len (t' 18),n'⟩,⟨s' 20,.mv (.const (.int .i64 0)),n'⟩] [0,1,4,6,7,11,12,13,18,19,20]) (.block 2 (.loop [0,1,4,6,7,11,12,13,18,19,20] (.seq (.reg [
 ⟨s' 21,.bin .lss (t' 20) (t' 19),n'⟩] [0,1,4,6,7,11,12,13,18,19,20,21]) (.seq (.cond (t' 21) (.skip) (.exit 2)) (.seq (.block 3 (.seq (.reg [⟨s' 22,.iaddr 1 (t' 18) (t' 20),n'⟩,
 ⟨s' 23,.load 1 false (t' 22),n'⟩,⟨s' 10,.mv (t' 23),n'⟩] [0,1,4,6,7,10,11,12,13,18,19,20]) (.reg [⟨s' 24,.mv (t' 6),n'⟩,⟨s' 25,.mv (t' 10),n'⟩,⟨s' 26,.mv (t' 0),n'⟩,
 ⟨s' 27,.mv (t' 7),n'⟩,⟨s' 28,.bin .add (t' 26) (t' 27),n'⟩,⟨s' 29,.build [(.int .i64 0),(.int .i64 0)] [(0,1,(t' 25)),(1,1,(t' 28))],n'⟩,
 ⟨s' 30,.bslice 70 2 1 [(.int .i64 0),(.int .i64 0)] [(0,(t' 29))],n'⟩,⟨s' 31,.app 70 2 16 (t' 24) (t' 30),n'⟩,⟨s' 6,.mv (t' 31),n'⟩] [0,1,4,6,7,11,12,13,18,19,20]))) (.reg [
 ⟨s' 32,.bin .add (t' 20) (.const (.int .i64 1)),n'⟩,⟨s' 20,.mv (t' 32),n'⟩] [0,1,4,6,7,11,12,13,18,19,20]))))))))) (.reg [⟨s' 33,.bin .add (t' 13) (.const (.int .i64 1)),n'⟩,
 ⟨s' 13,.mv (t' 33),n'⟩] [0,1,4,6,11,12,13]))))))) (.seq (.reg [⟨s' 34,.mv (t' 0),n'⟩,⟨s' 35,.mv (t' 1),n'⟩,⟨s' 36,.call 45 [(t' 35)],n'⟩,⟨s' 37,.call 52 [(t' 34),(t' 36)],n'⟩,
 ⟨s' 38,.mv (t' 6),n'⟩,⟨s' 39,.call 51 [(t' 37),(t' 38)],n'⟩,⟨s' 40,.ext (t' 39) 0,n'⟩,⟨s' 41,.ext (t' 39) 1,n'⟩,⟨n',.store 2 (t' 4) (t' 40),n'⟩,⟨s' 5,.mv (t' 41),n'⟩] [4,5])
 (.ret))))
theorem s_impl_setGraph : stripF Tryz.prog 23 [[0,1,4],[0,1,4,6],[0,1,4,6,11,12,13],[0,1,4,6,11,12,13],[0,1,4,6,11,12,13,14],[0,1,4,6,7,8,11,12,13],[0,1,4,6,7,11,12,13,18,19,20],[0,1,4,6,7,11,12,13,18,19,20],[0,1,4,6,7,11,12,13,18,19,20,21],[0,1,4,6,7,10,11,12,13,18,19,20],[0,1,4,6,7,11,12,13,18,19,20],[0,1,4,6,7,11,12,13,18,19,20],[0,1,4,6,11,12,13],[4,5]] = some (c_impl_setGraph,[.cell 4 2,.tmp 5],42):=by kernel_rfl
abbrev f_impl_graphOf : Nat:=51
def c_impl_graphOf : SC :=
 .seq (.reg [⟨s' 4,.alloc 31 [(.slice none 0 0),(.slice none 0 0)],n'⟩,⟨s' 5,.mv (.const (.int .i64 0)),n'⟩] [0,1,4]) (.seq (.seq (.reg [⟨s' 6,.mv (t' 0),n'⟩,
 ⟨s' 7,.len (t' 6),n'⟩,⟨s' 8,.bin .gtr (t' 7) (.const (.int .i64 64)),n'⟩,⟨s' 9,.mv (t' 8),n'⟩,⟨s' 10,.mv (t' 1),(some (9,false))⟩,⟨s' 11,.len (t' 10),(some (9,false))⟩,
 ⟨s' 12,.bin .gtr (t' 11) (.const (.int .i64 512)),(some (9,false))⟩,⟨s' 13,.pick (t' 9) (.const (.bool true)) (t' 12),n'⟩] [0,1,4,13]) (.cond (t' 13) (.seq (.reg [
 ⟨s' 14,.build [(.slice none 0 0),(.slice none 0 0)] [],n'⟩,⟨n',.store 2 (t' 4) (t' 14),n'⟩,⟨s' 5,.mv (.const (.int .i64 5)),n'⟩] [4,5]) (.ret)) (.skip))) (.seq (.reg [
 ⟨s' 15,.mv (t' 0),n'⟩,⟨s' 16,.mv (t' 1),n'⟩,⟨s' 17,.call 77 [(t' 16)],n'⟩,⟨s' 18,.build [(.slice none 0 0),(.slice none 0 0)] [(0,1,(t' 15)),(1,1,(t' 17))],n'⟩,
 ⟨n',.store 2 (t' 4) (t' 18),n'⟩,⟨s' 5,.mv (.const (.int .i64 0)),n'⟩] [4,5]) (.ret)))
theorem s_impl_graphOf : stripF Tryz.prog 51 [[0,1,4],[0,1,4,13],[4,5],[4,5]] = some (c_impl_graphOf,[.cell 4 2,.tmp 5],19):=by kernel_rfl
abbrev f_impl_twoColors : Nat:=52
def c_impl_twoColors : SC :=
 .seq (.reg [⟨s' 4,.mv (.const (.slice none 0 0)),n'⟩] [0,1]) (.seq (.reg [⟨s' 7,.mv (t' 0),n'⟩,⟨s' 8,.mv (t' 1),n'⟩,⟨s' 9,.bin .add (t' 7) (t' 8),n'⟩,
 ⟨s' 10,.mslice 2 8 (.int .i64 0) (t' 9) (t' 9),n'⟩,⟨s' 5,.mv (t' 10),n'⟩] [0,1,5]) (.seq (.seq (.reg [⟨s' 11,.mv (t' 0),n'⟩,⟨s' 6,.mv (t' 11),n'⟩] [0,1,5,6])
 (.block 0 (.loop [0,1,5,6] (.seq (.seq (.reg [⟨s' 12,.mv (t' 6),n'⟩,⟨s' 13,.mv (t' 0),n'⟩,⟨s' 14,.mv (t' 1),n'⟩,⟨s' 15,.bin .add (t' 13) (t' 14),n'⟩,
 ⟨s' 16,.bin .lss (t' 12) (t' 15),n'⟩] [0,1,5,6,16]) (.cond (t' 16) (.skip) (.exit 0))) (.seq (.block 1 (.reg [⟨s' 19,.mv (t' 5),n'⟩,⟨s' 20,.mv (t' 6),n'⟩,
 ⟨s' 21,.iaddr 1 (t' 19) (t' 20),n'⟩,⟨n',.store 1 (t' 21) (.const (.int .i64 1)),n'⟩] [0,1,5,6])) (.reg [⟨s' 17,.mv (t' 6),n'⟩,⟨s' 18,.bin .add (t' 17) (.const (.int .i64 1)),n'⟩,
 ⟨s' 6,.mv (t' 18),n'⟩] [0,1,5,6])))))) (.seq (.reg [⟨s' 22,.mv (t' 5),n'⟩,⟨s' 4,.mv (t' 22),n'⟩] [4]) (.ret))))
theorem s_impl_twoColors : stripF Tryz.prog 52 [[0,1],[0,1,5],[0,1,5,6],[0,1,5,6],[0,1,5,6,16],[0,1,5,6],[0,1,5,6],[4]] = some (c_impl_twoColors,[.tmp 4],23):=by kernel_rfl
abbrev f_impl_sortedEdges : Nat:=77
def c_impl_sortedEdges : SC :=
 .seq (.reg [⟨s' 2,.mv (.const (.slice none 0 0)),n'⟩] [0]) (.seq (.reg [⟨s' 3,.mv (.const (.slice none 0 0)),n'⟩] [0,3]) (.seq (.seq (.reg [⟨s' 6,.mv (t' 0),n'⟩,
 ⟨s' 7,.len (t' 6),n'⟩,⟨s' 8,.mv (.const (.int .i64 0)),n'⟩] [3,6,7,8]) (.block 0 (.loop [3,6,7,8] (.seq (.reg [⟨s' 9,.bin .lss (t' 8) (t' 7),n'⟩] [3,6,7,8,9]) (.seq (.cond (t' 9)
 (.skip) (.exit 0)) (.seq (.block 1 (.seq (.reg [⟨s' 10,.iaddr 2 (t' 6) (t' 8),n'⟩,⟨s' 11,.load 2 true (t' 10),n'⟩,⟨s' 5,.alloc 70 [(.int .i64 0),(.int .i64 0)],n'⟩,
 ⟨n',.store 2 (t' 5) (t' 11),n'⟩] [3,5,6,7,8]) (.reg [⟨s' 12,.mv (t' 3),n'⟩,⟨s' 13,.faddr 0 (t' 5),n'⟩,⟨s' 14,.load 1 false (t' 13),n'⟩,⟨s' 15,.faddr 1 (t' 5),n'⟩,
 ⟨s' 16,.load 1 false (t' 15),n'⟩,⟨s' 17,.mm false (t' 14) (t' 16),n'⟩,⟨s' 18,.faddr 0 (t' 5),n'⟩,⟨s' 19,.load 1 false (t' 18),n'⟩,⟨s' 20,.faddr 1 (t' 5),n'⟩,
 ⟨s' 21,.load 1 false (t' 20),n'⟩,⟨s' 22,.mm true (t' 19) (t' 21),n'⟩,⟨s' 23,.build [(.int .i64 0),(.int .i64 0)] [(0,1,(t' 17)),(1,1,(t' 22))],n'⟩,
 ⟨s' 24,.bslice 70 2 1 [(.int .i64 0),(.int .i64 0)] [(0,(t' 23))],n'⟩,⟨s' 25,.app 70 2 16 (t' 12) (t' 24),n'⟩,⟨s' 3,.mv (t' 25),n'⟩] [3,6,7,8]))) (.reg [
 ⟨s' 26,.bin .add (t' 8) (.const (.int .i64 1)),n'⟩,⟨s' 8,.mv (t' 26),n'⟩] [3,6,7,8]))))))) (.seq (.reg [⟨s' 27,.mv (t' 3),n'⟩,⟨s' 28,.call 93 [(t' 27),(.func 94)],n'⟩] [3])
 (.seq (.reg [⟨s' 29,.mv (t' 3),n'⟩,⟨s' 30,.call 95 [(t' 29)],n'⟩,⟨s' 2,.mv (t' 30),n'⟩] [2]) (.ret)))))
theorem s_impl_sortedEdges : stripF Tryz.prog 77 [[0],[0,3],[3,6,7,8],[3,6,7,8],[3,6,7,8,9],[3,5,6,7,8],[3,6,7,8],[3,6,7,8],[3],[2]] = some (c_impl_sortedEdges,[.tmp 2],31):=by kernel_rfl
abbrev tyGr : Nat:=31
def twoC (a b : Nat) : List Int:=tab (a + b) fun j=>if a ≤ j then 1 else 0
theorem flatE_snoc (es : List (Int × Int)) (e : Int × Int) : flatE (es ++ [e]) = flatE es ++ [I e.1,I e.2]:=by simp [flatE]
theorem twoColors_new (a b : Nat) (ha : a ≤ 1000) (hb : b ≤ 1000) : NewS Tryz.prog f_impl_twoColors [I a,I b] (twoC a b):=by
 intro H
 refine ACalls.introB s_impl_twoColors (by simp) ?_;intro hB hA;unfold c_impl_twoColors;simp (disch:=(first|omega|(simp only [go_sem];try omega))) only [go_sem,Nat.reduceAdd,Nat.reduceEqDiff,Nat.reduceLeDiff,reduceIte,w64_id,cast_succ]
 have e1 : (a : Int) + (b : Int) = ((a + b : Nat) : Int):=by omega
 repeat (first|(with_reducible first|refine SW.seq ?_|refine q8 ?_|refine SW.rowC ?_|refine SW.skip ?_|refine SW.exit ?_|intro _|refine And.intro (by omega) ?_)|simp (disch:=(first|omega|(simp only [go_sem];try omega))) only [go_sem,Nat.reduceAdd,Nat.reduceEqDiff,Nat.reduceLeDiff,reduceIte,w64_id,cast_succ,e1])
 rw [tab_rep]
 refine wJ (fun E0 H0 q E' H'=>∃ i : Nat,i ≤ b ∧ q = b - i ∧ E' = aput E0 6 (I (a + i : Nat)) ∧ H' = H ++ [⟨0,2,1,(tab (a + b) fun j=>if a ≤ j ∧ j < a + i then 1 else 0).map I⟩]) b ⟨0,by omega,by omega,rfl,?_⟩ ?_
 ·congr 4
  exact tab_congr fun j hj=>by rw [if_neg (by omega)]
 rintro q E' H' ⟨i,hi,rfl,rfl,rfl⟩
 have hll:=tab_length (a + b) fun j=>if a ≤ j ∧ j < a + i then (1 : Int) else 0
 simp (disch:=(first|omega|(simp only [go_sem];try omega))) only [go_sem,Nat.reduceAdd,Nat.reduceEqDiff,Nat.reduceLeDiff,reduceIte,w64_id,cast_succ]
 repeat (first|(with_reducible first|refine SW.seq ?_|refine q8 ?_|refine SW.rowC ?_|refine SW.skip ?_|refine SW.exit ?_|intro _|refine And.intro (by omega) ?_)|simp (disch:=(first|omega|(simp only [go_sem];try omega))) only [go_sem,Nat.reduceAdd,Nat.reduceEqDiff,Nat.reduceLeDiff,reduceIte,w64_id,cast_succ,e1])
 (first|refine wK rfl (fun h=>?_) (fun h=>?_)|refine wL rfl (fun h=>?_) (fun h=>?_)|refine wF rfl (fun h=>?_) (fun h=>?_)|refine wH rfl (fun h=>?_) (fun h=>?_))
 ·repeat (first|(with_reducible first|refine SW.seq ?_|refine q8 ?_|refine SW.rowC ?_|refine SW.skip ?_|refine SW.exit ?_|intro _|refine And.intro (by omega) ?_)|simp (disch:=(first|omega|(simp only [go_sem];try omega))) only [go_sem,Nat.reduceAdd,Nat.reduceEqDiff,Nat.reduceLeDiff,reduceIte,w64_id,cast_succ,take_tab])
  refine SLoop.next (b - (i + 1)) (by omega) ⟨i + 1,by omega,rfl,?_,?_⟩
  ·simp [go_sem,tab_length,Int.add_assoc]
  ·rw [tab_set]
   congr 4
   exact tab_congr fun j hj=>by
    by_cases hjm : j = a + i
    ·subst hjm
     rw [if_pos rfl,if_pos (by omega)]
    ·rw [if_neg hjm]
     by_cases h2 : a ≤ j ∧ j < a + i
     ·rw [if_pos h2,if_pos (by omega)]
     ·rw [if_neg h2,if_neg (by omega)]
 ·have : i = b:=by omega
  subst this
  have e2 : (tab (a + i) fun j=>if a ≤ j ∧ j < a + i then (1 : Int) else 0) = twoC a i:=tab_congr fun j hj=>by
   by_cases h2 : a ≤ j
   ·rw [if_pos ⟨h2,hj⟩,if_pos h2]
   ·rw [if_neg (by omega),if_neg h2]
  repeat (first|(with_reducible first|refine SW.seq ?_|refine q8 ?_|refine SW.rowC ?_|refine SW.skip ?_|refine SW.exit ?_|intro _|refine And.intro (by omega) ?_)|simp (disch:=(first|omega|(simp only [go_sem];try omega))) only [go_sem,Nat.reduceAdd,Nat.reduceEqDiff,Nat.reduceLeDiff,reduceIte,w64_id,cast_succ])
  refine SW.ret ?_;(try simp only [go_sem]);(first|refine FunPost.one ?_|refine FunPost.two ?_|refine qQ ?_);(try simp (disch:=(first|omega|(simp only [go_sem];try omega))) only [go_sem,Nat.reduceAdd,Nat.reduceEqDiff,Nat.reduceLeDiff,reduceIte,w64_id,cast_succ])
  rw [e2]
  refine GR.of ⟨?_,rfl⟩
  simp [twoC,tab]
theorem sortedEdges_ok (H : List Blk) (s : AV) (es : List (Int × Int)) (hs : RdE H s es) (hle : ∀ e ∈ es,e.1 ≤ e.2) (hnd : es.Nodup) (hl : es.length ≤ 2000000) :
  ACalls Tryz.prog f_impl_sortedEdges [s] H (fun r H'=>∃ ext,H' = H ++ ext ∧ OwnE H' (Btw H.length H'.length) r (sortU cmpE es)):=by
 have hsv : ∀ ext,aview (H ++ ext) s = some (es.length,flatE es):=fun ext=>hs.append ext
 have hsv0 : aview H s = some (es.length,flatE es):=hs
 refine ACalls.introB s_impl_sortedEdges (by simp) ?_;intro hB hA;unfold c_impl_sortedEdges;simp (maxSteps:=1000000) (disch:=(first|omega|(simp only [go_sem];try omega))) only [go_sem,Nat.reduceAdd,Nat.reduceEqDiff,Nat.reduceLeDiff,Nat.reduceMul,Nat.reduceLT,reduceIte,Int.reduceToNat,w64_id,cast_succ]
 have hsb : ∀ k,H.length ≤ k → Bel k s:=fun k hk=>(hA s (by simp)).mono hk
 repeat (first|(with_reducible first|refine SW.seq ?_|refine q8 ?_|refine SW.rowC ?_|refine SW.skip ?_|refine SW.exit ?_|intro _|refine And.intro (by omega) ?_)|simp (maxSteps:=1000000) (disch:=(first|omega|(simp only [go_sem];try omega))) only [go_sem,Nat.reduceAdd,Nat.reduceEqDiff,Nat.reduceLeDiff,Nat.reduceMul,Nat.reduceLT,reduceIte,Int.reduceToNat,w64_id,cast_succ,hsv,hsv0])
 refine SW.ghost (Gh.name 3 tyE 2 rfl) ?_
 simp (maxSteps:=1000000) (disch:=(first|omega|(simp only [go_sem];try omega))) only [go_sem,Nat.reduceAdd,Nat.reduceEqDiff,Nat.reduceLeDiff,Nat.reduceMul,Nat.reduceLT,reduceIte,Int.reduceToNat,w64_id,cast_succ]
 refine wJ (fun E0 H0 q E' H'=>∃ (pre post : List (Int × Int)) (ver : Nat),es = pre ++ post ∧ q = post.length ∧ E' = aput (aput E0 8 (I pre.length)) 3 (.nm H.length ver 0 pre.length) ∧ H' = H ++ [⟨ver,tyE,2,flatE pre⟩]) es.length ⟨[],es,0,rfl,rfl,rfl,rfl⟩ ?_
 rintro q E' H' ⟨pre,post,ver,hpp,rfl,rfl,rfl⟩
 have hpl : pre.length ≤ 2000000:=by rw [hpp] at hl;simp at hl;omega
 simp (maxSteps:=1000000) (disch:=(first|omega|(simp only [go_sem];try omega))) only [go_sem,Nat.reduceAdd,Nat.reduceEqDiff,Nat.reduceLeDiff,Nat.reduceMul,Nat.reduceLT,reduceIte,Int.reduceToNat,w64_id,cast_succ]
 repeat (first|(with_reducible first|refine SW.seq ?_|refine q8 ?_|refine SW.rowC ?_|refine SW.skip ?_|refine SW.exit ?_|intro _|refine And.intro (by omega) ?_)|simp (maxSteps:=1000000) (disch:=(first|omega|(simp only [go_sem];try omega))) only [go_sem,Nat.reduceAdd,Nat.reduceEqDiff,Nat.reduceLeDiff,Nat.reduceMul,Nat.reduceLT,reduceIte,Int.reduceToNat,w64_id,cast_succ,hsv])
 (first|refine wK rfl (fun h=>?_) (fun h=>?_)|refine wL rfl (fun h=>?_) (fun h=>?_)|refine wF rfl (fun h=>?_) (fun h=>?_)|refine wH rfl (fun h=>?_) (fun h=>?_))
 ·obtain ⟨x,post,rfl,hg,-⟩:=consOf (d:=(0,0)) hpp (by omega)
  have hx:=hle x (by rw [hpp];simp)
  have l1 : ∀ ext,acells (H ++ ext) 2 (.el s (pre.length * 2)) = some [I x.1,I x.2]:=fun ext=>by
   have:=(hs.append ext).ld (j:=pre.length) (by omega)
   rwa [hg] at this
  have htl : (flatE pre).take (pre.length * 2) = flatE pre:=qW (by rw [flatE_length];omega)
  have hfl:=flatE_length pre
  have hmin : (if x.2 < x.1 then x.2 else x.1) = x.1:=if_neg (by omega)
  have hmax : (if x.1 < x.2 then x.2 else x.1) = x.2:=by
   split
   ·rfl
   ·omega
  have nm2 : ∀ (ty : Nat) (a b : AV),NmV 0 0 1 (some ⟨0,ty,2,[a,b]⟩) = some (1,[a,b]):=fun ty a b=>by simp [NmV]
  have hsb1:=hsb (H.length + 1) (by omega)
  repeat (first|(with_reducible first|refine SW.seq ?_|refine q8 ?_|refine SW.rowC ?_|refine SW.skip ?_|refine SW.exit ?_|intro _|refine And.intro (by omega) ?_)|simp (maxSteps:=1000000) (disch:=(first|omega|(simp only [go_sem];try omega))) only [go_sem,Nat.reduceAdd,Nat.reduceEqDiff,Nat.reduceLeDiff,Nat.reduceMul,Nat.reduceLT,reduceIte,Int.reduceToNat,w64_id,cast_succ,hsv,l1,htl,hfl,hmin,hmax,nm2])
  refine SLoop.nextT 1 post.length hB (by omega) (by simp) (by simp) ?_ ?_ ⟨pre ++ [x],post,ver + 1,by simp [hpp],rfl,?_,?_⟩
  ·(simp only [go_sem,Nat.reduceAdd,Nat.reduceEqDiff,reduceIte,go_sem,and_self,and_true,true_and,implies_true,qI,qO,and_true,true_and,hsb1];try omega)
  ·rw [← flatE_snoc]
   simp only [qI,qO,BB_cons,BB_nil,and_true]
   intro c hc
   rw [flatE_lit] at hc
   obtain ⟨v,_,rfl⟩:=wG.1 hc
   exact .lit v
  ·simp [go_sem]
  ·rw [flatE_snoc];simp
 ·obtain ⟨rfl,rfl⟩:=nilOf hpp (by omega)
  repeat (first|(with_reducible first|refine SW.seq ?_|refine q8 ?_|refine SW.rowC ?_|refine SW.skip ?_|refine SW.exit ?_|intro _|refine And.intro (by omega) ?_)|simp (maxSteps:=1000000) (disch:=(first|omega|(simp only [go_sem];try omega))) only [go_sem,Nat.reduceAdd,Nat.reduceEqDiff,Nat.reduceLeDiff,Nat.reduceMul,Nat.reduceLT,reduceIte,Int.reduceToNat,w64_id,cast_succ,hsv])
  refine (sortE_ok sortE_p sortE_n compareEdges_call cmpE cmpE_tot.swo compareEdges_fn _ H.length ver tyE pre (by simp) (by omega)).mono ?_
  rintro r H' ⟨rfl,fs,hpm,hsd,rfl⟩
  have hfs : fs = sortU cmpE pre:=sorted_is cmpE_tot hpm hsd hnd
  have hlen : pre.length = fs.length:=hpm.length_eq.symm
  rw [hlen]
  repeat (first|(with_reducible first|refine SW.seq ?_|refine q8 ?_|refine SW.rowC ?_|refine SW.skip ?_|refine SW.exit ?_|intro _|refine And.intro (by omega) ?_)|simp (maxSteps:=1000000) (disch:=(first|omega|(simp only [go_sem];try omega))) only [go_sem,Nat.reduceAdd,Nat.reduceEqDiff,Nat.reduceLeDiff,Nat.reduceMul,Nat.reduceLT,reduceIte,Int.reduceToNat,w64_id,cast_succ])
  refine (compactE_ok _ H.length ver tyE fs (by simp) (by rw [hfs];exact sortU_asc cmpE_tot _) (by omega)).mono ?_
  rintro r H' ⟨rfl,rfl⟩
  repeat (first|(with_reducible first|refine SW.seq ?_|refine q8 ?_|refine SW.rowC ?_|refine SW.skip ?_|refine SW.exit ?_|intro _|refine And.intro (by omega) ?_)|simp (maxSteps:=1000000) (disch:=(first|omega|(simp only [go_sem];try omega))) only [go_sem,Nat.reduceAdd,Nat.reduceEqDiff,Nat.reduceLeDiff,Nat.reduceMul,Nat.reduceLT,reduceIte,Int.reduceToNat,w64_id,cast_succ])
  refine SW.ret ?_;(try simp only [go_sem]);(first|refine FunPost.one ?_|refine FunPost.two ?_|refine qQ ?_);(try simp (maxSteps:=1000000) (disch:=(first|omega|(simp only [go_sem];try omega))) only [go_sem,Nat.reduceAdd,Nat.reduceEqDiff,Nat.reduceLeDiff,Nat.reduceMul,Nat.reduceLT,reduceIte,Int.reduceToNat,w64_id,cast_succ])
  rw [← hfs]
  exact GR.of ⟨_,rfl,.inl ⟨H.length,ver,tyE,rfl,⟨by omega,by simp⟩,by simp⟩⟩
theorem graphOf_bad (H : List Blk) (cv ev : AV) (cols : List Int) (es : List (Int × Int)) (hc : RdS H cv cols) (he : RdE H ev es) (hb : cols.length > 64 ∨ es.length > 512) (hl : es.length ≤ 2000000) (hl2 : cols.length ≤ 2000000) :
  ACalls Tryz.prog f_impl_graphOf [cv,ev] H (fun r H'=>r = .tup [.agg [nilS,nilS],I 5] ∧ ∃ ext,H' = H ++ ext):=by
 have hcv : ∀ ext,aview (H ++ ext) cv = some (cols.length,cols.map I):=fun ext=>hc.append ext
 have hev : ∀ ext,aview (H ++ ext) ev = some (es.length,flatE es):=fun ext=>he.append ext
 have hb2 : ((decide ((64 : Int) < (cols.length : Int))) || decide ((512 : Int) < (es.length : Int))) = true:=by
  rcases hb with h|h
  ·rw [decide_eq_true (show (64 : Int) < (cols.length : Int) by omega)];rfl
  ·rw [decide_eq_true (show (512 : Int) < (es.length : Int) by omega),Bool.or_true]
 refine ACalls.introB s_impl_graphOf (by simp) ?_;intro hB hA;unfold c_impl_graphOf;simp (disch:=(first|omega|(simp only [go_sem];try omega))) only [go_sem,Nat.reduceAdd,Nat.reduceEqDiff,Nat.reduceLeDiff,reduceIte,w64_id,cast_succ]
 by_cases h1 : cols.length > 64
 ·have d1 : decide ((64 : Int) < (cols.length : Int)) = true:=decide_eq_true (by omega)
  repeat (first|(with_reducible first|refine SW.seq ?_|refine q8 ?_|refine SW.rowC ?_|refine SW.skip ?_|refine SW.exit ?_|intro _|refine And.intro (by omega) ?_)|simp (disch:=(first|omega|(simp only [go_sem];try omega))) only [go_sem,Nat.reduceAdd,Nat.reduceEqDiff,Nat.reduceLeDiff,reduceIte,w64_id,cast_succ,hcv,hev,d1])
  refine SW.condT rfl ?_
  repeat (first|(with_reducible first|refine SW.seq ?_|refine q8 ?_|refine SW.rowC ?_|refine SW.skip ?_|refine SW.exit ?_|intro _|refine And.intro (by omega) ?_)|simp (disch:=(first|omega|(simp only [go_sem];try omega))) only [go_sem,Nat.reduceAdd,Nat.reduceEqDiff,Nat.reduceLeDiff,reduceIte,w64_id,cast_succ])
  refine SW.ret ?_
  exact xI (cs:=[nilS,nilS]) (by simp (disch:=(first|omega|(simp only [go_sem];try omega))) only [go_sem,Nat.reduceAdd,Nat.reduceEqDiff,Nat.reduceLeDiff,reduceIte,w64_id,cast_succ]) (GR.of ⟨rfl,_,rfl⟩)
 ·have d1 : decide ((64 : Int) < (cols.length : Int)) = false:=decide_eq_false (by omega)
  have d2 : decide ((512 : Int) < (es.length : Int)) = true:=decide_eq_true (by omega)
  repeat (first|(with_reducible first|refine SW.seq ?_|refine q8 ?_|refine SW.rowC ?_|refine SW.skip ?_|refine SW.exit ?_|intro _|refine And.intro (by omega) ?_)|simp (disch:=(first|omega|(simp only [go_sem];try omega))) only [go_sem,Nat.reduceAdd,Nat.reduceEqDiff,Nat.reduceLeDiff,reduceIte,w64_id,cast_succ,hcv,hev,d1,d2])
  refine SW.condT rfl ?_
  repeat (first|(with_reducible first|refine SW.seq ?_|refine q8 ?_|refine SW.rowC ?_|refine SW.skip ?_|refine SW.exit ?_|intro _|refine And.intro (by omega) ?_)|simp (disch:=(first|omega|(simp only [go_sem];try omega))) only [go_sem,Nat.reduceAdd,Nat.reduceEqDiff,Nat.reduceLeDiff,reduceIte,w64_id,cast_succ])
  refine SW.ret ?_
  exact xI (cs:=[nilS,nilS]) (by simp (disch:=(first|omega|(simp only [go_sem];try omega))) only [go_sem,Nat.reduceAdd,Nat.reduceEqDiff,Nat.reduceLeDiff,reduceIte,w64_id,cast_succ]) (GR.of ⟨rfl,_,rfl⟩)
theorem graphOf_ok (H : List Blk) (cv ev : AV) (cols : List Int) (es : List (Int × Int)) (hc : RdS H cv cols) (he : RdE H ev es) (c1 : cv.cell1 = true ∧ partsOf cv = [cv]) (hb1 : cols.length ≤ 64) (hb2 : es.length ≤ 512) (hle : ∀ e ∈ es,e.1 ≤ e.2) (hnd : es.Nodup) :
  ACalls Tryz.prog f_impl_graphOf [cv,ev] H (fun r H'=>∃ ext v,H' = H ++ ext ∧ r = .tup [.agg [cv,v],I 0] ∧ OwnE H' (Btw H.length H'.length) v (sortU cmpE es)):=by
 have hcv : ∀ ext,aview (H ++ ext) cv = some (cols.length,cols.map I):=fun ext=>hc.append ext
 have hev : ∀ ext,aview (H ++ ext) ev = some (es.length,flatE es):=fun ext=>he.append ext
 have d1 : decide ((64 : Int) < (cols.length : Int)) = false:=decide_eq_false (by omega)
 have d2 : decide ((512 : Int) < (es.length : Int)) = false:=decide_eq_false (by omega)
 refine ACalls.introB s_impl_graphOf (by simp) ?_;intro hB hA;unfold c_impl_graphOf;simp (disch:=(first|omega|(simp only [go_sem];try omega))) only [go_sem,Nat.reduceAdd,Nat.reduceEqDiff,Nat.reduceLeDiff,reduceIte,w64_id,cast_succ]
 repeat (first|(with_reducible first|refine SW.seq ?_|refine q8 ?_|refine SW.rowC ?_|refine SW.skip ?_|refine SW.exit ?_|intro _|refine And.intro (by omega) ?_)|simp (disch:=(first|omega|(simp only [go_sem];try omega))) only [go_sem,Nat.reduceAdd,Nat.reduceEqDiff,Nat.reduceLeDiff,reduceIte,w64_id,cast_succ,hcv,hev,d1,d2])
 refine SW.condF rfl ?_
 repeat (first|(with_reducible first|refine SW.seq ?_|refine q8 ?_|refine SW.rowC ?_|refine SW.skip ?_|refine SW.exit ?_|intro _|refine And.intro (by omega) ?_)|simp (disch:=(first|omega|(simp only [go_sem];try omega))) only [go_sem,Nat.reduceAdd,Nat.reduceEqDiff,Nat.reduceLeDiff,reduceIte,w64_id,cast_succ])
 refine (sortedEdges_ok _ ev es (he.append _) hle hnd (by omega)).mono ?_
 rintro r H1 ⟨ext,rfl,ho⟩
 repeat (first|(with_reducible first|refine SW.seq ?_|refine q8 ?_|refine SW.rowC ?_|refine SW.skip ?_|refine SW.exit ?_|intro _|refine And.intro (by omega) ?_)|simp (disch:=(first|omega|(simp only [go_sem];try omega))) only [go_sem,Nat.reduceAdd,Nat.reduceEqDiff,Nat.reduceLeDiff,reduceIte,w64_id,cast_succ,c1.1,c1.2,ho.one.1,ho.one.2])
 refine SW.ret ?_
 refine xI (cs:=[cv,r]) (by simp (disch:=(first|omega|(simp only [go_sem];try omega))) only [go_sem,Nat.reduceAdd,Nat.reduceEqDiff,Nat.reduceLeDiff,reduceIte,w64_id,cast_succ]) (GR.of ⟨_,r,rfl,rfl,?_⟩)
 have e5 : H ++ ((⟨0,tyGr,1,[cv,r]⟩ : Blk) :: ext) = (H ++ [(⟨0,tyGr,1,[nilS,nilS]⟩ : Blk)] ++ ext).set H.length ⟨0,tyGr,1,[cv,r]⟩:=by simp
 rw [e5]
 refine (ho.same (fun j b h1 h2=>?_)).weak (fun r h1 h2=>?_)
 ·rw [qR (by unfold Btw at h1;simp at h1;omega)];exact h2
 ·unfold Btw at h1 ⊢;simp at h1 h2 ⊢;omega
def edI (n : Nat) (xss : List (List Int)) : List (Int × Int):=xss.zipIdx.flatMap fun p=>p.1.map fun x=>(x,(n : Int) + (p.2 : Int))
theorem edI_snoc (n : Nat) (pre : List (List Int)) (x : List Int) : edI n (pre ++ [x]) = edI n pre ++ x.map fun y=>(y,(n : Int) + (pre.length : Int)):=by
 unfold edI
 rw [List.zipIdx_append,List.flatMap_append]
 simp
theorem edI_len {n : Nat} : ∀ {xss : List (List Int)},(∀ x ∈ xss,x.length ≤ 32) → (edI n xss).length ≤ xss.length * 32:=by
 intro xss
 rw [← yL xss]
 induction xss.reverse with
 | nil=>intro _;simp [edI]
 | cons x r ih =>
  intro h
  rw [yS] at h ⊢
  rw [edI_snoc,List.length_append,List.length_map]
  have e1:=h x (by simp)
  have e2:=ih (fun y hy=>h y (by simp at hy ⊢;exact .inl hy))
  simp at e2 ⊢;omega
theorem edI_mem {n : Nat} : ∀ {xss : List (List Int)} {e : Int × Int},e ∈ edI n xss ↔ ∃ (k : Nat) (x : List Int),xss[k]? = some x ∧ e.1 ∈ x ∧ e.2 = (n : Int) + (k : Int):=by
 intro xss e
 unfold edI
 rw [List.mem_flatMap]
 constructor
 ·rintro ⟨⟨x,k⟩,hp,he⟩
  obtain ⟨y,hy,rfl⟩:=wG.1 he
  exact ⟨k,x,by simpa using List.mem_zipIdx_iff_getElem?.1 hp,hy,rfl⟩
 ·rintro ⟨k,x,hk,h1,h2⟩
  refine ⟨(x,k),List.mem_zipIdx_iff_getElem?.2 (by simpa using hk),wG.2 ⟨e.1,h1,?_⟩⟩
  exact Prod.ext rfl h2.symm
theorem edI_nodup {n : Nat} : ∀ {xss : List (List Int)},(∀ x ∈ xss,x.Nodup) → (edI n xss).Nodup:=by
 intro xss
 rw [← yL xss]
 induction xss.reverse with
 | nil=>intro _;simp [edI]
 | cons x r ih =>
  intro h
  rw [yS] at h ⊢
  rw [edI_snoc,List.nodup_append]
  refine ⟨ih (fun y hy=>h y (by simp at hy ⊢;exact .inl hy)),?_,?_⟩
  ·rw [List.nodup_iff_pairwise_ne,List.pairwise_map]
   refine (List.nodup_iff_pairwise_ne.1 (h x (by simp))).imp ?_
   intro a b hab he
   exact hab (Prod.mk.inj he).1
  ·rintro a ha b hb rfl
   obtain ⟨k,y,hk,_,h2⟩:=edI_mem.1 ha
   obtain ⟨z,_,rfl⟩:=wG.1 hb
   have:=(List.getElem?_eq_some_iff.1 hk).1
   simp only at h2
   omega
def grV (n : Nat) (xss : List (List Int)) : (List Int × List (Int × Int)) × Int:=if n + xss.length > 64 ∨ (edI n xss).length > 512 then (([],[]),5) else ((twoC n xss.length,sortU cmpE (edI n xss)),0)
def GrR (H : List Blk) (V : (List Int × List (Int × Int)) × Int) (r : AV) (H' : List Blk) : Prop :=
 ∃ ext v u q,H' = H ++ ext ∧ r = .tup [.agg [v,u],I V.2] ∧ H.length ≤ q ∧ q ≤ H'.length ∧ OwnS H' (Btw H.length q) H'.length v V.1.1 ∧ OwnE H' (Btw q H'.length) u V.1.2
theorem nilGr {H ext : List Blk} {code : Int} : GrR H (([],[]),code) (.tup [.agg [nilS,nilS],I code]) (H ++ ext) :=
 ⟨ext,nilS,nilS,H.length,rfl,rfl,Nat.le_refl _,by simp,.inr ⟨rfl,.inl rfl⟩,.inr ⟨rfl,.inl rfl⟩⟩
theorem setGraph_ok (H : List Blk) (n : Nat) (xss : List (List Int)) (hn1 : 1 ≤ n) (hn : n ≤ 32) (hl : xss.length ≤ 300) (hx : ∀ xs ∈ xss,asc 0 ((n : Int) - 1) xs = true) :
  ACalls Tryz.prog f_impl_setGraph [I n,ilSS xss] H (GrR H (grV n xss)):=by
 have hx32 : ∀ x ∈ xss,x.length ≤ 32:=fun x h=>by
  rcases asc_len (hx x h) with h1|h1
  ·rw [h1];simp
  ·omega
 refine ACalls.introB s_impl_setGraph (by simp) ?_;intro hB hA;unfold c_impl_setGraph;simp (maxSteps:=1000000) (disch:=(first|omega|(simp only [go_sem];try omega))) only [go_sem,Nat.reduceAdd,Nat.reduceEqDiff,Nat.reduceLeDiff,Nat.reduceMul,Nat.reduceLT,reduceIte,Int.reduceToNat,w64_id,cast_succ]
 repeat (first|(with_reducible first|refine SW.seq ?_|refine q8 ?_|refine SW.rowC ?_|refine SW.skip ?_|refine SW.exit ?_|intro _|refine And.intro (by omega) ?_)|simp (maxSteps:=1000000) (disch:=(first|omega|(simp only [go_sem];try omega))) only [go_sem,Nat.reduceAdd,Nat.reduceEqDiff,Nat.reduceLeDiff,Nat.reduceMul,Nat.reduceLT,reduceIte,Int.reduceToNat,w64_id,cast_succ])
 refine SW.ghost (Gh.name 6 tyE 2 rfl) ?_
 simp (maxSteps:=1000000) (disch:=(first|omega|(simp only [go_sem];try omega))) only [go_sem,Nat.reduceAdd,Nat.reduceEqDiff,Nat.reduceLeDiff,Nat.reduceMul,Nat.reduceLT,reduceIte,Int.reduceToNat,w64_id,cast_succ]
 refine wJ (fun E0 H0 q E' H'=>∃ (pre post : List (List Int)) (ver : Nat),xss = pre ++ post ∧ q = post.length ∧ E' = aput (aput E0 13 (I pre.length)) 6 (.nm (H.length + 1) ver 0 (edI n pre).length) ∧ H' = H ++ [⟨0,tyGr,1,[nilS,nilS]⟩,⟨ver,tyE,2,flatE (edI n pre)⟩]) xss.length ⟨[],xss,0,rfl,rfl,rfl,rfl⟩ ?_
 rintro q E' H' ⟨pre,post,ver,hpp,rfl,rfl,rfl⟩
 have hpl : pre.length ≤ 300:=by rw [hpp] at hl;simp at hl;omega
 have hel:=edI_len (n:=n) (xss:=pre) (fun x h=>hx32 x (by rw [hpp];simp [h]))
 have hsn:=fun x=>edI_snoc n pre x
 generalize hL : edI n pre = L at *
 simp (maxSteps:=1000000) (disch:=(first|omega|(simp only [go_sem];try omega))) only [go_sem,Nat.reduceAdd,Nat.reduceEqDiff,Nat.reduceLeDiff,Nat.reduceMul,Nat.reduceLT,reduceIte,Int.reduceToNat,w64_id,cast_succ]
 repeat (first|(with_reducible first|refine SW.seq ?_|refine q8 ?_|refine SW.rowC ?_|refine SW.skip ?_|refine SW.exit ?_|intro _|refine And.intro (by omega) ?_)|simp (maxSteps:=1000000) (disch:=(first|omega|(simp only [go_sem];try omega))) only [go_sem,Nat.reduceAdd,Nat.reduceEqDiff,Nat.reduceLeDiff,Nat.reduceMul,Nat.reduceLT,reduceIte,Int.reduceToNat,w64_id,cast_succ])
 (first|refine wK rfl (fun h=>?_) (fun h=>?_)|refine wL rfl (fun h=>?_) (fun h=>?_)|refine wF rfl (fun h=>?_) (fun h=>?_)|refine wH rfl (fun h=>?_) (fun h=>?_))
 ·obtain ⟨x,post,rfl,hg,-⟩:=consOf (d:=[]) hpp (by omega)
  have hxl:=hx32 x (by rw [hpp];simp)
  have hxm:=asc_mem (hx x (by rw [hpp];simp))
  repeat (first|(with_reducible first|refine SW.seq ?_|refine q8 ?_|refine SW.rowC ?_|refine SW.skip ?_|refine SW.exit ?_|intro _|refine And.intro (by omega) ?_)|simp (maxSteps:=1000000) (disch:=(first|omega|(simp only [go_sem];try omega))) only [go_sem,Nat.reduceAdd,Nat.reduceEqDiff,Nat.reduceLeDiff,Nat.reduceMul,Nat.reduceLT,reduceIte,Int.reduceToNat,w64_id,cast_succ,hg])
  refine wJ (fun E0 H0 q E' H'=>∃ (pr po : List Int) (ver : Nat),x = pr ++ po ∧ q = po.length ∧ E' = aput (aput E0 20 (I pr.length)) 6 (.nm (H.length + 1) ver 0 (L ++ pr.map fun y=>(y,(n : Int) + (pre.length : Int))).length) ∧ H' = H ++ [⟨0,tyGr,1,[nilS,nilS]⟩,⟨ver,tyE,2,flatE (L ++ pr.map fun y=>(y,(n : Int) + (pre.length : Int)))⟩]) x.length ⟨[],x,ver,rfl,rfl,by simp [go_sem],by simp⟩ ?_
  rintro q E' H' ⟨pr,po,ver,hpx,rfl,rfl,rfl⟩
  have hprl : pr.length ≤ 32:=by rw [hpx] at hxl;simp at hxl;omega
  have hMl : (L ++ pr.map fun y=>(y,(n : Int) + (pre.length : Int))).length = L.length + pr.length:=by simp
  have hMs : ∀ y,L ++ (pr ++ [y]).map (fun y=>(y,(n : Int) + (pre.length : Int))) = (L ++ pr.map fun y=>(y,(n : Int) + (pre.length : Int))) ++ [(y,(n : Int) + (pre.length : Int))]:=fun y=>by simp
  generalize hM : (L ++ pr.map fun y=>(y,(n : Int) + (pre.length : Int))) = M at *
  simp (maxSteps:=1000000) (disch:=(first|omega|(simp only [go_sem];try omega))) only [go_sem,Nat.reduceAdd,Nat.reduceEqDiff,Nat.reduceLeDiff,Nat.reduceMul,Nat.reduceLT,reduceIte,Int.reduceToNat,w64_id,cast_succ]
  repeat (first|(with_reducible first|refine SW.seq ?_|refine q8 ?_|refine SW.rowC ?_|refine SW.skip ?_|refine SW.exit ?_|intro _|refine And.intro (by omega) ?_)|simp (maxSteps:=1000000) (disch:=(first|omega|(simp only [go_sem];try omega))) only [go_sem,Nat.reduceAdd,Nat.reduceEqDiff,Nat.reduceLeDiff,Nat.reduceMul,Nat.reduceLT,reduceIte,Int.reduceToNat,w64_id,cast_succ])
  (first|refine wK rfl (fun h2=>?_) (fun h2=>?_)|refine wL rfl (fun h2=>?_) (fun h2=>?_)|refine wF rfl (fun h2=>?_) (fun h2=>?_)|refine wH rfl (fun h2=>?_) (fun h2=>?_))
  ·obtain ⟨y,po,rfl,hgy,-⟩:=consOf (d:=0) hpx (by omega)
   have htl : (flatE M).take (M.length * 2) = flatE M:=qW (by rw [flatE_length];omega)
   have hfl:=flatE_length M
   have nm2 : ∀ (ty : Nat) (a b : AV),NmV 0 0 1 (some ⟨0,ty,2,[a,b]⟩) = some (1,[a,b]):=fun ty a b=>by simp [NmV]
   repeat (first|(with_reducible first|refine SW.seq ?_|refine q8 ?_|refine SW.rowC ?_|refine SW.skip ?_|refine SW.exit ?_|intro _|refine And.intro (by omega) ?_)|simp (maxSteps:=1000000) (disch:=(first|omega|(simp only [go_sem];try omega))) only [go_sem,Nat.reduceAdd,Nat.reduceEqDiff,Nat.reduceLeDiff,Nat.reduceMul,Nat.reduceLT,reduceIte,Int.reduceToNat,w64_id,cast_succ,hgy,htl,hfl,nm2])
   refine SLoop.nextT 2 po.length hB (by omega) (by simp) (by simp) ?_ ?_ ⟨pr ++ [y],po,ver + 1,by simp [hpx],rfl,?_,?_⟩
   ·(simp only [go_sem,Nat.reduceAdd,Nat.reduceEqDiff,reduceIte,go_sem,and_self,and_true,true_and,implies_true,qI,qO,and_true,true_and];try omega)
   ·have e9:=flatE_snoc M (y,(n : Int) + (pre.length : Int))
    simp only at e9
    rw [← e9]
    simp only [qI,qO,BB_cons,BB_nil,and_true]
    refine ⟨fun c hc=>?_,fun c hc=>?_⟩
    ·simp at hc;subst hc;exact .lit _
    ·rw [flatE_lit] at hc
     obtain ⟨v,_,rfl⟩:=wG.1 hc
     exact .lit v
   ·simp [go_sem,hMl];omega
   ·rw [hMs,flatE_snoc];simp
  ·obtain ⟨rfl,rfl⟩:=nilOf hpx (by omega)
   repeat (first|(with_reducible first|refine SW.seq ?_|refine q8 ?_|refine SW.rowC ?_|refine SW.skip ?_|refine SW.exit ?_|intro _|refine And.intro (by omega) ?_)|simp (maxSteps:=1000000) (disch:=(first|omega|(simp only [go_sem];try omega))) only [go_sem,Nat.reduceAdd,Nat.reduceEqDiff,Nat.reduceLeDiff,Nat.reduceMul,Nat.reduceLT,reduceIte,Int.reduceToNat,w64_id,cast_succ])
   refine SLoop.next post.length (by simp) ⟨pre ++ [pr],post,ver,by simp [hpp],rfl,?_,?_⟩
   ·rw [hsn,hM];simp [go_sem]
   ·rw [hsn,hM]
 ·obtain ⟨rfl,rfl⟩:=nilOf hpp (by omega)
  repeat (first|(with_reducible first|refine SW.seq ?_|refine q8 ?_|refine SW.rowC ?_|refine SW.skip ?_|refine SW.exit ?_|refine PFn.use (sizeS_fn _) ?_|refine PFn.useq (sizeS_fn _) ?_|intro _|refine And.intro (by omega) ?_)|simp (maxSteps:=1000000) (disch:=(first|omega|(simp only [go_sem];try omega))) only [go_sem,Nat.reduceAdd,Nat.reduceEqDiff,Nat.reduceLeDiff,Nat.reduceMul,Nat.reduceLT,reduceIte,Int.reduceToNat,w64_id,cast_succ])
  refine (twoColors_new n pre.length (by omega) (by omega) _).mono ?_
  rintro r H1 ⟨rfl,rfl⟩
  have htc : (twoC n pre.length).length = n + pre.length:=by simp [twoC,tab]
  have hrc : RdS (H ++ [(⟨0,tyGr,1,[nilS,nilS]⟩ : Blk),⟨ver,tyE,2,flatE L⟩,⟨0,2,1,(twoC n pre.length).map I⟩]) (.nm (H.length + 2) 0 0 (twoC n pre.length).length) (twoC n pre.length):=view_nm (ver:=0) (ty:=2) (by simp) (by simp)
  have hre : RdE (H ++ [(⟨0,tyGr,1,[nilS,nilS]⟩ : Blk),⟨ver,tyE,2,flatE L⟩,⟨0,2,1,(twoC n pre.length).map I⟩]) (.nm (H.length + 1) ver 0 L.length) L:=rd_nmE (ver:=ver) (ty:=tyE) (by simp)
  have hnd : L.Nodup:=by rw [← hL];exact edI_nodup (fun x h=>asc_nodupA (hx x h))
  have hle : ∀ e ∈ L,e.1 ≤ e.2:=fun e he=>by
   rw [← hL] at he
   obtain ⟨k,x,hk,h1,h2⟩:=edI_mem.1 he
   have:=asc_mem (hx x (List.mem_of_getElem? hk)) _ h1
   omega
  have hV : grV n pre = if n + pre.length > 64 ∨ L.length > 512 then (([],[]),5) else ((twoC n pre.length,sortU cmpE L),0):=by unfold grV;rw [hL]
  rw [hV]
  by_cases hbad : n + pre.length > 64 ∨ L.length > 512
  ·rw [if_pos hbad]
   have hgb:=graphOf_bad _ _ _ _ _ hrc hre (by rw [htc];exact hbad) (by omega) (by omega)
   repeat (first|(with_reducible first|refine SW.seq ?_|refine q8 ?_|refine SW.rowC ?_|refine SW.skip ?_|refine SW.exit ?_|intro _|refine And.intro (by omega) ?_)|simp (maxSteps:=1000000) (disch:=(first|omega|(simp only [go_sem];try omega))) only [go_sem,Nat.reduceAdd,Nat.reduceEqDiff,Nat.reduceLeDiff,Nat.reduceMul,Nat.reduceLT,reduceIte,Int.reduceToNat,w64_id,cast_succ])
   refine hgb.mono ?_
   rintro r H2 ⟨rfl,ext,rfl⟩
   repeat (first|(with_reducible first|refine SW.seq ?_|refine q8 ?_|refine SW.rowC ?_|refine SW.skip ?_|refine SW.exit ?_|intro _|refine And.intro (by omega) ?_)|simp (maxSteps:=1000000) (disch:=(first|omega|(simp only [go_sem];try omega))) only [go_sem,Nat.reduceAdd,Nat.reduceEqDiff,Nat.reduceLeDiff,Nat.reduceMul,Nat.reduceLT,reduceIte,Int.reduceToNat,w64_id,cast_succ])
   refine SW.ret ?_
   exact xI (cs:=[nilS,nilS]) (by simp (maxSteps:=1000000) (disch:=(first|omega|(simp only [go_sem];try omega))) only [go_sem,Nat.reduceAdd,Nat.reduceEqDiff,Nat.reduceLeDiff,Nat.reduceMul,Nat.reduceLT,reduceIte,Int.reduceToNat,w64_id,cast_succ]) (GR.of nilGr)
  ·rw [if_neg hbad]
   have hgo:=graphOf_ok _ _ _ _ _ hrc hre ⟨rfl,rfl⟩ (by omega) (by omega) hle hnd
   repeat (first|(with_reducible first|refine SW.seq ?_|refine q8 ?_|refine SW.rowC ?_|refine SW.skip ?_|refine SW.exit ?_|intro _|refine And.intro (by omega) ?_)|simp (maxSteps:=1000000) (disch:=(first|omega|(simp only [go_sem];try omega))) only [go_sem,Nat.reduceAdd,Nat.reduceEqDiff,Nat.reduceLeDiff,Nat.reduceMul,Nat.reduceLT,reduceIte,Int.reduceToNat,w64_id,cast_succ])
   refine hgo.mono ?_
   rintro r H2 ⟨ext,v,rfl,rfl,ho⟩
   repeat (first|(with_reducible first|refine SW.seq ?_|refine q8 ?_|refine SW.rowC ?_|refine SW.skip ?_|refine SW.exit ?_|intro _|refine And.intro (by omega) ?_)|simp (maxSteps:=1000000) (disch:=(first|omega|(simp only [go_sem];try omega))) only [go_sem,Nat.reduceAdd,Nat.reduceEqDiff,Nat.reduceLeDiff,Nat.reduceMul,Nat.reduceLT,reduceIte,Int.reduceToNat,w64_id,cast_succ,ho.one.1,ho.one.2])
   refine SW.ret ?_
   refine xI (cs:=[.nm (H.length + 2) 0 0 (twoC n pre.length).length,v]) (by simp (maxSteps:=1000000) (disch:=(first|omega|(simp only [go_sem];try omega))) only [go_sem,Nat.reduceAdd,Nat.reduceEqDiff,Nat.reduceLeDiff,Nat.reduceMul,Nat.reduceLT,reduceIte,Int.reduceToNat,w64_id,cast_succ]) (GR.of ⟨_,_,v,H.length + 3,rfl,rfl,by omega,by simp,.inl ⟨H.length + 2,0,2,rfl,⟨by omega,by omega⟩,by simp,by simp⟩,?_⟩)
   generalize hgb : (⟨0,tyGr,1,[.nm (H.length + 2) 0 0 (twoC n pre.length).length,v]⟩ : Blk) = g1
   have e5 : ∀ b c : Blk,H ++ (g1 :: b :: c :: ext) = (H ++ [(⟨0,tyGr,1,[nilS,nilS]⟩ : Blk),b,c] ++ ext).set H.length g1:=fun b c=>by simp
   rw [e5]
   refine (ho.same (fun j b h1 h2=>?_)).weak (fun r h1 h2=>?_)
   ·rw [qR (by unfold Btw at h1;simp at h1;omega)];exact h2
   ·unfold Btw at h1 ⊢;simp at h1 h2 ⊢;omega
end Go.Proofs.YtclfmfabcnbbpaaGreat