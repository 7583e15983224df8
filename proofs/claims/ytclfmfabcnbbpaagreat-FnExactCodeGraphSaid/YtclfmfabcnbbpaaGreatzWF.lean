/- Graphs of binary codes: the reference. -/
import Derived.Test.YtclfmfabcnbbpaaGreatProg
import Derived.KernelRfl
import Derived.Test.YtclfmfabcnbbpaaGreatzWD
import Derived.Test.YtclfmfabcnbbpaaGreatzE4
import Derived.Test.YtclfmfabcnbbpaaGreatzGU
import Derived.Test.YtclfmfabcnbbpaaGreatzWI
import Derived.Test.YtclfmfabcnbbpaaGreatzFK
set_option linter.unusedSimpArgs false
set_option linter.unusedVariables false
set_option maxHeartbeats 4000000
set_option maxRecDepth 100000
open Go.Operand renaming tmp→t'
open Option renaming none→n',some→s'
open List renaming getElem?_eq_some_iff→qC,getD_eq_getElem?_getD→qE,getElem?_eq_getElem→qB,getElem_mem→wQ,replicate→qT,replicate_succ'→z8,map_append→xB,getElem?_set_ne→qR,append_assoc→wV,getElem?_set_self→qY
open Go.Av.SW renaming block→q8,condF→wE,condT→wM,loopE→wJ,condD→wK,condN→wL,condNB→wF,condB→wH
open Go.Av.FunPost renaming cell_tmp→xI
open Go.Av.SLoop renaming next→wB
open Nat renaming le_refl→qZ
namespace Go.Proofs.YtclfmfabcnbbpaaGreat
open Go.Av
abbrev f_spec_CodeGraph : Nat:=5
def c_spec_CodeGraph : SC :=
 .seq (.reg [⟨s' 1,.box 36 (t' 0),n'⟩,⟨s' 2,.alloc 31 [(.slice none 0 0),(.slice none 0 0)],n'⟩,⟨s' 3,.mv (.const (.int .i64 0)),n'⟩] [1,2]) (.seq (.seq (.reg [
 ⟨s' 4,.call 15 [(t' 1)],n'⟩,⟨s' 5,.un .not (t' 4),n'⟩] [1,2,5]) (.cond (t' 5) (.seq (.reg [⟨s' 6,.build [(.slice none 0 0),(.slice none 0 0)] [],n'⟩,
 ⟨n',.store 2 (t' 2) (t' 6),n'⟩,⟨s' 3,.mv (.const (.int .i64 1)),n'⟩] [2,3]) (.ret)) (.skip))) (.seq (.reg [⟨s' 7,.call 16 [(t' 1)],n'⟩,⟨s' 8,.ext (t' 7) 0,n'⟩,
 ⟨s' 9,.ext (t' 7) 1,n'⟩,⟨n',.store 2 (t' 2) (t' 8),n'⟩,⟨s' 3,.mv (t' 9),n'⟩] [2,3]) (.ret)))
theorem s_spec_CodeGraph : stripF Tryz.prog 5 [[1,2],[1,2,5],[2,3],[2,3]] = some (c_spec_CodeGraph,[.cell 2 2,.tmp 3],10):=by kernel_rfl
abbrev f_spec_l23Code : Nat:=16
def c_spec_l23Code : SC :=
 .seq (.reg [⟨s' 2,.alloc 31 [(.slice none 0 0),(.slice none 0 0)],n'⟩,⟨s' 3,.mv (.const (.int .i64 0)),n'⟩] [0,2]) (.seq (.seq (.reg [⟨s' 11,.mv (t' 0),n'⟩,
 ⟨s' 12,.nilc (t' 11),n'⟩,⟨s' 13,.faddr 0 (t' 12),n'⟩,⟨s' 14,.call 38 [(t' 13)],n'⟩,⟨s' 15,.bin .neq (t' 14) (.const (.int .i64 2)),n'⟩] [0,2,15]) (.cond (t' 15) (.seq (.reg [
 ⟨s' 16,.build [(.slice none 0 0),(.slice none 0 0)] [],n'⟩,⟨n',.store 2 (t' 2) (t' 16),n'⟩,⟨s' 3,.mv (.const (.int .i64 6)),n'⟩] [2,3]) (.ret)) (.skip))) (.seq (.reg [
 ⟨s' 17,.mv (t' 0),n'⟩,⟨s' 18,.nilc (t' 17),n'⟩,⟨s' 19,.faddr 3 (t' 18),n'⟩,⟨s' 20,.load 1 false (t' 19),n'⟩,⟨s' 21,.iaddr 1 (t' 20) (.const (.int .i64 0)),n'⟩,
 ⟨s' 22,.load 1 false (t' 21),n'⟩,⟨s' 23,.len (t' 22),n'⟩,⟨s' 4,.mv (t' 23),n'⟩] [0,2,4]) (.seq (.reg [⟨s' 24,.mv (t' 0),n'⟩,⟨s' 25,.call 41 [(t' 24)],n'⟩,
 ⟨s' 5,.mv (t' 25),n'⟩] [2,4,5]) (.seq (.seq (.reg [⟨s' 26,.mv (t' 4),n'⟩,⟨s' 27,.mv (t' 5),n'⟩,⟨s' 28,.len (t' 27),n'⟩,⟨s' 29,.bin .add (t' 26) (t' 28),n'⟩,
 ⟨s' 30,.bin .sub (t' 29) (.const (.int .i64 1)),n'⟩,⟨s' 31,.bin .gtr (t' 30) (.const (.int .i64 64)),n'⟩] [2,4,5,31]) (.cond (t' 31) (.seq (.reg [
 ⟨s' 32,.build [(.slice none 0 0),(.slice none 0 0)] [],n'⟩,⟨n',.store 2 (t' 2) (t' 32),n'⟩,⟨s' 3,.mv (.const (.int .i64 5)),n'⟩] [2,3]) (.ret)) (.skip))) (.seq (.reg [
 ⟨s' 33,.build [(.slice none 0 0),(.slice none 0 0)] [],n'⟩,⟨s' 6,.alloc 31 [(.slice none 0 0),(.slice none 0 0)],n'⟩,⟨n',.store 2 (t' 6) (t' 33),n'⟩] [2,4,5,6])
 (.seq (.seq (.reg [⟨s' 7,.mv (.const (.int .i64 0)),n'⟩] [2,4,5,6,7]) (.block 0 (.loop [2,4,5,6,7] (.seq (.seq (.reg [⟨s' 34,.mv (t' 7),n'⟩,⟨s' 35,.mv (t' 4),n'⟩,
 ⟨s' 36,.bin .lss (t' 34) (t' 35),n'⟩] [2,4,5,6,7,36]) (.cond (t' 36) (.skip) (.exit 0))) (.seq (.block 1 (.reg [⟨s' 39,.faddr 0 (t' 6),n'⟩,⟨s' 40,.load 1 false (t' 39),n'⟩,
 ⟨s' 41,.bslice 2 1 1 [(.int .i64 0)] [(0,(.const (.int .i64 0)))],n'⟩,⟨s' 42,.app 2 1 8 (t' 40) (t' 41),n'⟩,⟨s' 43,.faddr 0 (t' 6),n'⟩,
 ⟨n',.store 1 (t' 43) (t' 42),n'⟩] [2,4,5,6,7])) (.reg [⟨s' 37,.mv (t' 7),n'⟩,⟨s' 38,.bin .add (t' 37) (.const (.int .i64 1)),n'⟩,⟨s' 7,.mv (t' 38),n'⟩] [2,4,5,6,7]))))))
 (.seq (.seq (.reg [⟨s' 8,.mv (.const (.int .i64 1)),n'⟩] [2,4,5,6,8]) (.block 2 (.loop [2,4,5,6,8] (.seq (.seq (.reg [⟨s' 44,.mv (t' 8),n'⟩,⟨s' 45,.mv (t' 5),n'⟩,
 ⟨s' 46,.len (t' 45),n'⟩,⟨s' 47,.bin .lss (t' 44) (t' 46),n'⟩] [2,4,5,6,8,47]) (.cond (t' 47) (.skip) (.exit 2))) (.seq (.block 3 (.reg [⟨s' 50,.faddr 0 (t' 6),n'⟩,
 ⟨s' 51,.load 1 false (t' 50),n'⟩,⟨s' 52,.bslice 2 1 1 [(.int .i64 0)] [(0,(.const (.int .i64 1)))],n'⟩,⟨s' 53,.app 2 1 8 (t' 51) (t' 52),n'⟩,⟨s' 54,.faddr 0 (t' 6),n'⟩,
 ⟨n',.store 1 (t' 54) (t' 53),n'⟩] [2,4,5,6,8])) (.reg [⟨s' 48,.mv (t' 8),n'⟩,⟨s' 49,.bin .add (t' 48) (.const (.int .i64 1)),n'⟩,⟨s' 8,.mv (t' 49),n'⟩] [2,4,5,6,8]))))))
 (.seq (.seq (.reg [⟨s' 9,.mv (.const (.int .i64 0)),n'⟩] [2,4,5,6,9]) (.block 4 (.loop [2,4,5,6,9] (.seq (.seq (.reg [⟨s' 55,.mv (t' 9),n'⟩,⟨s' 56,.mv (t' 4),n'⟩,
 ⟨s' 57,.bin .lss (t' 55) (t' 56),n'⟩] [2,4,5,6,9,57]) (.cond (t' 57) (.skip) (.exit 4))) (.seq (.block 5 (.seq (.reg [⟨s' 10,.mv (.const (.int .i64 1)),n'⟩] [2,4,5,6,9,10])
 (.block 6 (.loop [2,4,5,6,9,10] (.seq (.seq (.reg [⟨s' 60,.mv (t' 10),n'⟩,⟨s' 61,.mv (t' 5),n'⟩,⟨s' 62,.len (t' 61),n'⟩,⟨s' 63,.bin .lss (t' 60) (t' 62),n'⟩] [2,4,5,6,9,10,63])
 (.cond (t' 63) (.skip) (.exit 6))) (.seq (.block 7 (.seq (.reg [⟨s' 66,.mv (t' 5),n'⟩,⟨s' 67,.mv (t' 10),n'⟩,⟨s' 68,.iaddr 1 (t' 66) (t' 67),n'⟩,⟨s' 69,.load 1 false (t' 68),n'⟩,
 ⟨s' 70,.mv (t' 9),n'⟩,⟨s' 71,.iaddr 1 (t' 69) (t' 70),n'⟩,⟨s' 72,.load 1 false (t' 71),n'⟩,⟨s' 73,.bin .eql (t' 72) (.const (.int .i64 1)),n'⟩] [2,4,5,6,9,10,73]) (.cond (t' 73)
 (.reg [⟨s' 74,.faddr 1 (t' 6),n'⟩,⟨s' 75,.load 1 false (t' 74),n'⟩,⟨s' 76,.mv (t' 9),n'⟩,⟨s' 77,.mv (t' 4),n'⟩,⟨s' 78,.mv (t' 10),n'⟩,⟨s' 79,.bin .add (t' 77) (t' 78),n'⟩,
 ⟨s' 80,.bin .sub (t' 79) (.const (.int .i64 1)),n'⟩,⟨s' 81,.build [(.int .i64 0),(.int .i64 0)] [(0,1,(t' 76)),(1,1,(t' 80))],n'⟩,
 ⟨s' 82,.bslice 70 2 1 [(.int .i64 0),(.int .i64 0)] [(0,(t' 81))],n'⟩,⟨s' 83,.app 70 2 16 (t' 75) (t' 82),n'⟩,⟨s' 84,.faddr 1 (t' 6),n'⟩,
 ⟨n',.store 1 (t' 84) (t' 83),n'⟩] [2,4,5,6,9,10]) (.skip)))) (.reg [⟨s' 64,.mv (t' 10),n'⟩,⟨s' 65,.bin .add (t' 64) (.const (.int .i64 1)),n'⟩,
 ⟨s' 10,.mv (t' 65),n'⟩] [2,4,5,6,9,10]))))))) (.reg [⟨s' 58,.mv (t' 9),n'⟩,⟨s' 59,.bin .add (t' 58) (.const (.int .i64 1)),n'⟩,⟨s' 9,.mv (t' 59),n'⟩] [2,4,5,6,9]))))))
 (.seq (.seq (.reg [⟨s' 85,.faddr 1 (t' 6),n'⟩,⟨s' 86,.load 1 false (t' 85),n'⟩,⟨s' 87,.len (t' 86),n'⟩,⟨s' 88,.bin .gtr (t' 87) (.const (.int .i64 512)),n'⟩] [2,6,88])
 (.cond (t' 88) (.seq (.reg [⟨s' 89,.build [(.slice none 0 0),(.slice none 0 0)] [],n'⟩,⟨n',.store 2 (t' 2) (t' 89),n'⟩,⟨s' 3,.mv (.const (.int .i64 5)),n'⟩] [2,3]) (.ret))
 (.skip))) (.seq (.reg [⟨s' 90,.load 2 true (t' 6),n'⟩,⟨n',.store 2 (t' 2) (t' 90),n'⟩,⟨s' 3,.mv (.const (.int .i64 0)),n'⟩] [2,3]) (.ret)))))))))))
theorem s_spec_l23Code : stripF Tryz.prog 16 [[0,2],[0,2,15],[2,3],[0,2,4],[2,4,5],[2,4,5,31],[2,3],[2,4,5,6],[2,4,5,6,7],[2,4,5,6,7],[2,4,5,6,7,36],[2,4,5,6,7],[2,4,5,6,7],[2,4,5,6,8],[2,4,5,6,8],[2,4,5,6,8,47],[2,4,5,6,8],[2,4,5,6,8],[2,4,5,6,9],[2,4,5,6,9],[2,4,5,6,9,57],[2,4,5,6,9,10],[2,4,5,6,9,10],[2,4,5,6,9,10,63],[2,4,5,6,9,10,73],[2,4,5,6,9,10],[2,4,5,6,9,10],[2,4,5,6,9],[2,6,88],[2,3],[2,3]] = some (c_spec_l23Code,[.cell 2 2,.tmp 3],91):=by kernel_rfl
theorem l23Code_two (H : List Blk) (p ty : Nat) (L : List Int) (m : List (List Int)) (n : Nat) (hp : H[p]? = some ⟨0,ty,1,[I 2,I 1,ilS L,ilSS m]⟩) (hL : OkD (2 : Nat) L ∧ L.length = 1 + 1) (h1L : L.getD 1 0 = 1) (hk : 1 ≤ m.length ∧ m.length ≤ 8) (hn1 : 1 ≤ n) (hn : n ≤ 32) (hm : ∀ r ∈ m,r.length = n ∧ Bit r) :
  ACalls Tryz.prog f_spec_l23Code [.pc p 0 0] H (fun r H'=>r = .tup [.agg [ilS (grV n (supps n m)).1.1,ilE (grV n (supps n m)).1.2],I (grV n (supps n m)).2] ∧ H' = H):=by
 have hpl : p < H.length:=(qC.1 hp).1
 have ha:=fun l (o : Nat)=>pc_alive (off:=o) (get_appU hp l)
 have hld:=fun l (o : Nat)=>pc_ld (off:=o) (get_appU hp l)
 have ha0:=fun (o : Nat)=>pc_alive (off:=o) hp
 have hld0:=fun (o : Nat)=>pc_ld (off:=o) hp
 have hsz:=fun e=>l03Size_g (H ++ e) p ty 2 1 L [ilSS m] (get_appU hp e) (by omega) (by omega)
 have hwo:=fun e=>l18Words_q (H ++ e) p ty L m n (get_appU hp e) hL h1L hk hn hm
 have hx : ∀ xs ∈ supps n m,asc 0 ((n : Int) - 1) xs = true:=supps_asc
 have hsl:=supps_len n m
 have hpos : 1 ≤ 2 ^ m.length:=Nat.pow_pos (by omega)
 have hp8 : 2 ^ m.length ≤ 2 ^ 8:=Nat.pow_le_pow_right (by omega) hk.2
 have hWl : (wds n m).length = (supps n m).length + 1:=by rw [wds_len,hsl];omega
 have hhas:=fun i y (h : i < (supps n m).length)=>supps_has n m i y (by omega)
 have hrow : ∀ i,i < (supps n m).length → ((wds n m).getD (i + 1) []).length = n:=fun i h=>by
  rw [qE,qB (by omega)]
  exact (wds_mem (wQ _)).1
 have hl : (supps n m).length ≤ 300:=by omega
 have hg0 : (m.getD 0 []).length = n:=by
  rw [qE,qB (by omega)]
  exact (hm _ (wQ _)).1
 generalize supps n m = xss at *
 generalize wds n m = WD at *
 clear hsl hpos hp8
 refine ACalls.introB s_spec_l23Code (by simp) ?_;intro hB hA;unfold c_spec_l23Code;simp (maxSteps:=1000000) (disch:=(first|omega|(simp only [go_sem];try omega))) only [go_sem,Nat.reduceAdd,Nat.reduceEqDiff,Nat.reduceLeDiff,Nat.reduceMul,Nat.reduceLT,reduceIte,Int.reduceToNat,w64_id,cast_succ]
 repeat (first|(with_reducible first|refine SW.seq ?_|refine q8 ?_|refine SW.rowC ?_|refine SW.skip ?_|refine SW.exit ?_|intro _|refine And.intro (by omega) ?_)|simp (maxSteps:=1000000) (disch:=(first|omega|(simp only [go_sem];try omega))) only [go_sem,Nat.reduceAdd,Nat.reduceEqDiff,Nat.reduceLeDiff,Nat.reduceMul,Nat.reduceLT,reduceIte,Int.reduceToNat,w64_id,cast_succ,ha,hld,ha0,hld0])
 refine (hsz _).mono ?_
 rintro r Z ⟨rfl,rfl⟩
 rw [show ((2 ^ 1 : Nat) : Int) = 2 from rfl]
 repeat (first|(with_reducible first|refine SW.seq ?_|refine q8 ?_|refine SW.rowC ?_|refine SW.skip ?_|refine SW.exit ?_|intro _|refine And.intro (by omega) ?_)|simp (maxSteps:=1000000) (disch:=(first|omega|(simp only [go_sem];try omega))) only [go_sem,Nat.reduceAdd,Nat.reduceEqDiff,Nat.reduceLeDiff,Nat.reduceMul,Nat.reduceLT,reduceIte,Int.reduceToNat,w64_id,cast_succ,ha,hld,hg0])
 refine wE rfl ?_
 repeat (first|(with_reducible first|refine SW.seq ?_|refine q8 ?_|refine SW.rowC ?_|refine SW.skip ?_|refine SW.exit ?_|intro _|refine And.intro (by omega) ?_)|simp (maxSteps:=1000000) (disch:=(first|omega|(simp only [go_sem];try omega))) only [go_sem,Nat.reduceAdd,Nat.reduceEqDiff,Nat.reduceLeDiff,Nat.reduceMul,Nat.reduceLT,reduceIte,Int.reduceToNat,w64_id,cast_succ,ha,hld,hg0])
 refine (hwo _).mono ?_
 rintro r Z ⟨rfl,rfl⟩
 repeat (first|(with_reducible first|refine SW.seq ?_|refine q8 ?_|refine SW.rowC ?_|refine SW.skip ?_|refine SW.exit ?_|intro _|refine And.intro (by omega) ?_)|simp (maxSteps:=1000000) (disch:=(first|omega|(simp only [go_sem];try omega))) only [go_sem,Nat.reduceAdd,Nat.reduceEqDiff,Nat.reduceLeDiff,Nat.reduceMul,Nat.reduceLT,reduceIte,Int.reduceToNat,w64_id,cast_succ,hWl])
 by_cases hbig : n + xss.length > 64
 ·have hV : grV n xss = (([],[]),5):=by unfold grV;rw [if_pos (.inl hbig)]
  rw [hV]
  have d1 : decide ((64 : Int) < (n : Int) + ((xss.length + 1 : Nat) : Int) - 1) = true:=decide_eq_true (by omega)
  rw [d1]
  refine wM rfl ?_
  repeat (first|(with_reducible first|refine SW.seq ?_|refine q8 ?_|refine SW.rowC ?_|refine SW.skip ?_|refine SW.exit ?_|intro _|refine And.intro (by omega) ?_)|simp (maxSteps:=1000000) (disch:=(first|omega|(simp only [go_sem];try omega))) only [go_sem,Nat.reduceAdd,Nat.reduceEqDiff,Nat.reduceLeDiff,Nat.reduceMul,Nat.reduceLT,reduceIte,Int.reduceToNat,w64_id,cast_succ])
  refine SW.ret ?_
  refine xI (cs:=[nilS,nilS]) (by simp (maxSteps:=1000000) (disch:=(first|omega|(simp only [go_sem];try omega))) only [go_sem,Nat.reduceAdd,Nat.reduceEqDiff,Nat.reduceLeDiff,Nat.reduceMul,Nat.reduceLT,reduceIte,Int.reduceToNat,w64_id,cast_succ]) ?_
  exact GR.froz (r':=.tup [.agg [ilS [],ilE []],I 5]) (froz_tup2 (froz_agg2 .nil .nil) (froz_I' _)) ⟨rfl,rfl⟩
 ·have d1 : decide ((64 : Int) < (n : Int) + ((xss.length + 1 : Nat) : Int) - 1) = false:=decide_eq_false (by omega)
  rw [d1]
  refine wE rfl ?_
  repeat (first|(with_reducible first|refine SW.seq ?_|refine q8 ?_|refine SW.rowC ?_|refine SW.skip ?_|refine SW.exit ?_|intro _|refine And.intro (by omega) ?_)|simp (maxSteps:=1000000) (disch:=(first|omega|(simp only [go_sem];try omega))) only [go_sem,Nat.reduceAdd,Nat.reduceEqDiff,Nat.reduceLeDiff,Nat.reduceMul,Nat.reduceLT,reduceIte,Int.reduceToNat,w64_id,cast_succ])
  refine wJ (fun E0 H0 q E' H'=>∃ (x : Nat) (cv : AV),x ≤ n ∧ q = n - x ∧ E' = aput E0 7 (I x) ∧ GBx H [nilS,nilS] [cv,nilS] H' ∧ GrowF H' (H.length + 2) 2 1 cv x ((qT x (0 : Int)).map I)) n ⟨0,nilS,by omega,by omega,rfl,⟨by simp,by simp,by simp,fun j hj=>by rw [List.getElem?_append_left hj]⟩,.inl ⟨rfl,rfl,rfl⟩⟩ ?_
  rintro q E' H1 ⟨x,cv,hxn,rfl,rfl,⟨b0,b1,b2,b3⟩,hg⟩
  simp (maxSteps:=1000000) (disch:=(first|omega|(simp only [go_sem];try omega))) only [go_sem,Nat.reduceAdd,Nat.reduceEqDiff,Nat.reduceLeDiff,Nat.reduceMul,Nat.reduceLT,reduceIte,Int.reduceToNat,w64_id,cast_succ]
  repeat (first|(with_reducible first|refine SW.seq ?_|refine q8 ?_|refine SW.rowC ?_|refine SW.skip ?_|refine SW.exit ?_|intro _|refine And.intro (by omega) ?_)|simp (maxSteps:=1000000) (disch:=(first|omega|(simp only [go_sem];try omega))) only [go_sem,Nat.reduceAdd,Nat.reduceEqDiff,Nat.reduceLeDiff,Nat.reduceMul,Nat.reduceLT,reduceIte,Int.reduceToNat,w64_id,cast_succ])
  (first|refine wK rfl (fun h1=>?_) (fun h1=>?_)|refine wL rfl (fun h1=>?_) (fun h1=>?_)|refine wF rfl (fun h1=>?_) (fun h1=>?_)|refine wH rfl (fun h1=>?_) (fun h1=>?_))
  ·repeat (first|(with_reducible first|refine SW.seq ?_|refine q8 ?_|refine SW.rowC ?_|refine SW.skip ?_|refine SW.exit ?_|intro _|refine And.intro (by omega) ?_)|simp (maxSteps:=1000000) (disch:=(first|omega|(simp only [go_sem];try omega))) only [go_sem,Nat.reduceAdd,Nat.reduceEqDiff,Nat.reduceLeDiff,Nat.reduceMul,Nat.reduceLT,reduceIte,Int.reduceToNat,w64_id,cast_succ,pc_alive b1,pc_ld b1])
   refine GrowF.appX hg b2 rfl (by simp [AV.cell1];rfl) (by omega) (by omega) ?_
   intro v3 H3 d1 d2 d3
   have e1 : H3[H.length + 1]? = some ⟨0,tyGr,1,[cv,nilS]⟩:=by rw [d3 _ (by omega)];exact b1
   repeat (first|(with_reducible first|refine SW.seq ?_|refine q8 ?_|refine SW.rowC ?_|refine SW.skip ?_|refine SW.exit ?_|intro _|refine And.intro (by omega) ?_)|simp (maxSteps:=1000000) (disch:=(first|omega|(simp only [go_sem];try omega))) only [go_sem,Nat.reduceAdd,Nat.reduceEqDiff,Nat.reduceLeDiff,Nat.reduceMul,Nat.reduceLT,reduceIte,Int.reduceToNat,w64_id,cast_succ,pc_alive e1,pc_ld e1,d1.one.1,d1.one.2])
   rw [pc_st e1 (by simp)]
   repeat (first|(with_reducible first|refine SW.seq ?_|refine q8 ?_|refine SW.rowC ?_|refine SW.skip ?_|refine SW.exit ?_|intro _|refine And.intro (by omega) ?_)|simp (maxSteps:=1000000) (disch:=(first|omega|(simp only [go_sem];try omega))) only [go_sem,Nat.reduceAdd,Nat.reduceEqDiff,Nat.reduceLeDiff,Nat.reduceMul,Nat.reduceLT,reduceIte,Int.reduceToNat,w64_id,cast_succ])
   refine wB (n - (x + 1)) (by omega) ⟨x + 1,v3,by omega,rfl,by simp [go_sem],?_,?_⟩
   ·exact GBx.put ⟨b0,b1,b2,b3⟩ (qZ _) (by omega) d3
   ·rw [z8,xB]
    exact d1.same (fun j b h1 h2=>by rw [qR (by omega)];exact h2)
  ·have : x = n:=by omega
   subst this
   have hm0 : (qT x (0 : Int)).map I = ((qT x (0 : Int)) ++ qT 0 (1 : Int)).map I:=by simp
   rw [hm0] at hg
   repeat (first|(with_reducible first|refine SW.seq ?_|refine q8 ?_|refine SW.rowC ?_|refine SW.skip ?_|refine SW.exit ?_|intro _|refine And.intro (by omega) ?_)|simp (maxSteps:=1000000) (disch:=(first|omega|(simp only [go_sem];try omega))) only [go_sem,Nat.reduceAdd,Nat.reduceEqDiff,Nat.reduceLeDiff,Nat.reduceMul,Nat.reduceLT,reduceIte,Int.reduceToNat,w64_id,cast_succ])
   refine wJ (fun E0 H0 q E' H'=>∃ (i : Nat) (cv : AV),i ≤ xss.length ∧ q = xss.length - i ∧ E' = aput E0 8 (I ((i + 1 : Nat) : Int)) ∧ GBx H [nilS,nilS] [cv,nilS] H' ∧ GrowF H' (H.length + 2) 2 1 cv (x + i) (((qT x (0 : Int)) ++ qT i (1 : Int)).map I)) xss.length ⟨0,cv,by omega,by omega,rfl,⟨b0,b1,b2,b3⟩,hg⟩ ?_
   clear hg b0 b1 b2 b3 hm0
   rintro q E' H1 ⟨i,cv,hil,rfl,rfl,⟨b0,b1,b2,b3⟩,hg⟩
   simp (maxSteps:=1000000) (disch:=(first|omega|(simp only [go_sem];try omega))) only [go_sem,Nat.reduceAdd,Nat.reduceEqDiff,Nat.reduceLeDiff,Nat.reduceMul,Nat.reduceLT,reduceIte,Int.reduceToNat,w64_id,cast_succ]
   repeat (first|(with_reducible first|refine SW.seq ?_|refine q8 ?_|refine SW.rowC ?_|refine SW.skip ?_|refine SW.exit ?_|intro _|refine And.intro (by omega) ?_)|simp (maxSteps:=1000000) (disch:=(first|omega|(simp only [go_sem];try omega))) only [go_sem,Nat.reduceAdd,Nat.reduceEqDiff,Nat.reduceLeDiff,Nat.reduceMul,Nat.reduceLT,reduceIte,Int.reduceToNat,w64_id,cast_succ,hWl])
   (first|refine wK rfl (fun h2=>?_) (fun h2=>?_)|refine wL rfl (fun h2=>?_) (fun h2=>?_)|refine wF rfl (fun h2=>?_) (fun h2=>?_)|refine wH rfl (fun h2=>?_) (fun h2=>?_))
   ·repeat (first|(with_reducible first|refine SW.seq ?_|refine q8 ?_|refine SW.rowC ?_|refine SW.skip ?_|refine SW.exit ?_|intro _|refine And.intro (by omega) ?_)|simp (maxSteps:=1000000) (disch:=(first|omega|(simp only [go_sem];try omega))) only [go_sem,Nat.reduceAdd,Nat.reduceEqDiff,Nat.reduceLeDiff,Nat.reduceMul,Nat.reduceLT,reduceIte,Int.reduceToNat,w64_id,cast_succ,pc_alive b1,pc_ld b1])
    refine GrowF.appX hg b2 rfl (by simp [AV.cell1];rfl) (by omega) (by omega) ?_
    intro v3 H3 d1 d2 d3
    have e1 : H3[H.length + 1]? = some ⟨0,tyGr,1,[cv,nilS]⟩:=by rw [d3 _ (by omega)];exact b1
    repeat (first|(with_reducible first|refine SW.seq ?_|refine q8 ?_|refine SW.rowC ?_|refine SW.skip ?_|refine SW.exit ?_|intro _|refine And.intro (by omega) ?_)|simp (maxSteps:=1000000) (disch:=(first|omega|(simp only [go_sem];try omega))) only [go_sem,Nat.reduceAdd,Nat.reduceEqDiff,Nat.reduceLeDiff,Nat.reduceMul,Nat.reduceLT,reduceIte,Int.reduceToNat,w64_id,cast_succ,pc_alive e1,pc_ld e1,d1.one.1,d1.one.2])
    rw [pc_st e1 (by simp)]
    repeat (first|(with_reducible first|refine SW.seq ?_|refine q8 ?_|refine SW.rowC ?_|refine SW.skip ?_|refine SW.exit ?_|intro _|refine And.intro (by omega) ?_)|simp (maxSteps:=1000000) (disch:=(first|omega|(simp only [go_sem];try omega))) only [go_sem,Nat.reduceAdd,Nat.reduceEqDiff,Nat.reduceLeDiff,Nat.reduceMul,Nat.reduceLT,reduceIte,Int.reduceToNat,w64_id,cast_succ])
    refine wB (xss.length - (i + 1)) (by omega) ⟨i + 1,v3,by omega,rfl,by simp [go_sem],?_,?_⟩
    ·exact GBx.put ⟨b0,b1,b2,b3⟩ (qZ _) (by omega) d3
    ·rw [z8,← wV,xB]
     exact d1.same (fun j b h1 h2=>by rw [qR (by omega)];exact h2)
   ·have : i = xss.length:=by omega
    subst this
    have hC : qT x (0 : Int) ++ qT xss.length 1 = twoC x xss.length:=by
     unfold twoC tab
     apply List.ext_getElem
     ·simp
     ·intro j g1 g2
      simp only [List.getElem_append,List.getElem_replicate,List.length_replicate,List.getElem_map,List.getElem_range]
      by_cases hj : j < x
      ·rw [dif_pos hj,if_neg (by omega)]
      ·rw [dif_neg hj,if_pos (by omega)]
    rw [hC] at hg
    generalize hCg : twoC x xss.length = C at *
    have hCl : C.length = x + xss.length:=by rw [← hCg];simp [twoC,tab]
    repeat (first|(with_reducible first|refine SW.seq ?_|refine q8 ?_|refine SW.rowC ?_|refine SW.skip ?_|refine SW.exit ?_|intro _|refine And.intro (by omega) ?_)|simp (maxSteps:=1000000) (disch:=(first|omega|(simp only [go_sem];try omega))) only [go_sem,Nat.reduceAdd,Nat.reduceEqDiff,Nat.reduceLeDiff,Nat.reduceMul,Nat.reduceLT,reduceIte,Int.reduceToNat,w64_id,cast_succ])
    refine wJ (fun E0 H0 q E' H'=>∃ (y : Nat) (ev : AV),y ≤ x ∧ q = x - y ∧ E' = aput E0 9 (I y) ∧ GBx H [nilS,nilS] [cv,ev] H' ∧ GrowF H' H1.length tyE 2 ev (edX x xss y).length (flatE (edX x xss y)) ∧ H1.length ≤ H'.length ∧ ∀ j,H.length + 2 ≤ j → j < H1.length → H'[j]? = H1[j]?) x ⟨0,nilS,by omega,by omega,rfl,⟨b0,b1,b2,b3⟩,.inl ⟨rfl,rfl,rfl⟩,qZ _,fun _ _ _=>rfl⟩ ?_
    clear b0 b1 b3
    rintro q E' H2 ⟨y,ev,hyx,rfl,rfl,hgb,hge,hl2,hk2⟩
    simp (maxSteps:=1000000) (disch:=(first|omega|(simp only [go_sem];try omega))) only [go_sem,Nat.reduceAdd,Nat.reduceEqDiff,Nat.reduceLeDiff,Nat.reduceMul,Nat.reduceLT,reduceIte,Int.reduceToNat,w64_id,cast_succ]
    repeat (first|(with_reducible first|refine SW.seq ?_|refine q8 ?_|refine SW.rowC ?_|refine SW.skip ?_|refine SW.exit ?_|intro _|refine And.intro (by omega) ?_)|simp (maxSteps:=1000000) (disch:=(first|omega|(simp only [go_sem];try omega))) only [go_sem,Nat.reduceAdd,Nat.reduceEqDiff,Nat.reduceLeDiff,Nat.reduceMul,Nat.reduceLT,reduceIte,Int.reduceToNat,w64_id,cast_succ])
    (first|refine wK rfl (fun h3=>?_) (fun h3=>?_)|refine wL rfl (fun h3=>?_) (fun h3=>?_)|refine wF rfl (fun h3=>?_) (fun h3=>?_)|refine wH rfl (fun h3=>?_) (fun h3=>?_))
    ·repeat (first|(with_reducible first|refine SW.seq ?_|refine q8 ?_|refine SW.rowC ?_|refine SW.skip ?_|refine SW.exit ?_|intro _|refine And.intro (by omega) ?_)|simp (maxSteps:=1000000) (disch:=(first|omega|(simp only [go_sem];try omega))) only [go_sem,Nat.reduceAdd,Nat.reduceEqDiff,Nat.reduceLeDiff,Nat.reduceMul,Nat.reduceLT,reduceIte,Int.reduceToNat,w64_id,cast_succ])
     refine wJ (fun E0 H0 q E' H'=>∃ (i : Nat) (ev : AV),i ≤ xss.length ∧ q = xss.length - i ∧ E' = aput E0 10 (I ((i + 1 : Nat) : Int)) ∧ GBx H [nilS,nilS] [cv,ev] H' ∧ GrowF H' H1.length tyE 2 ev (edX x xss y ++ edRow x xss y i).length (flatE (edX x xss y ++ edRow x xss y i)) ∧ H1.length ≤ H'.length ∧ ∀ j,H.length + 2 ≤ j → j < H1.length → H'[j]? = H1[j]?) xss.length ⟨0,ev,by omega,by omega,rfl,hgb,by simpa [edRow] using hge,hl2,hk2⟩ ?_
     clear hgb hge hl2 hk2
     rintro q E' H2 ⟨i,ev,hil,rfl,rfl,⟨b0,b1,b2',b3⟩,hge,hl2,hk2⟩
     have hes:=edRow_succ x xss y i
     have hel1:=edX_len x xss y
     have hel2:=edRow_len x xss y i
     have hel3 : y * xss.length ≤ 32 * 300:=Nat.mul_le_mul (by omega) hl
     simp (maxSteps:=1000000) (disch:=(first|omega|(simp only [go_sem];try omega))) only [go_sem,Nat.reduceAdd,Nat.reduceEqDiff,Nat.reduceLeDiff,Nat.reduceMul,Nat.reduceLT,reduceIte,Int.reduceToNat,w64_id,cast_succ]
     repeat (first|(with_reducible first|refine SW.seq ?_|refine q8 ?_|refine SW.rowC ?_|refine SW.skip ?_|refine SW.exit ?_|intro _|refine And.intro (by omega) ?_)|simp (maxSteps:=1000000) (disch:=(first|omega|(simp only [go_sem];try omega))) only [go_sem,Nat.reduceAdd,Nat.reduceEqDiff,Nat.reduceLeDiff,Nat.reduceMul,Nat.reduceLT,reduceIte,Int.reduceToNat,w64_id,cast_succ,hWl])
     (first|refine wK rfl (fun h4=>?_) (fun h4=>?_)|refine wL rfl (fun h4=>?_) (fun h4=>?_)|refine wF rfl (fun h4=>?_) (fun h4=>?_)|refine wH rfl (fun h4=>?_) (fun h4=>?_))
     ·have hh:=hhas i y (by omega)
      have hrl:=hrow i (by omega)
      have hBe : (x : Int) + ((i + 1 : Nat) : Int) - 1 = (x : Int) + (i : Int):=by omega
      have hBe2 : (x : Int) + ((i : Int) + 1) - 1 = (x : Int) + (i : Int):=by omega
      repeat (first|(with_reducible first|refine SW.seq ?_|refine q8 ?_|refine SW.rowC ?_|refine SW.skip ?_|refine SW.exit ?_|intro _|refine And.intro (by omega) ?_)|simp (maxSteps:=1000000) (disch:=(first|omega|(simp only [go_sem];try omega))) only [go_sem,Nat.reduceAdd,Nat.reduceEqDiff,Nat.reduceLeDiff,Nat.reduceMul,Nat.reduceLT,reduceIte,Int.reduceToNat,w64_id,cast_succ,hrl])
      (first|refine wK rfl (fun h5=>?_) (fun h5=>?_)|refine wL rfl (fun h5=>?_) (fun h5=>?_)|refine wF rfl (fun h5=>?_) (fun h5=>?_)|refine wH rfl (fun h5=>?_) (fun h5=>?_))
      ·have hc : (xss.getD i []).contains (y : Int) = true:=by rw [hh];exact decide_eq_true h5
       rw [if_pos hc] at hes
       have nm2 : ∀ (ty : Nat) (a b : AV),NmV 0 0 1 (some ⟨0,ty,2,[a,b]⟩) = some (1,[a,b]):=fun ty a b=>by simp [NmV]
       repeat (first|(with_reducible first|refine SW.seq ?_|refine q8 ?_|refine SW.rowC ?_|refine SW.skip ?_|refine SW.exit ?_|intro _|refine And.intro (by omega) ?_)|simp (maxSteps:=1000000) (disch:=(first|omega|(simp only [go_sem];try omega))) only [go_sem,Nat.reduceAdd,Nat.reduceEqDiff,Nat.reduceLeDiff,Nat.reduceMul,Nat.reduceLT,reduceIte,Int.reduceToNat,w64_id,cast_succ,pc_alive b1,pc_ld b1,nm2,hBe,hBe2])
       refine GrowF.appX hge hl2 rfl (by simp [AV.cell1];exact ⟨rfl,rfl⟩) (by simp;omega) (by simp;omega) ?_
       intro v3 H3 d1 d2 d3
       have e1 : H3[H.length + 1]? = some ⟨0,tyGr,1,[cv,ev]⟩:=by rw [d3 _ (by omega)];exact b1
       repeat (first|(with_reducible first|refine SW.seq ?_|refine q8 ?_|refine SW.rowC ?_|refine SW.skip ?_|refine SW.exit ?_|intro _|refine And.intro (by omega) ?_)|simp (maxSteps:=1000000) (disch:=(first|omega|(simp only [go_sem];try omega))) only [go_sem,Nat.reduceAdd,Nat.reduceEqDiff,Nat.reduceLeDiff,Nat.reduceMul,Nat.reduceLT,reduceIte,Int.reduceToNat,w64_id,cast_succ,pc_alive e1,pc_ld e1,d1.one.1,d1.one.2])
       rw [pc_st e1 (by simp)]
       repeat (first|(with_reducible first|refine SW.seq ?_|refine q8 ?_|refine SW.rowC ?_|refine SW.skip ?_|refine SW.exit ?_|intro _|refine And.intro (by omega) ?_)|simp (maxSteps:=1000000) (disch:=(first|omega|(simp only [go_sem];try omega))) only [go_sem,Nat.reduceAdd,Nat.reduceEqDiff,Nat.reduceLeDiff,Nat.reduceMul,Nat.reduceLT,reduceIte,Int.reduceToNat,w64_id,cast_succ])
       refine wB (xss.length - (i + 1)) (by omega) ⟨i + 1,v3,by omega,rfl,by simp [go_sem],?_,?_,by simp;omega,?_⟩
       ·exact GBx.put (base:=H1.length) ⟨b0,b1,b2',b3⟩ b2 (by omega) (fun j hj=>d3 j hj)
       ·rw [hes,← wV,flatE_snoc]
        have e:=d1.same (H':=H3.set (H.length + 1) ⟨0,tyGr,1,[cv,v3]⟩) (fun j b h1 h2=>by rw [qR (by omega)];exact h2)
        simpa [Nat.add_assoc] using e
       ·intro j hj1 hj2
        rw [qR (by omega),d3 _ hj2];exact hk2 j hj1 hj2
      ·have hc : ¬ (xss.getD i []).contains (y : Int) = true:=by rw [hh,decide_eq_false h5];decide
       rw [if_neg hc] at hes
       repeat (first|(with_reducible first|refine SW.seq ?_|refine q8 ?_|refine SW.rowC ?_|refine SW.skip ?_|refine SW.exit ?_|intro _|refine And.intro (by omega) ?_)|simp (maxSteps:=1000000) (disch:=(first|omega|(simp only [go_sem];try omega))) only [go_sem,Nat.reduceAdd,Nat.reduceEqDiff,Nat.reduceLeDiff,Nat.reduceMul,Nat.reduceLT,reduceIte,Int.reduceToNat,w64_id,cast_succ])
       refine wB (xss.length - (i + 1)) (by omega) ⟨i + 1,ev,by omega,rfl,by simp [go_sem],⟨b0,b1,b2',b3⟩,?_,hl2,hk2⟩
       rw [hes,List.append_nil];simpa using hge
     ·have : i = xss.length:=by omega
      subst this
      repeat (first|(with_reducible first|refine SW.seq ?_|refine q8 ?_|refine SW.rowC ?_|refine SW.skip ?_|refine SW.exit ?_|intro _|refine And.intro (by omega) ?_)|simp (maxSteps:=1000000) (disch:=(first|omega|(simp only [go_sem];try omega))) only [go_sem,Nat.reduceAdd,Nat.reduceEqDiff,Nat.reduceLeDiff,Nat.reduceMul,Nat.reduceLT,reduceIte,Int.reduceToNat,w64_id,cast_succ])
      refine wB (x - (y + 1)) (by omega) ⟨y + 1,ev,by omega,rfl,by simp [go_sem],⟨b0,b1,b2',b3⟩,by rw [edX_succ];exact hge,hl2,hk2⟩
    ·have : y = x:=by omega
     subst this
     obtain ⟨b0,b1,b2',b3⟩:=hgb
     have hvw:=hge.view
     repeat (first|(with_reducible first|refine SW.seq ?_|refine q8 ?_|refine SW.rowC ?_|refine SW.skip ?_|refine SW.exit ?_|intro _|refine And.intro (by omega) ?_)|simp (maxSteps:=1000000) (disch:=(first|omega|(simp only [go_sem];try omega))) only [go_sem,Nat.reduceAdd,Nat.reduceEqDiff,Nat.reduceLeDiff,Nat.reduceMul,Nat.reduceLT,reduceIte,Int.reduceToNat,w64_id,cast_succ,pc_alive b1,pc_ld b1,hvw])
     have hEs:=edX_is hx
     have hEl : (edX y xss y).length = (edI y xss).length:=by
      rw [hEs]
      exact (sortU_permE cmpE_tot (edI_nodup (fun x h=>asc_nodupA (hx x h)))).length_eq
     by_cases h512 : (edX y xss y).length > 512
     ·have d2 : decide ((512 : Int) < ((edX y xss y).length : Int)) = true:=decide_eq_true (by omega)
      have hV : grV y xss = (([],[]),5):=by unfold grV;rw [if_pos (.inr (by rw [← hEl];exact h512))]
      rw [hV,d2]
      refine wM rfl ?_
      repeat (first|(with_reducible first|refine SW.seq ?_|refine q8 ?_|refine SW.rowC ?_|refine SW.skip ?_|refine SW.exit ?_|intro _|refine And.intro (by omega) ?_)|simp (maxSteps:=1000000) (disch:=(first|omega|(simp only [go_sem];try omega))) only [go_sem,Nat.reduceAdd,Nat.reduceEqDiff,Nat.reduceLeDiff,Nat.reduceMul,Nat.reduceLT,reduceIte,Int.reduceToNat,w64_id,cast_succ])
      rw [pc_st b0 (by simp)]
      repeat (first|(with_reducible first|refine SW.seq ?_|refine q8 ?_|refine SW.rowC ?_|refine SW.skip ?_|refine SW.exit ?_|intro _|refine And.intro (by omega) ?_)|simp (maxSteps:=1000000) (disch:=(first|omega|(simp only [go_sem];try omega))) only [go_sem,Nat.reduceAdd,Nat.reduceEqDiff,Nat.reduceLeDiff,Nat.reduceMul,Nat.reduceLT,reduceIte,Int.reduceToNat,w64_id,cast_succ])
      refine SW.ret ?_
      have c0 : (H2.set H.length ⟨0,tyGr,1,[nilS,nilS]⟩)[H.length]? = some ⟨0,tyGr,1,[nilS,nilS]⟩:=qY (by omega)
      refine xI (cs:=[nilS,nilS]) (by simp (maxSteps:=1000000) (disch:=(first|omega|(simp only [go_sem];try omega))) only [go_sem,Nat.reduceAdd,Nat.reduceEqDiff,Nat.reduceLeDiff,Nat.reduceMul,Nat.reduceLT,reduceIte,Int.reduceToNat,w64_id,cast_succ,pc_lds c0]) ?_
      exact GR.frozP (prefix_of (by simp;omega) (fun j hj=>by rw [qR (by omega)];exact b3 j hj)) (r':=.tup [.agg [ilS [],ilE []],I 5]) (froz_tup2 (froz_agg2 .nil .nil) (froz_I' _)) ⟨rfl,rfl⟩
     ·have d2 : decide ((512 : Int) < ((edX y xss y).length : Int)) = false:=decide_eq_false (by omega)
      have hV : grV y xss = ((C,edX y xss y),0):=by unfold grV;rw [if_neg (by rw [← hEl];omega),hCg,hEs]
      rw [hV,d2]
      refine wE rfl ?_
      repeat (first|(with_reducible first|refine SW.seq ?_|refine q8 ?_|refine SW.rowC ?_|refine SW.skip ?_|refine SW.exit ?_|intro _|refine And.intro (by omega) ?_)|simp (maxSteps:=1000000) (disch:=(first|omega|(simp only [go_sem];try omega))) only [go_sem,Nat.reduceAdd,Nat.reduceEqDiff,Nat.reduceLeDiff,Nat.reduceMul,Nat.reduceLT,reduceIte,Int.reduceToNat,w64_id,cast_succ,pc_lds b1,hg.one.1,hg.one.2,hge.one.1,hge.one.2])
      rw [pc_st b0 (by simp)]
      repeat (first|(with_reducible first|refine SW.seq ?_|refine q8 ?_|refine SW.rowC ?_|refine SW.skip ?_|refine SW.exit ?_|intro _|refine And.intro (by omega) ?_)|simp (maxSteps:=1000000) (disch:=(first|omega|(simp only [go_sem];try omega))) only [go_sem,Nat.reduceAdd,Nat.reduceEqDiff,Nat.reduceLeDiff,Nat.reduceMul,Nat.reduceLT,reduceIte,Int.reduceToNat,w64_id,cast_succ])
      refine SW.ret ?_
      have c0 : (H2.set H.length ⟨0,tyGr,1,[cv,ev]⟩)[H.length]? = some ⟨0,tyGr,1,[cv,ev]⟩:=qY (by omega)
      refine xI (cs:=[cv,ev]) (by simp (maxSteps:=1000000) (disch:=(first|omega|(simp only [go_sem];try omega))) only [go_sem,Nat.reduceAdd,Nat.reduceEqDiff,Nat.reduceLeDiff,Nat.reduceMul,Nat.reduceLT,reduceIte,Int.reduceToNat,w64_id,cast_succ,pc_lds c0]) ?_
      refine GR.frozP (prefix_of (by simp;omega) (fun j hj=>by rw [qR (by omega)];exact b3 j hj)) (r':=.tup [.agg [ilS C,ilE (edX y xss y)],I 0]) (froz_tup2 (froz_agg2 ?_ ?_) (froz_I' _)) ⟨rfl,rfl⟩
      ·exact (hg.same (fun j b h1 h2=>by rw [qR (by omega),hk2 j h1 (qC.1 h2).1];exact h2)).frozI (by omega)
      ·exact (hge.same (fun j b h1 h2=>by rw [qR (by omega)];exact h2)).frozE (by omega)
theorem l23Code_not (H : List Blk) (p ty P K : Nat) (L : List Int) (m : List (List Int)) (hp : H[p]? = some ⟨0,ty,1,[I P,I K,ilS L,ilSS m]⟩) (hpb : 2 ≤ P ∧ P ≤ 64) (hkb : 1 ≤ K ∧ K ≤ 6) (h2 : P ^ K ≠ 2) :
  ACalls Tryz.prog f_spec_l23Code [.pc p 0 0] H (fun r H'=>r = .tup [.agg [ilS [],ilE []],I 6] ∧ H' = H):=by
 have ha:=fun l (o : Nat)=>pc_alive (off:=o) (get_appU hp l)
 have hld:=fun l (o : Nat)=>pc_ld (off:=o) (get_appU hp l)
 have ha0:=fun (o : Nat)=>pc_alive (off:=o) hp
 have hld0:=fun (o : Nat)=>pc_ld (off:=o) hp
 have hsz:=fun e=>l03Size_g (H ++ e) p ty P K L [ilSS m] (get_appU hp e) hpb hkb
 have d1 : decide (((P ^ K : Nat) : Int) = 2) = false:=decide_eq_false (by omega)
 generalize P ^ K = q at *
 refine ACalls.introB s_spec_l23Code (by simp) ?_;intro hB hA;unfold c_spec_l23Code;simp (disch:=(first|omega|(simp only [go_sem];try omega))) only [go_sem,Nat.reduceAdd,Nat.reduceEqDiff,Nat.reduceLeDiff,reduceIte,w64_id,cast_succ]
 repeat (first|(with_reducible first|refine SW.seq ?_|refine q8 ?_|refine SW.rowC ?_|refine SW.skip ?_|refine SW.exit ?_|intro _|refine And.intro (by omega) ?_)|simp (disch:=(first|omega|(simp only [go_sem];try omega))) only [go_sem,Nat.reduceAdd,Nat.reduceEqDiff,Nat.reduceLeDiff,reduceIte,w64_id,cast_succ,ha,hld,ha0,hld0])
 refine (hsz _).mono ?_
 rintro r Z ⟨rfl,rfl⟩
 repeat (first|(with_reducible first|refine SW.seq ?_|refine q8 ?_|refine SW.rowC ?_|refine SW.skip ?_|refine SW.exit ?_|intro _|refine And.intro (by omega) ?_)|simp (disch:=(first|omega|(simp only [go_sem];try omega))) only [go_sem,Nat.reduceAdd,Nat.reduceEqDiff,Nat.reduceLeDiff,reduceIte,w64_id,cast_succ,d1])
 refine wM rfl ?_
 repeat (first|(with_reducible first|refine SW.seq ?_|refine q8 ?_|refine SW.rowC ?_|refine SW.skip ?_|refine SW.exit ?_|intro _|refine And.intro (by omega) ?_)|simp (disch:=(first|omega|(simp only [go_sem];try omega))) only [go_sem,Nat.reduceAdd,Nat.reduceEqDiff,Nat.reduceLeDiff,reduceIte,w64_id,cast_succ])
 refine SW.ret ?_
 refine xI (cs:=[nilS,nilS]) (by simp (disch:=(first|omega|(simp only [go_sem];try omega))) only [go_sem,Nat.reduceAdd,Nat.reduceEqDiff,Nat.reduceLeDiff,reduceIte,w64_id,cast_succ]) ?_
 exact GR.froz (r':=.tup [.agg [ilS [],ilE []],I 6]) (froz_tup2 (froz_agg2 .nil .nil) (froz_I' _)) ⟨rfl,rfl⟩
theorem specCodeGraph_fn (p d : Int) (L : List Int) (m : List (List Int)) (hl : L.length ≤ 2000000) (hw : -9223372036854775808 ≤ d ∧ d ≤ 9223372036854775807) (hm : m.length ≤ 2000000) (hm2 : ∀ x ∈ m,x.length ≤ 2000000) :
  PFn Tryz.prog f_spec_CodeGraph [.agg [I p,I d,ilS L,ilSS m]] (.tup [.agg [ilS (cgV p d L m).1.1,ilE (cgV p d L m).1.2],I (cgV p d L m).2]):=by
 intro H
 have hok:=fun (X : List Blk) (r ty : Nat) hr=>l18Ok_g X r ty p d L m hr hl hw hm hm2 (fun h=>fld_ok (p:=p) (d:=d) (poly:=L) h)
 have hb : (H ++ [(⟨0,36,1,[I p,I d,ilS L,ilSS m]⟩ : Blk),⟨0,tyGr,1,[nilS,nilS]⟩])[H.length]? = some ⟨0,36,1,[I p,I d,ilS L,ilSS m]⟩:=by simp
 have hok1:=hok _ _ _ hb
 unfold cgV
 by_cases hc : codeB p d L m = true
 ·rw [if_pos hc]
  rw [hc] at hok1
  obtain ⟨hf,hmc,h8⟩:=codeB_facts hc
  have hgo : ACalls Tryz.prog f_spec_l23Code [.pc H.length 0 0] (H ++ [(⟨0,36,1,[I p,I d,ilS L,ilSS m]⟩ : Blk),⟨0,tyGr,1,[nilS,nilS]⟩]) (fun r H'=>r = .tup [.agg [ilS (if p.toNat ^ d.toNat = 2 then grV (m.getD 0 []).length (supps (m.getD 0 []).length m) else (([],[]),6)).1.1,ilE (if p.toNat ^ d.toNat = 2 then grV (m.getD 0 []).length (supps (m.getD 0 []).length m) else (([],[]),6)).1.2],I (if p.toNat ^ d.toNat = 2 then grV (m.getD 0 []).length (supps (m.getD 0 []).length m) else (([],[]),6)).2] ∧ H' = (H ++ [(⟨0,36,1,[I p,I d,ilS L,ilSS m]⟩ : Blk),⟨0,tyGr,1,[nilS,nilS]⟩])):=by
   by_cases h2 : p.toNat ^ d.toNat = 2
   ·rw [if_pos h2]
    obtain ⟨rfl,rfl,hL,h1L,hk,hw1,hw2,hrows⟩:=code_two hc h2
    exact l23Code_two _ _ _ L m _ hb hL h1L hk hw1 hw2 hrows
   ·rw [if_neg h2]
    obtain ⟨P,K,rfl,rfl,hpb,hkb,hLb,hq,-,-,-⟩:=fieldB_facts hf
    exact l23Code_not _ _ _ P K L m hb hpb hkb h2
  generalize (if p.toNat ^ d.toNat = 2 then grV (m.getD 0 []).length (supps (m.getD 0 []).length m) else (([],[]),6)) = V at *
  refine ACalls.introB s_spec_CodeGraph (by simp) ?_;intro hB hA;unfold c_spec_CodeGraph;simp (disch:=(first|omega|(simp only [go_sem];try omega))) only [go_sem,Nat.reduceAdd,Nat.reduceEqDiff,Nat.reduceLeDiff,reduceIte,w64_id,cast_succ]
  repeat (first|(with_reducible first|refine SW.seq ?_|refine q8 ?_|refine SW.rowC ?_|refine SW.skip ?_|refine SW.exit ?_|intro _|refine And.intro (by omega) ?_)|simp (disch:=(first|omega|(simp only [go_sem];try omega))) only [go_sem,Nat.reduceAdd,Nat.reduceEqDiff,Nat.reduceLeDiff,reduceIte,w64_id,cast_succ])
  refine hok1.mono ?_
  rintro r Z ⟨rfl,rfl⟩
  repeat (first|(with_reducible first|refine SW.seq ?_|refine q8 ?_|refine SW.rowC ?_|refine SW.skip ?_|refine SW.exit ?_|intro _|refine And.intro (by omega) ?_)|simp (disch:=(first|omega|(simp only [go_sem];try omega))) only [go_sem,Nat.reduceAdd,Nat.reduceEqDiff,Nat.reduceLeDiff,reduceIte,w64_id,cast_succ])
  refine wE rfl ?_
  repeat (first|(with_reducible first|refine SW.seq ?_|refine q8 ?_|refine SW.rowC ?_|refine SW.skip ?_|refine SW.exit ?_|intro _|refine And.intro (by omega) ?_)|simp (disch:=(first|omega|(simp only [go_sem];try omega))) only [go_sem,Nat.reduceAdd,Nat.reduceEqDiff,Nat.reduceLeDiff,reduceIte,w64_id,cast_succ])
  refine hgo.mono ?_
  rintro r Z ⟨rfl,rfl⟩
  repeat (first|(with_reducible first|refine SW.seq ?_|refine q8 ?_|refine SW.rowC ?_|refine SW.skip ?_|refine SW.exit ?_|intro _|refine And.intro (by omega) ?_)|simp (disch:=(first|omega|(simp only [go_sem];try omega))) only [go_sem,Nat.reduceAdd,Nat.reduceEqDiff,Nat.reduceLeDiff,reduceIte,w64_id,cast_succ])
  refine ⟨rfl,?_⟩
  repeat (first|(with_reducible first|refine SW.seq ?_|refine q8 ?_|refine SW.rowC ?_|refine SW.skip ?_|refine SW.exit ?_|intro _|refine And.intro (by omega) ?_)|simp (disch:=(first|omega|(simp only [go_sem];try omega))) only [go_sem,Nat.reduceAdd,Nat.reduceEqDiff,Nat.reduceLeDiff,reduceIte,w64_id,cast_succ])
  refine SW.ret ?_
  refine xI (cs:=[ilS V.1.1,ilE V.1.2]) (by simp (disch:=(first|omega|(simp only [go_sem];try omega))) only [go_sem,Nat.reduceAdd,Nat.reduceEqDiff,Nat.reduceLeDiff,reduceIte,w64_id,cast_succ]) ?_
  refine GR.drop ?_ ⟨rfl,rfl⟩
  have hbE:=Bel_ilE H.length V.1.2
  (simp only [go_sem,Nat.reduceAdd,Nat.reduceEqDiff,reduceIte,go_sem,and_self,and_true,true_and,implies_true,List.take_succ_cons,List.take_zero,and_true,true_and,hbE];try omega)
 ·rw [if_neg hc]
  rw [Bool.not_eq_true] at hc
  rw [hc] at hok1
  refine ACalls.introB s_spec_CodeGraph (by simp) ?_;intro hB hA;unfold c_spec_CodeGraph;simp (disch:=(first|omega|(simp only [go_sem];try omega))) only [go_sem,Nat.reduceAdd,Nat.reduceEqDiff,Nat.reduceLeDiff,reduceIte,w64_id,cast_succ]
  repeat (first|(with_reducible first|refine SW.seq ?_|refine q8 ?_|refine SW.rowC ?_|refine SW.skip ?_|refine SW.exit ?_|intro _|refine And.intro (by omega) ?_)|simp (disch:=(first|omega|(simp only [go_sem];try omega))) only [go_sem,Nat.reduceAdd,Nat.reduceEqDiff,Nat.reduceLeDiff,reduceIte,w64_id,cast_succ])
  refine hok1.mono ?_
  rintro r Z ⟨rfl,rfl⟩
  repeat (first|(with_reducible first|refine SW.seq ?_|refine q8 ?_|refine SW.rowC ?_|refine SW.skip ?_|refine SW.exit ?_|intro _|refine And.intro (by omega) ?_)|simp (disch:=(first|omega|(simp only [go_sem];try omega))) only [go_sem,Nat.reduceAdd,Nat.reduceEqDiff,Nat.reduceLeDiff,reduceIte,w64_id,cast_succ])
  refine wM rfl ?_
  repeat (first|(with_reducible first|refine SW.seq ?_|refine q8 ?_|refine SW.rowC ?_|refine SW.skip ?_|refine SW.exit ?_|intro _|refine And.intro (by omega) ?_)|simp (disch:=(first|omega|(simp only [go_sem];try omega))) only [go_sem,Nat.reduceAdd,Nat.reduceEqDiff,Nat.reduceLeDiff,reduceIte,w64_id,cast_succ])
  refine SW.ret ?_
  refine xI (cs:=[nilS,nilS]) (by simp (disch:=(first|omega|(simp only [go_sem];try omega))) only [go_sem,Nat.reduceAdd,Nat.reduceEqDiff,Nat.reduceLeDiff,reduceIte,w64_id,cast_succ]) ?_
  exact GR.froz (r':=.tup [.agg [ilS [],ilE []],I 1]) (froz_tup2 (froz_agg2 .nil .nil) (froz_I' _)) ⟨rfl,rfl⟩
end Go.Proofs.YtclfmfabcnbbpaaGreat