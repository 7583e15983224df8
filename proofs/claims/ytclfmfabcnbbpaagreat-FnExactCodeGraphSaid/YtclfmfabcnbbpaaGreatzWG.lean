/- Codes within laws. -/
import Derived.Test.YtclfmfabcnbbpaaGreatProg
import Derived.KernelRfl
import Derived.Test.YtclfmfabcnbbpaaGreatzE4
import Derived.Test.YtclfmfabcnbbpaaGreatzK6
set_option linter.unusedSimpArgs false
set_option linter.unusedVariables false
set_option maxHeartbeats 4000000
set_option maxRecDepth 100000
open Go.Operand renaming tmp→t'
open Option renaming none→n',some→s'
open Go.Av.SW renaming block→q8,condT→wM,condF→wE
open Go.Av.FunPost renaming one→qP,two→qS,three→qQ,cell→zE
open List renaming take_succ_cons→qI,take_zero→qO,getElem?_append_left→qN
namespace Go.Proofs.YtclfmfabcnbbpaaGreat
open Go.Av
abbrev f_laws_szCode : Nat:=4
def c_laws_szCode : SC :=
 .seq (.reg [⟨s' 2,.box 27 (t' 0),n'⟩,⟨s' 4,.mv (.const (.int .i64 0)),n'⟩] [1,2]) (.seq (.reg [⟨s' 5,.faddr 0 (t' 2),n'⟩,⟨s' 6,.load 3 true (t' 5),n'⟩,⟨s' 7,.mv (t' 1),n'⟩,
 ⟨s' 8,.call 13 [(t' 6),(t' 7)],n'⟩,⟨s' 1,.mv (t' 8),n'⟩] [1,2]) (.seq (.seq (.reg [⟨s' 9,.mv (t' 1),n'⟩,⟨s' 10,.bin .lss (t' 9) (.const (.int .i64 0)),n'⟩] [1,2,10])
 (.cond (t' 10) (.seq (.reg [⟨s' 4,.mv (.const (.int .i64 (-1))),n'⟩] [4]) (.ret)) (.skip))) (.seq (.reg [⟨s' 11,.faddr 3 (t' 2),n'⟩,⟨s' 12,.load 1 false (t' 11),n'⟩,
 ⟨s' 13,.mv (t' 1),n'⟩,⟨s' 14,.call 14 [(t' 12),(t' 13)],n'⟩,⟨s' 1,.mv (t' 14),n'⟩] [1]) (.seq (.seq (.reg [⟨s' 15,.mv (t' 1),n'⟩,
 ⟨s' 16,.bin .lss (t' 15) (.const (.int .i64 0)),n'⟩] [1,16]) (.cond (t' 16) (.seq (.reg [⟨s' 4,.mv (.const (.int .i64 (-1))),n'⟩] [4]) (.ret)) (.skip))) (.seq (.reg [
 ⟨s' 17,.mv (t' 1),n'⟩,⟨s' 4,.mv (t' 17),n'⟩] [4]) (.ret))))))
theorem s_laws_szCode : stripF Tryz.prog 4 [[1,2],[1,2],[1,2,10],[4],[1],[1,16],[4],[4]] = some (c_laws_szCode,[.tmp 4],18):=by kernel_rfl
abbrev f_laws_toCode : Nat:=6
def c_laws_toCode : SC :=
 .seq (.reg [⟨s' 1,.box 27 (t' 0),n'⟩,⟨s' 2,.alloc 36 [(.int .i64 0),(.int .i64 0),(.slice none 0 0),(.slice none 0 0)],n'⟩] [1,2]) (.seq (.reg [
 ⟨s' 3,.alloc 36 [(.int .i64 0),(.int .i64 0),(.slice none 0 0),(.slice none 0 0)],n'⟩] [1,2,3]) (.seq (.reg [⟨s' 4,.faddr 0 (t' 1),n'⟩,⟨s' 5,.load 3 true (t' 4),n'⟩,
 ⟨s' 6,.call 17 [(t' 5)],n'⟩,⟨s' 7,.faddr 0 (t' 3),n'⟩,⟨n',.store 3 (t' 7) (t' 6),n'⟩] [1,2,3]) (.seq (.reg [⟨s' 8,.faddr 3 (t' 1),n'⟩,⟨s' 9,.load 1 false (t' 8),n'⟩,
 ⟨s' 10,.call 18 [(t' 9)],n'⟩,⟨s' 11,.faddr 3 (t' 3),n'⟩,⟨n',.store 1 (t' 11) (t' 10),n'⟩] [2,3]) (.seq (.reg [⟨s' 12,.load 4 true (t' 3),n'⟩,⟨n',.store 4 (t' 2) (t' 12),n'⟩] [2])
 (.ret)))))
theorem s_laws_toCode : stripF Tryz.prog 6 [[1,2],[1,2,3],[1,2,3],[2,3],[2]] = some (c_laws_toCode,[.cell 2 4],13):=by kernel_rfl
abbrev f_laws_eqCode : Nat:=9
def c_laws_eqCode : SC :=
 .seq (.reg [⟨s' 2,.box 36 (t' 0),n'⟩,⟨s' 3,.box 36 (t' 1),n'⟩,⟨s' 4,.mv (.const (.bool false)),n'⟩] [2,3]) (.seq (.seq (.reg [⟨s' 5,.faddr 0 (t' 2),n'⟩,
 ⟨s' 6,.load 3 true (t' 5),n'⟩,⟨s' 7,.faddr 0 (t' 3),n'⟩,⟨s' 8,.load 3 true (t' 7),n'⟩,⟨s' 9,.call 27 [(t' 6),(t' 8)],n'⟩,⟨s' 10,.un .not (t' 9),n'⟩] [2,3,10]) (.cond (t' 10)
 (.seq (.reg [⟨s' 4,.mv (.const (.bool false)),n'⟩] [4]) (.ret)) (.skip))) (.seq (.seq (.reg [⟨s' 11,.faddr 3 (t' 2),n'⟩,⟨s' 12,.load 1 false (t' 11),n'⟩,
 ⟨s' 13,.faddr 3 (t' 3),n'⟩,⟨s' 14,.load 1 false (t' 13),n'⟩,⟨s' 15,.call 28 [(t' 12),(t' 14)],n'⟩,⟨s' 16,.un .not (t' 15),n'⟩] [16]) (.cond (t' 16) (.seq (.reg [
 ⟨s' 4,.mv (.const (.bool false)),n'⟩] [4]) (.ret)) (.skip))) (.seq (.reg [⟨s' 4,.mv (.const (.bool true)),n'⟩] [4]) (.ret))))
theorem s_laws_eqCode : stripF Tryz.prog 9 [[2,3],[2,3,10],[4],[16],[4],[4]] = some (c_laws_eqCode,[.tmp 4],17):=by kernel_rfl
abbrev f_laws_markCode : Nat:=10
def c_laws_markCode : SC :=
 .seq (.reg [⟨s' 2,.box 36 (t' 0),n'⟩,⟨s' 4,.mv (.const (.int .i64 0)),n'⟩] [1,2]) (.seq (.reg [⟨s' 5,.faddr 0 (t' 2),n'⟩,⟨s' 6,.load 3 true (t' 5),n'⟩,⟨s' 7,.mv (t' 1),n'⟩,
 ⟨s' 8,.call 29 [(t' 6),(t' 7)],n'⟩,⟨s' 1,.mv (t' 8),n'⟩] [1,2]) (.seq (.reg [⟨s' 9,.faddr 3 (t' 2),n'⟩,⟨s' 10,.load 1 false (t' 9),n'⟩,⟨s' 11,.mv (t' 1),n'⟩,
 ⟨s' 12,.call 30 [(t' 10),(t' 11)],n'⟩,⟨s' 1,.mv (t' 12),n'⟩] [1]) (.seq (.reg [⟨s' 13,.mv (t' 1),n'⟩,⟨s' 4,.mv (t' 13),n'⟩] [4]) (.ret))))
theorem s_laws_markCode : stripF Tryz.prog 10 [[1,2],[1,2],[1],[4]] = some (c_laws_markCode,[.tmp 4],14):=by kernel_rfl
abbrev f_laws_szField : Nat:=13
def c_laws_szField : SC :=
 .seq (.reg [⟨s' 2,.box 24 (t' 0),n'⟩,⟨s' 4,.mv (.const (.int .i64 0)),n'⟩] [1,2]) (.seq (.reg [⟨s' 5,.faddr 2 (t' 2),n'⟩,⟨s' 6,.load 1 false (t' 5),n'⟩,⟨s' 7,.mv (t' 1),n'⟩,
 ⟨s' 8,.call 35 [(t' 6),(t' 7)],n'⟩,⟨s' 1,.mv (t' 8),n'⟩] [1]) (.seq (.seq (.reg [⟨s' 9,.mv (t' 1),n'⟩,⟨s' 10,.bin .lss (t' 9) (.const (.int .i64 0)),n'⟩] [1,10]) (.cond (t' 10)
 (.seq (.reg [⟨s' 4,.mv (.const (.int .i64 (-1))),n'⟩] [4]) (.ret)) (.skip))) (.seq (.reg [⟨s' 11,.mv (t' 1),n'⟩,⟨s' 4,.mv (t' 11),n'⟩] [4]) (.ret))))
theorem s_laws_szField : stripF Tryz.prog 13 [[1,2],[1],[1,10],[4],[4]] = some (c_laws_szField,[.tmp 4],12):=by kernel_rfl
abbrev f_laws_toField : Nat:=17
def c_laws_toField : SC :=
 .seq (.reg [⟨s' 1,.box 24 (t' 0),n'⟩,⟨s' 2,.alloc 34 [(.int .i64 0),(.int .i64 0),(.slice none 0 0)],n'⟩] [1,2]) (.seq (.reg [
 ⟨s' 3,.alloc 34 [(.int .i64 0),(.int .i64 0),(.slice none 0 0)],n'⟩] [1,2,3]) (.seq (.reg [⟨s' 4,.faddr 0 (t' 1),n'⟩,⟨s' 5,.load 1 false (t' 4),n'⟩,⟨s' 6,.faddr 0 (t' 3),n'⟩,
 ⟨n',.store 1 (t' 6) (t' 5),n'⟩] [1,2,3]) (.seq (.reg [⟨s' 7,.faddr 1 (t' 1),n'⟩,⟨s' 8,.load 1 false (t' 7),n'⟩,⟨s' 9,.faddr 1 (t' 3),n'⟩,⟨n',.store 1 (t' 9) (t' 8),n'⟩] [1,2,3])
 (.seq (.reg [⟨s' 10,.faddr 2 (t' 1),n'⟩,⟨s' 11,.load 1 false (t' 10),n'⟩,⟨s' 12,.call 42 [(t' 11)],n'⟩,⟨s' 13,.faddr 2 (t' 3),n'⟩,⟨n',.store 1 (t' 13) (t' 12),n'⟩] [2,3])
 (.seq (.reg [⟨s' 14,.load 3 true (t' 3),n'⟩,⟨n',.store 3 (t' 2) (t' 14),n'⟩] [2]) (.ret))))))
theorem s_laws_toField : stripF Tryz.prog 17 [[1,2],[1,2,3],[1,2,3],[1,2,3],[2,3],[2]] = some (c_laws_toField,[.cell 2 3],15):=by kernel_rfl
abbrev f_laws_eqField : Nat:=27
def c_laws_eqField : SC :=
 .seq (.reg [⟨s' 2,.box 34 (t' 0),n'⟩,⟨s' 3,.box 34 (t' 1),n'⟩,⟨s' 4,.mv (.const (.bool false)),n'⟩] [2,3]) (.seq (.seq (.reg [⟨s' 5,.faddr 0 (t' 2),n'⟩,
 ⟨s' 6,.load 1 false (t' 5),n'⟩,⟨s' 7,.faddr 0 (t' 3),n'⟩,⟨s' 8,.load 1 false (t' 7),n'⟩,⟨s' 9,.bin .neq (t' 6) (t' 8),n'⟩] [2,3,9]) (.cond (t' 9) (.seq (.reg [
 ⟨s' 4,.mv (.const (.bool false)),n'⟩] [4]) (.ret)) (.skip))) (.seq (.seq (.reg [⟨s' 10,.faddr 1 (t' 2),n'⟩,⟨s' 11,.load 1 false (t' 10),n'⟩,⟨s' 12,.faddr 1 (t' 3),n'⟩,
 ⟨s' 13,.load 1 false (t' 12),n'⟩,⟨s' 14,.bin .neq (t' 11) (t' 13),n'⟩] [2,3,14]) (.cond (t' 14) (.seq (.reg [⟨s' 4,.mv (.const (.bool false)),n'⟩] [4]) (.ret)) (.skip)))
 (.seq (.seq (.reg [⟨s' 15,.faddr 2 (t' 2),n'⟩,⟨s' 16,.load 1 false (t' 15),n'⟩,⟨s' 17,.faddr 2 (t' 3),n'⟩,⟨s' 18,.load 1 false (t' 17),n'⟩,⟨s' 19,.call 25 [(t' 16),(t' 18)],n'⟩,
 ⟨s' 20,.un .not (t' 19),n'⟩] [20]) (.cond (t' 20) (.seq (.reg [⟨s' 4,.mv (.const (.bool false)),n'⟩] [4]) (.ret)) (.skip))) (.seq (.reg [⟨s' 4,.mv (.const (.bool true)),n'⟩] [4])
 (.ret)))))
theorem s_laws_eqField : stripF Tryz.prog 27 [[2,3],[2,3,9],[4],[2,3,14],[4],[20],[4],[4]] = some (c_laws_eqField,[.tmp 4],21):=by kernel_rfl
abbrev f_laws_markField : Nat:=29
def c_laws_markField : SC :=
 .seq (.reg [⟨s' 2,.box 34 (t' 0),n'⟩,⟨s' 4,.mv (.const (.int .i64 0)),n'⟩] [1,2]) (.seq (.reg [⟨s' 5,.faddr 2 (t' 2),n'⟩,⟨s' 6,.load 1 false (t' 5),n'⟩,⟨s' 7,.mv (t' 1),n'⟩,
 ⟨s' 8,.call 31 [(t' 6),(t' 7)],n'⟩,⟨s' 1,.mv (t' 8),n'⟩] [1]) (.seq (.reg [⟨s' 9,.mv (t' 1),n'⟩,⟨s' 4,.mv (t' 9),n'⟩] [4]) (.ret)))
theorem s_laws_markField : stripF Tryz.prog 29 [[1,2],[1],[4]] = some (c_laws_markField,[.tmp 4],10):=by kernel_rfl
theorem szField_ok (H : List Blk) (p d : Int) (L : List Int) (left : Int) (h0 : -1 ≤ left) (h1 : left ≤ 4611686018427387904) :
  ACalls Tryz.prog f_laws_szField [.agg [I p,I d,ilS L],I left] H (fun r H'=>(∃ z : Int,r = I z ∧ -1 ≤ z ∧ z ≤ left ∧ (0 ≤ z → z = left - L.length)) ∧ H' = H):=by
 refine ACalls.introB s_laws_szField (by simp) ?_;intro hB hA;unfold c_laws_szField;simp (disch:=(first|omega|(simp only [go_sem];try omega))) only [go_sem,Nat.reduceAdd,Nat.reduceEqDiff,Nat.reduceLeDiff,reduceIte,w64_id,cast_succ]
 repeat (first|(with_reducible first|refine SW.seq ?_|refine q8 ?_|refine SW.rowC ?_|refine SW.skip ?_|refine SW.exit ?_|intro _|refine And.intro (by omega) ?_)|simp (disch:=(first|omega|(simp only [go_sem];try omega))) only [go_sem,Nat.reduceAdd,Nat.reduceEqDiff,Nat.reduceLeDiff,reduceIte,w64_id,cast_succ])
 refine (szInt64S_ok _ _ L left (rd_ilS _ _) h0 h1).mono ?_
 rintro r H' ⟨⟨z,rfl,g1,g2,g3⟩,rfl⟩
 repeat (first|(with_reducible first|refine SW.seq ?_|refine q8 ?_|refine SW.rowC ?_|refine SW.skip ?_|refine SW.exit ?_|intro _|refine And.intro (by omega) ?_)|simp (disch:=(first|omega|(simp only [go_sem];try omega))) only [go_sem,Nat.reduceAdd,Nat.reduceEqDiff,Nat.reduceLeDiff,reduceIte,w64_id,cast_succ])
 by_cases hz : z < 0
 ·have d1 : decide (z < 0) = true:=decide_eq_true hz
  repeat (first|(with_reducible first|refine SW.seq ?_|refine q8 ?_|refine SW.rowC ?_|refine SW.skip ?_|refine SW.exit ?_|intro _|refine And.intro (by omega) ?_)|simp (disch:=(first|omega|(simp only [go_sem];try omega))) only [go_sem,Nat.reduceAdd,Nat.reduceEqDiff,Nat.reduceLeDiff,reduceIte,w64_id,cast_succ,d1])
  refine wM rfl ?_
  repeat (first|(with_reducible first|refine SW.seq ?_|refine q8 ?_|refine SW.rowC ?_|refine SW.skip ?_|refine SW.exit ?_|intro _|refine And.intro (by omega) ?_)|simp (disch:=(first|omega|(simp only [go_sem];try omega))) only [go_sem,Nat.reduceAdd,Nat.reduceEqDiff,Nat.reduceLeDiff,reduceIte,w64_id,cast_succ])
  refine SW.ret ?_;(try simp only [go_sem]);(first|refine qP ?_|refine qS ?_|refine qQ ?_);(try simp (disch:=(first|omega|(simp only [go_sem];try omega))) only [go_sem,Nat.reduceAdd,Nat.reduceEqDiff,Nat.reduceLeDiff,reduceIte,w64_id,cast_succ])
  exact GR.froz (froz_I' _) ⟨⟨-1,rfl,by omega,by omega,fun h=>by omega⟩,rfl⟩
 ·have d1 : decide (z < 0) = false:=decide_eq_false hz
  repeat (first|(with_reducible first|refine SW.seq ?_|refine q8 ?_|refine SW.rowC ?_|refine SW.skip ?_|refine SW.exit ?_|intro _|refine And.intro (by omega) ?_)|simp (disch:=(first|omega|(simp only [go_sem];try omega))) only [go_sem,Nat.reduceAdd,Nat.reduceEqDiff,Nat.reduceLeDiff,reduceIte,w64_id,cast_succ,d1])
  refine wE rfl ?_
  repeat (first|(with_reducible first|refine SW.seq ?_|refine q8 ?_|refine SW.rowC ?_|refine SW.skip ?_|refine SW.exit ?_|intro _|refine And.intro (by omega) ?_)|simp (disch:=(first|omega|(simp only [go_sem];try omega))) only [go_sem,Nat.reduceAdd,Nat.reduceEqDiff,Nat.reduceLeDiff,reduceIte,w64_id,cast_succ])
  refine SW.ret ?_;(try simp only [go_sem]);(first|refine qP ?_|refine qS ?_|refine qQ ?_);(try simp (disch:=(first|omega|(simp only [go_sem];try omega))) only [go_sem,Nat.reduceAdd,Nat.reduceEqDiff,Nat.reduceLeDiff,reduceIte,w64_id,cast_succ])
  exact GR.froz (froz_I' _) ⟨⟨_,rfl,g1,g2,g3⟩,rfl⟩
theorem szCode_ok (H : List Blk) (p d : Int) (L : List Int) (m : List (List Int)) (left : Int) (h0 : -1 ≤ left) (h1 : left ≤ 4611686018427387904) :
  ACalls Tryz.prog f_laws_szCode [.agg [I p,I d,ilS L,ilSS m],I left] H (fun r H'=>(∃ z : Int,r = I z ∧ -1 ≤ z ∧ z ≤ left ∧ (0 ≤ z → z = left - L.length - m.length - total m)) ∧ H' = H):=by
 refine ACalls.introB s_laws_szCode (by simp) ?_;intro hB hA;unfold c_laws_szCode;simp (disch:=(first|omega|(simp only [go_sem];try omega))) only [go_sem,Nat.reduceAdd,Nat.reduceEqDiff,Nat.reduceLeDiff,reduceIte,w64_id,cast_succ]
 repeat (first|(with_reducible first|refine SW.seq ?_|refine q8 ?_|refine SW.rowC ?_|refine SW.skip ?_|refine SW.exit ?_|intro _|refine And.intro (by omega) ?_)|simp (disch:=(first|omega|(simp only [go_sem];try omega))) only [go_sem,Nat.reduceAdd,Nat.reduceEqDiff,Nat.reduceLeDiff,reduceIte,w64_id,cast_succ])
 refine (szField_ok _ p d L left h0 h1).mono ?_
 rintro r H' ⟨⟨z,rfl,g1,g2,g3⟩,rfl⟩
 repeat (first|(with_reducible first|refine SW.seq ?_|refine q8 ?_|refine SW.rowC ?_|refine SW.skip ?_|refine SW.exit ?_|intro _|refine And.intro (by omega) ?_)|simp (disch:=(first|omega|(simp only [go_sem];try omega))) only [go_sem,Nat.reduceAdd,Nat.reduceEqDiff,Nat.reduceLeDiff,reduceIte,w64_id,cast_succ])
 by_cases hz : z < 0
 ·have d1 : decide (z < 0) = true:=decide_eq_true hz
  repeat (first|(with_reducible first|refine SW.seq ?_|refine q8 ?_|refine SW.rowC ?_|refine SW.skip ?_|refine SW.exit ?_|intro _|refine And.intro (by omega) ?_)|simp (disch:=(first|omega|(simp only [go_sem];try omega))) only [go_sem,Nat.reduceAdd,Nat.reduceEqDiff,Nat.reduceLeDiff,reduceIte,w64_id,cast_succ,d1])
  refine wM rfl ?_
  repeat (first|(with_reducible first|refine SW.seq ?_|refine q8 ?_|refine SW.rowC ?_|refine SW.skip ?_|refine SW.exit ?_|intro _|refine And.intro (by omega) ?_)|simp (disch:=(first|omega|(simp only [go_sem];try omega))) only [go_sem,Nat.reduceAdd,Nat.reduceEqDiff,Nat.reduceLeDiff,reduceIte,w64_id,cast_succ])
  refine SW.ret ?_;(try simp only [go_sem]);(first|refine qP ?_|refine qS ?_|refine qQ ?_);(try simp (disch:=(first|omega|(simp only [go_sem];try omega))) only [go_sem,Nat.reduceAdd,Nat.reduceEqDiff,Nat.reduceLeDiff,reduceIte,w64_id,cast_succ])
  exact GR.froz (froz_I' _) ⟨⟨-1,rfl,by omega,by omega,fun h=>by omega⟩,rfl⟩
 ·have d1 : decide (z < 0) = false:=decide_eq_false hz
  have g4:=g3 (by omega)
  repeat (first|(with_reducible first|refine SW.seq ?_|refine q8 ?_|refine SW.rowC ?_|refine SW.skip ?_|refine SW.exit ?_|intro _|refine And.intro (by omega) ?_)|simp (disch:=(first|omega|(simp only [go_sem];try omega))) only [go_sem,Nat.reduceAdd,Nat.reduceEqDiff,Nat.reduceLeDiff,reduceIte,w64_id,cast_succ,d1])
  refine wE rfl ?_
  repeat (first|(with_reducible first|refine SW.seq ?_|refine q8 ?_|refine SW.rowC ?_|refine SW.skip ?_|refine SW.exit ?_|intro _|refine And.intro (by omega) ?_)|simp (disch:=(first|omega|(simp only [go_sem];try omega))) only [go_sem,Nat.reduceAdd,Nat.reduceEqDiff,Nat.reduceLeDiff,reduceIte,w64_id,cast_succ])
  refine (szInt64SS_ok _ _ m z (rd_ilSS _ _) g1 (by omega)).mono ?_
  rintro r H' ⟨⟨y,rfl,k1,k2,k3⟩,rfl⟩
  repeat (first|(with_reducible first|refine SW.seq ?_|refine q8 ?_|refine SW.rowC ?_|refine SW.skip ?_|refine SW.exit ?_|intro _|refine And.intro (by omega) ?_)|simp (disch:=(first|omega|(simp only [go_sem];try omega))) only [go_sem,Nat.reduceAdd,Nat.reduceEqDiff,Nat.reduceLeDiff,reduceIte,w64_id,cast_succ])
  by_cases hy : y < 0
  ·have d2 : decide (y < 0) = true:=decide_eq_true hy
   repeat (first|(with_reducible first|refine SW.seq ?_|refine q8 ?_|refine SW.rowC ?_|refine SW.skip ?_|refine SW.exit ?_|intro _|refine And.intro (by omega) ?_)|simp (disch:=(first|omega|(simp only [go_sem];try omega))) only [go_sem,Nat.reduceAdd,Nat.reduceEqDiff,Nat.reduceLeDiff,reduceIte,w64_id,cast_succ,d2])
   refine wM rfl ?_
   repeat (first|(with_reducible first|refine SW.seq ?_|refine q8 ?_|refine SW.rowC ?_|refine SW.skip ?_|refine SW.exit ?_|intro _|refine And.intro (by omega) ?_)|simp (disch:=(first|omega|(simp only [go_sem];try omega))) only [go_sem,Nat.reduceAdd,Nat.reduceEqDiff,Nat.reduceLeDiff,reduceIte,w64_id,cast_succ])
   refine SW.ret ?_;(try simp only [go_sem]);(first|refine qP ?_|refine qS ?_|refine qQ ?_);(try simp (disch:=(first|omega|(simp only [go_sem];try omega))) only [go_sem,Nat.reduceAdd,Nat.reduceEqDiff,Nat.reduceLeDiff,reduceIte,w64_id,cast_succ])
   exact GR.froz (froz_I' _) ⟨⟨-1,rfl,by omega,by omega,fun h=>by omega⟩,rfl⟩
  ·have d2 : decide (y < 0) = false:=decide_eq_false hy
   have k4:=k3 (by omega)
   repeat (first|(with_reducible first|refine SW.seq ?_|refine q8 ?_|refine SW.rowC ?_|refine SW.skip ?_|refine SW.exit ?_|intro _|refine And.intro (by omega) ?_)|simp (disch:=(first|omega|(simp only [go_sem];try omega))) only [go_sem,Nat.reduceAdd,Nat.reduceEqDiff,Nat.reduceLeDiff,reduceIte,w64_id,cast_succ,d2])
   refine wE rfl ?_
   repeat (first|(with_reducible first|refine SW.seq ?_|refine q8 ?_|refine SW.rowC ?_|refine SW.skip ?_|refine SW.exit ?_|intro _|refine And.intro (by omega) ?_)|simp (disch:=(first|omega|(simp only [go_sem];try omega))) only [go_sem,Nat.reduceAdd,Nat.reduceEqDiff,Nat.reduceLeDiff,reduceIte,w64_id,cast_succ])
   refine SW.ret ?_;(try simp only [go_sem]);(first|refine qP ?_|refine qS ?_|refine qQ ?_);(try simp (disch:=(first|omega|(simp only [go_sem];try omega))) only [go_sem,Nat.reduceAdd,Nat.reduceEqDiff,Nat.reduceLeDiff,reduceIte,w64_id,cast_succ])
   exact GR.froz (froz_I' _) ⟨⟨_,rfl,by omega,by omega,fun _=>by omega⟩,rfl⟩
theorem toField_fn (p d : Int) (L : List Int) (hL : L.length ≤ 1073741824) : PFn Tryz.prog f_laws_toField [.agg [I p,I d,ilS L]] (.agg [I p,I d,ilS L]):=by
 intro H;refine ACalls.introB s_laws_toField (by simp) ?_;intro hB hA;unfold c_laws_toField;simp (disch:=(first|omega|(simp only [go_sem];try omega))) only [go_sem,Nat.reduceAdd,Nat.reduceEqDiff,Nat.reduceLeDiff,reduceIte,w64_id,cast_succ]
 repeat (first|(with_reducible first|refine SW.seq ?_|refine q8 ?_|refine SW.rowC ?_|refine SW.skip ?_|refine SW.exit ?_|refine PFn.use (toInt64S_fn L hL) ?_|refine PFn.useq (toInt64S_fn L hL) ?_|intro _|refine And.intro (by omega) ?_)|simp (disch:=(first|omega|(simp only [go_sem];try omega))) only [go_sem,Nat.reduceAdd,Nat.reduceEqDiff,Nat.reduceLeDiff,reduceIte,w64_id,cast_succ])
 refine SW.ret ?_
 refine zE (cs:=[I p,I d,ilS L]) (by simp [go_sem,acells]) ?_
 refine GR.drop ?_ ?_
 ·(simp only [go_sem,Nat.reduceAdd,Nat.reduceEqDiff,reduceIte,go_sem,and_self,and_true,true_and,implies_true,qI,qO,and_true,true_and];try omega)
 ·exact ⟨rfl,rfl⟩
theorem toCode_fn (p d : Int) (L : List Int) (m : List (List Int)) (hL : L.length ≤ 1073741824) (hs : m.length ≤ 1073741824) (hs' : ∀ xs ∈ m,xs.length ≤ 1073741824) : PFn Tryz.prog f_laws_toCode [.agg [I p,I d,ilS L,ilSS m]] (.agg [I p,I d,ilS L,ilSS m]):=by
 intro H;refine ACalls.introB s_laws_toCode (by simp) ?_;intro hB hA;unfold c_laws_toCode;simp (disch:=(first|omega|(simp only [go_sem];try omega))) only [go_sem,Nat.reduceAdd,Nat.reduceEqDiff,Nat.reduceLeDiff,reduceIte,w64_id,cast_succ]
 repeat (first|(with_reducible first|refine SW.seq ?_|refine q8 ?_|refine SW.rowC ?_|refine SW.skip ?_|refine SW.exit ?_|refine PFn.use (toField_fn p d L hL) ?_|refine PFn.useq (toField_fn p d L hL) ?_|refine PFn.use (toInt64SS_fn m hs hs') ?_|refine PFn.useq (toInt64SS_fn m hs hs') ?_|intro _|refine And.intro (by omega) ?_)|simp (disch:=(first|omega|(simp only [go_sem];try omega))) only [go_sem,Nat.reduceAdd,Nat.reduceEqDiff,Nat.reduceLeDiff,reduceIte,w64_id,cast_succ])
 refine SW.ret ?_
 refine zE (cs:=[I p,I d,ilS L,ilSS m]) (by simp [go_sem,acells]) ?_
 refine GR.drop ?_ ?_
 ·(simp only [go_sem,Nat.reduceAdd,Nat.reduceEqDiff,reduceIte,go_sem,and_self,and_true,true_and,implies_true,qI,qO,and_true,true_and];try omega)
 ·exact ⟨rfl,rfl⟩
theorem toField_ok (H : List Blk) (p d : Int) (L : List Int) (hL : L.length ≤ 1073741824) : ACalls Tryz.prog f_laws_toField [.agg [I p,I d,ilS L]] H (fun r H'=>∃ b1 b2 b3,H' = H ++ [b1,b2,b3,⟨0,2,1,L.map I⟩] ∧ r = .agg [I p,I d,.nm (H.length + 3) 0 0 L.length]):=by
 refine ACalls.introB s_laws_toField (by simp) ?_;intro hB hA;unfold c_laws_toField;simp (disch:=(first|omega|(simp only [go_sem];try omega))) only [go_sem,Nat.reduceAdd,Nat.reduceEqDiff,Nat.reduceLeDiff,reduceIte,w64_id,cast_succ]
 repeat (first|(with_reducible first|refine SW.seq ?_|refine q8 ?_|refine SW.rowC ?_|refine SW.skip ?_|refine SW.exit ?_|intro _|refine And.intro (by omega) ?_)|simp (disch:=(first|omega|(simp only [go_sem];try omega))) only [go_sem,Nat.reduceAdd,Nat.reduceEqDiff,Nat.reduceLeDiff,reduceIte,w64_id,cast_succ])
 refine (toInt64S_ok _ _ L (rd_ilS _ _) hL).mono ?_
 rintro r X ⟨rfl,rfl⟩
 repeat (first|(with_reducible first|refine SW.seq ?_|refine q8 ?_|refine SW.rowC ?_|refine SW.skip ?_|refine SW.exit ?_|intro _|refine And.intro (by omega) ?_)|simp (disch:=(first|omega|(simp only [go_sem];try omega))) only [go_sem,Nat.reduceAdd,Nat.reduceEqDiff,Nat.reduceLeDiff,reduceIte,w64_id,cast_succ])
 refine SW.ret (zE (cs:=[I p,I d,.nm (H.length + 3) 0 0 L.length]) (by simp [go_sem,acells]) (GR.of ⟨_,_,_,rfl,rfl⟩))
theorem toCode_ok (H : List Blk) (p d : Int) (L : List Int) (m : List (List Int)) (hL : L.length ≤ 1073741824) (hs : m.length ≤ 1073741824) (hs' : ∀ xs ∈ m,xs.length ≤ 1073741824) :
  ACalls Tryz.prog f_laws_toCode [.agg [I p,I d,ilS L,ilSS m]] H (fun r H'=>∃ ext a u v,H' = H ++ ext ∧ r = .agg [I p,I d,u,v] ∧ H.length ≤ a ∧ a < H'.length ∧ OwnS H' (fun j=>j = a) H'.length u L ∧ OwnSS H' (Btw (a + 1) H'.length) v m):=by
 refine ACalls.introB s_laws_toCode (by simp) ?_;intro hB hA;unfold c_laws_toCode;simp (disch:=(first|omega|(simp only [go_sem];try omega))) only [go_sem,Nat.reduceAdd,Nat.reduceEqDiff,Nat.reduceLeDiff,reduceIte,w64_id,cast_succ]
 repeat (first|(with_reducible first|refine SW.seq ?_|refine q8 ?_|refine SW.rowC ?_|refine SW.skip ?_|refine SW.exit ?_|intro _|refine And.intro (by omega) ?_)|simp (disch:=(first|omega|(simp only [go_sem];try omega))) only [go_sem,Nat.reduceAdd,Nat.reduceEqDiff,Nat.reduceLeDiff,reduceIte,w64_id,cast_succ])
 refine (toField_ok _ p d L hL).mono ?_
 rintro r X ⟨b1,b2,b3,rfl,rfl⟩
 repeat (first|(with_reducible first|refine SW.seq ?_|refine q8 ?_|refine SW.rowC ?_|refine SW.skip ?_|refine SW.exit ?_|intro _|refine And.intro (by omega) ?_)|simp (disch:=(first|omega|(simp only [go_sem];try omega))) only [go_sem,Nat.reduceAdd,Nat.reduceEqDiff,Nat.reduceLeDiff,reduceIte,w64_id,cast_succ])
 refine (toInt64SS_ok _ _ m (rd_ilSS _ _) hs hs').mono ?_
 rintro r X ⟨rfl,rfl⟩
 repeat (first|(with_reducible first|refine SW.seq ?_|refine q8 ?_|refine SW.rowC ?_|refine SW.skip ?_|refine SW.exit ?_|intro _|refine And.intro (by omega) ?_)|simp (disch:=(first|omega|(simp only [go_sem];try omega))) only [go_sem,Nat.reduceAdd,Nat.reduceEqDiff,Nat.reduceLeDiff,reduceIte,w64_id,cast_succ])
 refine SW.ret (zE (cs:=[I p,I d,.nm (H.length + 3 + 3) 0 0 L.length,.nm (H.length + 7) 0 0 m.length]) (by simp [go_sem,acells]) (GR.of ?_))
 refine ⟨_,H.length + 6,_,_,rfl,rfl,by omega,by simp,.inl ⟨H.length + 6,0,2,rfl,rfl,by simp,by simp⟩,?_⟩
 have h1:=OwnC.names (H:=H ++ [(⟨0,27,1,[I p,I d,ilS L,ilSS m]⟩ : Blk),⟨0,36,1,[I p,I d,.nm (H.length + 3 + 3) 0 0 L.length,.nm (H.length + 7) 0 0 m.length]⟩,⟨0,36,1,[I p,I d,.nm (H.length + 3 + 3) 0 0 L.length,.nm (H.length + 7) 0 0 m.length]⟩,b1,b2,b3,⟨0,2,1,L.map I⟩]) (ext:=[]) (ver:=0) (ty:=tySS) m
 simp only [List.length_append,List.length_cons,List.length_nil,Nat.zero_add,Nat.reduceAdd,List.append_nil,List.append_assoc,List.cons_append,List.nil_append] at h1
 refine .inl ⟨H.length + 7,0,tySS,nmsB (H.length + 7 + 1) m,rfl,h1.weak (fun r g1 g2=>⟨by unfold Btw at g1;omega,by simpa using g2⟩)⟩
theorem eqField_ok (H : List Blk) (p d p' d' : Int) (a b : AV) (xs ys : List Int) (ca : a.cell1 = true) (cb : b.cell1 = true) (ha : RdS H a xs) (hb : RdS H b ys) (hp : p = p') (hd : d = d') (he : xs = ys) :
  ACalls Tryz.prog f_laws_eqField [.agg [I p,I d,a],.agg [I p',I d',b]] H (fun r H'=>r = Bv true ∧ H' = H):=by
 subst hp;subst hd;subst he
 refine ACalls.introB s_laws_eqField (by simp) ?_;intro hB hA;unfold c_laws_eqField;simp (disch:=(first|omega|(simp only [go_sem];try omega))) only [go_sem,Nat.reduceAdd,Nat.reduceEqDiff,Nat.reduceLeDiff,reduceIte,w64_id,cast_succ]
 repeat (first|(with_reducible first|refine SW.seq ?_|refine q8 ?_|refine SW.rowC ?_|refine SW.skip ?_|refine SW.exit ?_|intro _|refine And.intro (by omega) ?_)|simp (disch:=(first|omega|(simp only [go_sem];try omega))) only [go_sem,Nat.reduceAdd,Nat.reduceEqDiff,Nat.reduceLeDiff,reduceIte,w64_id,cast_succ,ca,cb])
 refine wE rfl ?_
 repeat (first|(with_reducible first|refine SW.seq ?_|refine q8 ?_|refine SW.rowC ?_|refine SW.skip ?_|refine SW.exit ?_|intro _|refine And.intro (by omega) ?_)|simp (disch:=(first|omega|(simp only [go_sem];try omega))) only [go_sem,Nat.reduceAdd,Nat.reduceEqDiff,Nat.reduceLeDiff,reduceIte,w64_id,cast_succ,ca,cb])
 refine wE rfl ?_
 repeat (first|(with_reducible first|refine SW.seq ?_|refine q8 ?_|refine SW.rowC ?_|refine SW.skip ?_|refine SW.exit ?_|intro _|refine And.intro (by omega) ?_)|simp (disch:=(first|omega|(simp only [go_sem];try omega))) only [go_sem,Nat.reduceAdd,Nat.reduceEqDiff,Nat.reduceLeDiff,reduceIte,w64_id,cast_succ,ca,cb])
 refine ACalls.fn (eqInt64S_ok _ a b xs xs (ha.append _) (hb.append _)) ?_
 rw [show decide (xs = xs) = true by simp]
 repeat (first|(with_reducible first|refine SW.seq ?_|refine q8 ?_|refine SW.rowC ?_|refine SW.skip ?_|refine SW.exit ?_|intro _|refine And.intro (by omega) ?_)|simp (disch:=(first|omega|(simp only [go_sem];try omega))) only [go_sem,Nat.reduceAdd,Nat.reduceEqDiff,Nat.reduceLeDiff,reduceIte,w64_id,cast_succ])
 refine wE rfl ?_
 repeat (first|(with_reducible first|refine SW.seq ?_|refine q8 ?_|refine SW.rowC ?_|refine SW.skip ?_|refine SW.exit ?_|intro _|refine And.intro (by omega) ?_)|simp (disch:=(first|omega|(simp only [go_sem];try omega))) only [go_sem,Nat.reduceAdd,Nat.reduceEqDiff,Nat.reduceLeDiff,reduceIte,w64_id,cast_succ])
 refine SW.ret ?_;(try simp only [go_sem]);(first|refine qP ?_|refine qS ?_|refine qQ ?_);(try simp (disch:=(first|omega|(simp only [go_sem];try omega))) only [go_sem,Nat.reduceAdd,Nat.reduceEqDiff,Nat.reduceLeDiff,reduceIte,w64_id,cast_succ]);(first|(with_reducible refine GR.drop ?_ ?_;(simp only [go_sem,and_self,and_true,true_and,implies_true,qI,qO]))|refine GR.of ?_);refine ⟨?_,rfl⟩;(try with_reducible rfl)
theorem eqCode_ok (H : List Blk) (p d : Int) (a b u v : AV) (xs : List Int) (m : List (List Int)) (ca : a.cell1 = true) (cb : b.cell1 = true) (cu : u.cell1 = true) (cv : v.cell1 = true) (ha : RdS H a xs) (hb : RdS H b xs) (hu : RdSS H u m) (hv : RdSS H v m) :
  ACalls Tryz.prog f_laws_eqCode [.agg [I p,I d,a,u],.agg [I p,I d,b,v]] H (fun r H'=>r = Bv true ∧ H' = H):=by
 refine ACalls.introB s_laws_eqCode (by simp) ?_;intro hB hA;unfold c_laws_eqCode;simp (disch:=(first|omega|(simp only [go_sem];try omega))) only [go_sem,Nat.reduceAdd,Nat.reduceEqDiff,Nat.reduceLeDiff,reduceIte,w64_id,cast_succ]
 repeat (first|(with_reducible first|refine SW.seq ?_|refine q8 ?_|refine SW.rowC ?_|refine SW.skip ?_|refine SW.exit ?_|intro _|refine And.intro (by omega) ?_)|simp (disch:=(first|omega|(simp only [go_sem];try omega))) only [go_sem,Nat.reduceAdd,Nat.reduceEqDiff,Nat.reduceLeDiff,reduceIte,w64_id,cast_succ,ca,cb,cu,cv])
 refine (eqField_ok _ p d p d a b xs xs ca cb (ha.append _) (hb.append _) rfl rfl rfl).mono ?_
 rintro r Z ⟨rfl,rfl⟩
 repeat (first|(with_reducible first|refine SW.seq ?_|refine q8 ?_|refine SW.rowC ?_|refine SW.skip ?_|refine SW.exit ?_|intro _|refine And.intro (by omega) ?_)|simp (disch:=(first|omega|(simp only [go_sem];try omega))) only [go_sem,Nat.reduceAdd,Nat.reduceEqDiff,Nat.reduceLeDiff,reduceIte,w64_id,cast_succ])
 refine wE rfl ?_
 repeat (first|(with_reducible first|refine SW.seq ?_|refine q8 ?_|refine SW.rowC ?_|refine SW.skip ?_|refine SW.exit ?_|intro _|refine And.intro (by omega) ?_)|simp (disch:=(first|omega|(simp only [go_sem];try omega))) only [go_sem,Nat.reduceAdd,Nat.reduceEqDiff,Nat.reduceLeDiff,reduceIte,w64_id,cast_succ,ca,cb,cu,cv])
 refine ACalls.fn (eqInt64SS_ok _ u v m m (hu.append _) (hv.append _)) ?_
 rw [show decide (m = m) = true by simp]
 repeat (first|(with_reducible first|refine SW.seq ?_|refine q8 ?_|refine SW.rowC ?_|refine SW.skip ?_|refine SW.exit ?_|intro _|refine And.intro (by omega) ?_)|simp (disch:=(first|omega|(simp only [go_sem];try omega))) only [go_sem,Nat.reduceAdd,Nat.reduceEqDiff,Nat.reduceLeDiff,reduceIte,w64_id,cast_succ])
 refine wE rfl ?_
 repeat (first|(with_reducible first|refine SW.seq ?_|refine q8 ?_|refine SW.rowC ?_|refine SW.skip ?_|refine SW.exit ?_|intro _|refine And.intro (by omega) ?_)|simp (disch:=(first|omega|(simp only [go_sem];try omega))) only [go_sem,Nat.reduceAdd,Nat.reduceEqDiff,Nat.reduceLeDiff,reduceIte,w64_id,cast_succ])
 refine SW.ret ?_;(try simp only [go_sem]);(first|refine qP ?_|refine qS ?_|refine qQ ?_);(try simp (disch:=(first|omega|(simp only [go_sem];try omega))) only [go_sem,Nat.reduceAdd,Nat.reduceEqDiff,Nat.reduceLeDiff,reduceIte,w64_id,cast_succ]);(first|(with_reducible refine GR.drop ?_ ?_;(simp only [go_sem,and_self,and_true,true_and,implies_true,qI,qO]))|refine GR.of ?_);refine ⟨?_,rfl⟩;(try with_reducible rfl)
theorem markField_ok (H : List Blk) (N : Nat → Prop) (t : Nat) (p d : Int) (a : AV) (xs : List Int) (k : Int) (ca : a.cell1 = true) (ha : OwnS H N t a xs) (hk0 : 0 ≤ k) (hk : k + xs.length ≤ 4611686018427387904) :
  ACalls Tryz.prog f_laws_markField [.agg [I p,I d,a],I k] H (fun r H'=>r = I (k + xs.length) ∧ H.length ≤ H'.length ∧ ∀ j,¬ N j → j < H.length → H'[j]? = H[j]?):=by
 refine ACalls.introB s_laws_markField (by simp) ?_;intro hB hA;unfold c_laws_markField;simp (disch:=(first|omega|(simp only [go_sem];try omega))) only [go_sem,Nat.reduceAdd,Nat.reduceEqDiff,Nat.reduceLeDiff,reduceIte,w64_id,cast_succ]
 repeat (first|(with_reducible first|refine SW.seq ?_|refine q8 ?_|refine SW.rowC ?_|refine SW.skip ?_|refine SW.exit ?_|intro _|refine And.intro (by omega) ?_)|simp (disch:=(first|omega|(simp only [go_sem];try omega))) only [go_sem,Nat.reduceAdd,Nat.reduceEqDiff,Nat.reduceLeDiff,reduceIte,w64_id,cast_succ,ca])
 refine (markS_ok _ N t a xs k (ha.appG _) hk0 hk).mono ?_
 rintro r Z ⟨rfl,-,g2,g3⟩
 repeat (first|(with_reducible first|refine SW.seq ?_|refine q8 ?_|refine SW.rowC ?_|refine SW.skip ?_|refine SW.exit ?_|intro _|refine And.intro (by omega) ?_)|simp (disch:=(first|omega|(simp only [go_sem];try omega))) only [go_sem,Nat.reduceAdd,Nat.reduceEqDiff,Nat.reduceLeDiff,reduceIte,w64_id,cast_succ])
 refine SW.ret ?_;(try simp only [go_sem]);(first|refine qP ?_|refine qS ?_|refine qQ ?_);(try simp (disch:=(first|omega|(simp only [go_sem];try omega))) only [go_sem,Nat.reduceAdd,Nat.reduceEqDiff,Nat.reduceLeDiff,reduceIte,w64_id,cast_succ])
 refine GR.of ⟨rfl,by rw [g2];simp,fun j h1 h2=>?_⟩
 rw [g3 j h1,qN h2]
theorem markCode_ok (H : List Blk) (N M : Nat → Prop) (t : Nat) (p d : Int) (a u : AV) (xs : List Int) (m : List (List Int)) (k : Int) (ca : a.cell1 = true) (cu : u.cell1 = true) (ha : OwnS H N t a xs) (hu : OwnSS H M u m) (hNM : ∀ j,M j → ¬ N j) (hNn : ¬ N H.length) (hlt : ∀ j,M j → j < H.length) (hk0 : 0 ≤ k) (hk : k + xs.length + total m ≤ 4611686018427387904) :
  ACalls Tryz.prog f_laws_markCode [.agg [I p,I d,a,u],I k] H (fun r H'=>r = I (k + xs.length + total m) ∧ H.length ≤ H'.length ∧ ∀ j,¬ N j → ¬ M j → j < H.length → H'[j]? = H[j]?):=by
 refine ACalls.introB s_laws_markCode (by simp) ?_;intro hB hA;unfold c_laws_markCode;simp (disch:=(first|omega|(simp only [go_sem];try omega))) only [go_sem,Nat.reduceAdd,Nat.reduceEqDiff,Nat.reduceLeDiff,reduceIte,w64_id,cast_succ]
 repeat (first|(with_reducible first|refine SW.seq ?_|refine q8 ?_|refine SW.rowC ?_|refine SW.skip ?_|refine SW.exit ?_|intro _|refine And.intro (by omega) ?_)|simp (disch:=(first|omega|(simp only [go_sem];try omega))) only [go_sem,Nat.reduceAdd,Nat.reduceEqDiff,Nat.reduceLeDiff,reduceIte,w64_id,cast_succ,ca,cu])
 refine (markField_ok _ N t p d a xs k ca (ha.appG _) hk0 (by omega)).mono ?_
 rintro r Z ⟨rfl,g2,g3⟩
 have hz : Z[H.length]? = some ⟨0,36,1,[I p,I d,a,u]⟩:=by
  rw [g3 H.length hNn (by simp)];simp
 have hua:=fun o=>pc_alive (off:=o) hz
 have hul:=fun o=>pc_ld (off:=o) hz
 have hu2 : OwnSS Z M u m:=(hu.append [(⟨0,36,1,[I p,I d,a,u]⟩ : Blk)]).same (fun j b h1 h2=>by
  rw [g3 j (hNM j h1) (by have:=hlt j h1;simp;omega)];exact h2)
 repeat (first|(with_reducible first|refine SW.seq ?_|refine q8 ?_|refine SW.rowC ?_|refine SW.skip ?_|refine SW.exit ?_|intro _|refine And.intro (by omega) ?_)|simp (disch:=(first|omega|(simp only [go_sem];try omega))) only [go_sem,Nat.reduceAdd,Nat.reduceEqDiff,Nat.reduceLeDiff,reduceIte,w64_id,cast_succ,hua,hul,ca,cu])
 refine (markInt64SS_ok _ M u m (k + xs.length) hu2 (by omega) hk).mono ?_
 rintro r Z2 ⟨rfl,-,e2,e3⟩
 repeat (first|(with_reducible first|refine SW.seq ?_|refine q8 ?_|refine SW.rowC ?_|refine SW.skip ?_|refine SW.exit ?_|intro _|refine And.intro (by omega) ?_)|simp (disch:=(first|omega|(simp only [go_sem];try omega))) only [go_sem,Nat.reduceAdd,Nat.reduceEqDiff,Nat.reduceLeDiff,reduceIte,w64_id,cast_succ])
 refine SW.ret ?_;(try simp only [go_sem]);(first|refine qP ?_|refine qS ?_|refine qQ ?_);(try simp (disch:=(first|omega|(simp only [go_sem];try omega))) only [go_sem,Nat.reduceAdd,Nat.reduceEqDiff,Nat.reduceLeDiff,reduceIte,w64_id,cast_succ])
 refine GR.of ⟨rfl,by rw [e2];simp at g2;omega,fun j h1 h2 h3=>?_⟩
 rw [e3 j h2,g3 j h1 (by simp;omega),qN h3]
end Go.Proofs.YtclfmfabcnbbpaaGreat