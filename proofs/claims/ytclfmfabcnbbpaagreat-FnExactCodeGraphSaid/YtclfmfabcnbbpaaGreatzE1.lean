/- Edges: compared, sorted, made single. -/
import Derived.Test.YtclfmfabcnbbpaaGreatProg
import Derived.KernelRfl
import Derived.Test.YtclfmfabcnbbpaaGreatzS6
import Derived.Test.YtclfmfabcnbbpaaGreatzS3
import Derived.Test.YtclfmfabcnbbpaaGreatzLs
import Derived.Test.YtclfmfabcnbbpaaGreatzK2
import Derived.Test.YtclfmfabcnbbpaaGreatzU1
import Derived.Test.YtclfmfabcnbbpaaGreatzL2
set_option linter.unusedSimpArgs false
set_option linter.unusedVariables false
set_option maxHeartbeats 4000000
set_option maxRecDepth 100000
open Go.Operand renaming tmp→t'
open Option renaming none→n',some→s'
open List renaming drop_zero→x8,take_of_length_le→qW,take_succ_cons→qI,take_zero→qO,getD_eq_getElem?_getD→qE,getElem?_eq_getElem→qB,getElem?_eq_some_iff→qC,getElem?_set_self→qY
open Go.Av.SW renaming block→q8,loopE→wJ,condT→wM,condF→wE,condD→wK,condN→wL,condNB→wF,condB→wH
open Go.Av.SLoop renaming next→wB
open Go.Av.FunPost renaming one→qP,two→qS,three→qQ
namespace Go.Proofs.YtclfmfabcnbbpaaGreat
open Go.Shelf Go.RowKit Go.Lib Go.Sort Go.Av
abbrev f_impl_compareEdges : Nat:=94
def c_impl_compareEdges : SC :=
 .seq (.reg [⟨s' 2,.box 70 (t' 0),n'⟩,⟨s' 3,.box 70 (t' 1),n'⟩,⟨s' 4,.mv (.const (.int .i64 0)),n'⟩] [2,3]) (.seq (.reg [⟨s' 5,.faddr 0 (t' 2),n'⟩,⟨s' 6,.load 1 false (t' 5),n'⟩,
 ⟨s' 7,.faddr 0 (t' 3),n'⟩,⟨s' 8,.load 1 false (t' 7),n'⟩,⟨s' 9,.qcall 106 [(t' 6),(t' 8)],n'⟩,⟨s' 10,.faddr 1 (t' 2),n'⟩,⟨s' 11,.load 1 false (t' 10),n'⟩,
 ⟨s' 12,.faddr 1 (t' 3),n'⟩,⟨s' 13,.load 1 false (t' 12),n'⟩,⟨s' 14,.qcall 106 [(t' 11),(t' 13)],n'⟩,
 ⟨s' 15,.bslice 3 1 2 [(.int .i64 0),(.int .i64 0)] [(0,(t' 9)),(1,(t' 14))],n'⟩,⟨s' 16,.qcall 105 [(t' 15)],n'⟩,⟨s' 4,.mv (t' 16),n'⟩] [4]) (.ret))
theorem s_impl_compareEdges : stripF Tryz.prog 94 [[2,3],[4]] = some (c_impl_compareEdges,[.tmp 4],17):=by kernel_rfl
abbrev f_slices_Compact_Limpl_Edge_impl_Edge : Nat:=95
def c_slices_Compact_Limpl_Edge_impl_Edge : SC :=
 .seq (.reg [⟨s' 2,.mv (.const (.slice none 0 0)),n'⟩] [0]) (.seq (.seq (.reg [⟨s' 6,.mv (t' 0),n'⟩,⟨s' 7,.len (t' 6),n'⟩,⟨s' 8,.bin .lss (t' 7) (.const (.int .i64 2)),n'⟩] [0,8])
 (.cond (t' 8) (.seq (.reg [⟨s' 9,.mv (t' 0),n'⟩,⟨s' 2,.mv (t' 9),n'⟩] [2]) (.ret)) (.skip))) (.seq (.seq (.reg [⟨s' 3,.mv (.const (.int .i64 1)),n'⟩] [0,3]) (.block 0 (.loop [0,3]
 (.seq (.seq (.reg [⟨s' 10,.mv (t' 3),n'⟩,⟨s' 11,.mv (t' 0),n'⟩,⟨s' 12,.len (t' 11),n'⟩,⟨s' 13,.bin .lss (t' 10) (t' 12),n'⟩] [0,3,13]) (.cond (t' 13) (.skip) (.exit 0)))
 (.seq (.block 1 (.seq (.reg [⟨s' 16,.mv (t' 0),n'⟩,⟨s' 17,.mv (t' 3),n'⟩,⟨s' 18,.iaddr 2 (t' 16) (t' 17),n'⟩,⟨s' 19,.load 2 true (t' 18),n'⟩,⟨s' 20,.mv (t' 0),n'⟩,
 ⟨s' 21,.mv (t' 3),n'⟩,⟨s' 22,.bin .sub (t' 21) (.const (.int .i64 1)),n'⟩,⟨s' 23,.iaddr 2 (t' 20) (t' 22),n'⟩,⟨s' 24,.load 2 true (t' 23),n'⟩,
 ⟨s' 25,.eqs false (t' 19) (t' 24),n'⟩] [0,3,25]) (.cond (t' 25) (.seq (.reg [⟨s' 26,.mv (t' 0),n'⟩,⟨s' 27,.mv (t' 3),n'⟩,⟨s' 28,.slc 2 (t' 26) (some (t' 27)) none,n'⟩,
 ⟨s' 4,.mv (t' 28),n'⟩] [0,3,4]) (.seq (.seq (.reg [⟨s' 5,.mv (.const (.int .i64 1)),n'⟩] [0,3,4,5]) (.block 2 (.loop [0,3,4,5] (.seq (.seq (.reg [⟨s' 29,.mv (t' 5),n'⟩,
 ⟨s' 30,.mv (t' 4),n'⟩,⟨s' 31,.len (t' 30),n'⟩,⟨s' 32,.bin .lss (t' 29) (t' 31),n'⟩] [0,3,4,5,32]) (.cond (t' 32) (.skip) (.exit 2))) (.seq (.block 3 (.seq (.reg [
 ⟨s' 35,.mv (t' 4),n'⟩,⟨s' 36,.mv (t' 5),n'⟩,⟨s' 37,.iaddr 2 (t' 35) (t' 36),n'⟩,⟨s' 38,.load 2 true (t' 37),n'⟩,⟨s' 39,.mv (t' 4),n'⟩,⟨s' 40,.mv (t' 5),n'⟩,
 ⟨s' 41,.bin .sub (t' 40) (.const (.int .i64 1)),n'⟩,⟨s' 42,.iaddr 2 (t' 39) (t' 41),n'⟩,⟨s' 43,.load 2 true (t' 42),n'⟩,⟨s' 44,.eqs true (t' 38) (t' 43),n'⟩] [0,3,4,5,44])
 (.cond (t' 44) (.seq (.reg [⟨s' 45,.mv (t' 0),n'⟩,⟨s' 46,.mv (t' 3),n'⟩,⟨s' 47,.mv (t' 4),n'⟩,⟨s' 48,.mv (t' 5),n'⟩,⟨s' 49,.iaddr 2 (t' 47) (t' 48),n'⟩,
 ⟨s' 50,.load 2 true (t' 49),n'⟩,⟨s' 51,.iaddr 2 (t' 45) (t' 46),n'⟩,⟨n',.store 2 (t' 51) (t' 50),n'⟩] [0,3,4,5]) (.reg [⟨s' 52,.mv (t' 3),n'⟩,
 ⟨s' 53,.bin .add (t' 52) (.const (.int .i64 1)),n'⟩,⟨s' 3,.mv (t' 53),n'⟩] [0,3,4,5])) (.skip)))) (.reg [⟨s' 33,.mv (t' 5),n'⟩,
 ⟨s' 34,.bin .add (t' 33) (.const (.int .i64 1)),n'⟩,⟨s' 5,.mv (t' 34),n'⟩] [0,3,4,5])))))) (.seq (.reg [⟨s' 54,.mv (t' 0),n'⟩,⟨s' 55,.mv (t' 3),n'⟩,
 ⟨s' 56,.slc 2 (t' 54) (some (t' 55)) none,n'⟩,⟨n',.bad,n'⟩] [0,3]) (.seq (.reg [⟨s' 57,.mv (t' 0),n'⟩,⟨s' 58,.mv (t' 3),n'⟩,⟨s' 59,.slc 2 (t' 57) none (some (t' 58)),n'⟩,
 ⟨s' 2,.mv (t' 59),n'⟩] [2]) (.ret))))) (.skip)))) (.reg [⟨s' 14,.mv (t' 3),n'⟩,⟨s' 15,.bin .add (t' 14) (.const (.int .i64 1)),n'⟩,⟨s' 3,.mv (t' 15),n'⟩] [0,3])))))) (.seq (.reg [
 ⟨s' 60,.mv (t' 0),n'⟩,⟨s' 2,.mv (t' 60),n'⟩] [2]) (.ret))))
theorem s_slices_Compact_Limpl_Edge_impl_Edge : stripF Tryz.prog 95 [[0],[0,8],[2],[0,3],[0,3],[0,3,13],[0,3,25],[0,3,4],[0,3,4,5],[0,3,4,5],[0,3,4,5,32],[0,3,4,5,44],[0,3,4,5],[0,3,4,5],[0,3,4,5],[0,3],[2],[0,3],[2]] = some (c_slices_Compact_Limpl_Edge_impl_Edge,[.tmp 2],61):=by kernel_rfl
abbrev f_cmp_Or_int : Nat:=105
def c_cmp_Or_int : SC :=
 .seq (.reg [⟨s' 2,.mv (.const (.int .i64 0)),n'⟩] [0]) (.seq (.reg [⟨s' 3,.mv (.const (.int .i64 0)),n'⟩] [0,3]) (.seq (.seq (.reg [⟨s' 6,.mv (t' 0),n'⟩,⟨s' 7,.len (t' 6),n'⟩,
 ⟨s' 8,.mv (.const (.int .i64 0)),n'⟩] [3,6,7,8]) (.block 0 (.loop [3,6,7,8] (.seq (.reg [⟨s' 9,.bin .lss (t' 8) (t' 7),n'⟩] [3,6,7,8,9]) (.seq (.cond (t' 9) (.skip) (.exit 0))
 (.seq (.block 1 (.seq (.reg [⟨s' 10,.iaddr 1 (t' 6) (t' 8),n'⟩,⟨s' 11,.load 1 false (t' 10),n'⟩,⟨s' 5,.mv (t' 11),n'⟩] [3,5,6,7,8]) (.seq (.reg [⟨s' 12,.mv (t' 5),n'⟩,
 ⟨s' 13,.mv (t' 3),n'⟩,⟨s' 14,.bin .neq (t' 12) (t' 13),n'⟩] [3,5,6,7,8,14]) (.cond (t' 14) (.seq (.reg [⟨s' 15,.mv (t' 5),n'⟩,⟨s' 2,.mv (t' 15),n'⟩] [2]) (.ret)) (.skip)))))
 (.reg [⟨s' 16,.bin .add (t' 8) (.const (.int .i64 1)),n'⟩,⟨s' 8,.mv (t' 16),n'⟩] [3,6,7,8]))))))) (.seq (.reg [⟨s' 17,.mv (t' 3),n'⟩,⟨s' 2,.mv (t' 17),n'⟩] [2]) (.ret))))
theorem s_cmp_Or_int : stripF Tryz.prog 105 [[0],[0,3],[3,6,7,8],[3,6,7,8],[3,6,7,8,9],[3,5,6,7,8],[3,5,6,7,8,14],[2],[3,6,7,8],[2]] = some (c_cmp_Or_int,[.tmp 2],18):=by kernel_rfl
abbrev tyE : Nat:=70
abbrev n_SortE : Nat:=93
theorem sortE_p : SortsE Tryz.prog n_SortE:=fun cf hO g cb blk off cap d w eg hcmp hH hblk hsz =>
 AnyQ.slices_SortFunc Tryz.sortE 2 (fun w=>by kernel_rfl) (fun w=>by kernel_rfl) encE (fun _=>rfl) (fun x v hv=>by simp only [encE,List.mem_cons,List.not_mem_nil,or_false] at hv;rcases hv with rfl|rfl <;> rfl) cf hO g cb blk off cap d w eg hcmp hH hblk hsz
theorem sortE_n : SortsN Tryz.prog n_SortE:=fun p cap fv w=>AnyF.slices_SortFunc_none Tryz.sortE p cap fv w
def ilE (es : List (Int × Int)) : AV:=.il es.length (flatE es)
def RdE (H : List Blk) (a : AV) (es : List (Int × Int)) : Prop:=aview H a = some (es.length,flatE es)
theorem rd_ilE (H : List Blk) (es : List (Int × Int)) : RdE H (ilE es) es:=rfl
theorem rd_nmE {H : List Blk} {i ver ty : Nat} {es : List (Int × Int)} (h : H[i]? = some ⟨ver,ty,2,flatE es⟩) : RdE H (.nm i ver 0 es.length) es:=by
 unfold RdE
 simp only [aview,h,if_true,x8]
 rw [qW (by rw [flatE_length];omega)]
theorem RdE.append {H : List Blk} {a : AV} {es : List (Int × Int)} (h : RdE H a es) (ext : List Blk) : RdE (H ++ ext) a es:=aview_append h ext
theorem flatE_drop : ∀ (es : List (Int × Int)) (j : Nat),j < es.length → ((flatE es).drop (j * 2)).take 2 = [I (es.getD j (0,0)).1,I (es.getD j (0,0)).2]
 | [],_,h=>by simp at h
 | e :: es,0,_=>rfl
 | e :: es,j + 1,h=>by
  have:=flatE_drop es j (by simpa using h)
  rw [show (j + 1) * 2 = j * 2 + 2 by omega]
  simpa [flatE] using this
theorem RdE.ld {H : List Blk} {a : AV} {es : List (Int × Int)} (h : RdE H a es) {j : Nat} (hj : j < es.length) : acells H 2 (.el a (j * 2)) = some [I (es.getD j (0,0)).1,I (es.getD j (0,0)).2]:=by
 unfold RdE at h
 simp only [acells,h]
 rw [if_pos (by rw [flatE_length];omega),flatE_drop es j hj]
def cmpE (a b : Int × Int) : Int:=if cmpI a.1 b.1 = 0 then cmpI a.2 b.2 else cmpI a.1 b.1
theorem cmpI_totE : TotC cmpI:=by
 refine ⟨fun x y=>?_,fun x y=>?_,fun x y z h1 h2=>?_⟩
 ·unfold cmpI
  by_cases h1 : x < y
  ·rw [if_pos h1,if_neg (by omega),if_pos h1] <;> omega
  ·by_cases h2 : y < x
   ·rw [if_pos h2,if_neg h1,if_pos h2] <;> omega
   ·rw [if_neg h2,if_neg h1,if_neg h1,if_neg h2] <;> omega
 ·unfold cmpI
  by_cases h1 : x < y
  ·rw [if_pos h1];omega
  ·by_cases h2 : y < x
   ·rw [if_neg h1,if_pos h2];omega
   ·rw [if_neg h1,if_neg h2];omega
 ·have e1 : x < y:=by
   unfold cmpI at h1
   by_cases h : x < y
   ·exact h
   ·rw [if_neg h] at h1;split at h1 <;> omega
  have e2 : y < z:=by
   unfold cmpI at h2
   by_cases h : y < z
   ·exact h
   ·rw [if_neg h] at h2;split at h2 <;> omega
  unfold cmpI
  rw [if_pos (by omega)];omega
theorem lex_tot {A B : Type} {cf : A → A → Int} {cg : B → B → Int} (hf : TotC cf) (hg : TotC cg) : TotC (fun a b : A × B=>if cf a.1 b.1 = 0 then cg a.2 b.2 else cf a.1 b.1):=by
 refine ⟨fun x y=>?_,fun x y=>?_,fun x y z h1 h2=>?_⟩
 ·have h:=hf.neg x.1 y.1
  by_cases h0 : cf x.1 y.1 = 0
  ·simp only [if_pos h0,if_pos (show cf y.1 x.1 = 0 by omega)];exact hg.neg _ _
  ·simp only [if_neg h0,if_neg (show ¬ cf y.1 x.1 = 0 by omega)];exact h
 ·obtain ⟨a,b⟩:=x
  obtain ⟨c,d⟩:=y
  by_cases h0 : cf a c = 0
  ·show (if cf a c = 0 then cg b d else cf a c) = 0 ↔ (a,b) = (c,d)
   rw [if_pos h0,hg.eq0,Prod.mk.injEq,(hf.eq0 a c).1 h0];simp
  ·show (if cf a c = 0 then cg b d else cf a c) = 0 ↔ (a,b) = (c,d)
   rw [if_neg h0,Prod.mk.injEq]
   constructor
   ·intro h;exact absurd h h0
   ·rintro ⟨rfl,_⟩;exact (hf.eq0 _ _).2 rfl
 ·replace h1 : (if cf x.1 y.1 = 0 then cg x.2 y.2 else cf x.1 y.1) < 0:=h1
  replace h2 : (if cf y.1 z.1 = 0 then cg y.2 z.2 else cf y.1 z.1) < 0:=h2
  show (if cf x.1 z.1 = 0 then cg x.2 z.2 else cf x.1 z.1) < 0
  by_cases h0 : cf x.1 y.1 = 0
  ·have e:=(hf.eq0 _ _).1 h0
   rw [if_pos h0] at h1
   rw [e]
   by_cases h3 : cf y.1 z.1 = 0
   ·rw [if_pos h3] at h2 ⊢;exact hg.trans _ _ _ h1 h2
   ·rw [if_neg h3] at h2 ⊢;exact h2
  ·rw [if_neg h0] at h1
   by_cases h3 : cf y.1 z.1 = 0
   ·have e:=(hf.eq0 _ _).1 h3
    rw [← e,if_neg h0];exact h1
   ·rw [if_neg h3] at h2
    have h4:=hf.trans _ _ _ h1 h2
    rw [if_neg (by omega)];exact h4
theorem cmpE_tot : TotC cmpE:=lex_tot cmpI_totE cmpI_totE
theorem cmpOr_fn (x y : Int) : PFn Tryz.prog f_cmp_Or_int [ilS [x,y]] (I (if x = 0 then y else x)):=by
 intro H;refine ACalls.introB s_cmp_Or_int (by simp) ?_;intro hB hA;unfold c_cmp_Or_int;simp (disch:=(first|omega|(simp only [go_sem];try omega))) only [go_sem,Nat.reduceAdd,Nat.reduceEqDiff,Nat.reduceLeDiff,reduceIte,w64_id,cast_succ]
 repeat (first|(with_reducible first|refine SW.seq ?_|refine q8 ?_|refine SW.rowC ?_|refine SW.skip ?_|refine SW.exit ?_|intro _|refine And.intro (by omega) ?_)|simp (disch:=(first|omega|(simp only [go_sem];try omega))) only [go_sem,Nat.reduceAdd,Nat.reduceEqDiff,Nat.reduceLeDiff,reduceIte,w64_id,cast_succ])
 refine wJ (fun E0 H0 q E' H'=>∃ (pre post : List Int),[x,y] = pre ++ post ∧ q = post.length ∧ E' = aput E0 8 (I pre.length) ∧ H' = H0 ∧ ∀ z ∈ pre,z = 0) 2 ⟨[],[x,y],rfl,rfl,rfl,rfl,by simp⟩ ?_
 rintro q E' H' ⟨pre,post,hpp,rfl,rfl,rfl,hz⟩
 simp (disch:=(first|omega|(simp only [go_sem];try omega))) only [go_sem,Nat.reduceAdd,Nat.reduceEqDiff,Nat.reduceLeDiff,reduceIte,w64_id,cast_succ]
 repeat (first|(with_reducible first|refine SW.seq ?_|refine q8 ?_|refine SW.rowC ?_|refine SW.skip ?_|refine SW.exit ?_|intro _|refine And.intro (by omega) ?_)|simp (disch:=(first|omega|(simp only [go_sem];try omega))) only [go_sem,Nat.reduceAdd,Nat.reduceEqDiff,Nat.reduceLeDiff,reduceIte,w64_id,cast_succ])
 by_cases h : pre.length < 2
 ·obtain ⟨z,post,rfl,hg,-⟩:=consOf (d:=0) hpp (by simpa using h)
  have hd : decide ((pre.length : Int) < ((2 : Nat) : Int)) = true:=decide_eq_true (by omega)
  repeat (first|(with_reducible first|refine SW.seq ?_|refine q8 ?_|refine SW.rowC ?_|refine SW.skip ?_|refine SW.exit ?_|intro _|refine And.intro (by omega) ?_)|simp (disch:=(first|omega|(simp only [go_sem];try omega))) only [go_sem,Nat.reduceAdd,Nat.reduceEqDiff,Nat.reduceLeDiff,reduceIte,w64_id,cast_succ,hd])
  refine wM rfl ?_
  have hgi : [I x,I y][pre.length]? = some (I z):=by
   have : ([x,y].map I)[pre.length]? = some (I z):=by rw [hpp];simp
   exact this
  repeat (first|(with_reducible first|refine SW.seq ?_|refine q8 ?_|refine SW.rowC ?_|refine SW.skip ?_|refine SW.exit ?_|intro _|refine And.intro (by omega) ?_)|simp (disch:=(first|omega|(simp only [go_sem];try omega))) only [go_sem,Nat.reduceAdd,Nat.reduceEqDiff,Nat.reduceLeDiff,reduceIte,w64_id,cast_succ,hgi])
  by_cases h0 : z = 0
  ·have hd2 : decide (z = 0) = true:=decide_eq_true h0
   repeat (first|(with_reducible first|refine SW.seq ?_|refine q8 ?_|refine SW.rowC ?_|refine SW.skip ?_|refine SW.exit ?_|intro _|refine And.intro (by omega) ?_)|simp (disch:=(first|omega|(simp only [go_sem];try omega))) only [go_sem,Nat.reduceAdd,Nat.reduceEqDiff,Nat.reduceLeDiff,reduceIte,w64_id,cast_succ,hd2])
   refine wE rfl ?_
   repeat (first|(with_reducible first|refine SW.seq ?_|refine q8 ?_|refine SW.rowC ?_|refine SW.skip ?_|refine SW.exit ?_|intro _|refine And.intro (by omega) ?_)|simp (disch:=(first|omega|(simp only [go_sem];try omega))) only [go_sem,Nat.reduceAdd,Nat.reduceEqDiff,Nat.reduceLeDiff,reduceIte,w64_id,cast_succ])
   refine wB post.length (by simp) ⟨pre ++ [z],post,by simp [hpp],rfl,by simp [go_sem],rfl,?_⟩
   intro w hw
   rcases List.mem_append.1 hw with hw|hw
   ·exact hz w hw
   ·rw [List.mem_singleton.1 hw];exact h0
  ·have hd2 : decide (z = 0) = false:=decide_eq_false h0
   repeat (first|(with_reducible first|refine SW.seq ?_|refine q8 ?_|refine SW.rowC ?_|refine SW.skip ?_|refine SW.exit ?_|intro _|refine And.intro (by omega) ?_)|simp (disch:=(first|omega|(simp only [go_sem];try omega))) only [go_sem,Nat.reduceAdd,Nat.reduceEqDiff,Nat.reduceLeDiff,reduceIte,w64_id,cast_succ,hd2])
   refine wM rfl ?_
   repeat (first|(with_reducible first|refine SW.seq ?_|refine q8 ?_|refine SW.rowC ?_|refine SW.skip ?_|refine SW.exit ?_|intro _|refine And.intro (by omega) ?_)|simp (disch:=(first|omega|(simp only [go_sem];try omega))) only [go_sem,Nat.reduceAdd,Nat.reduceEqDiff,Nat.reduceLeDiff,reduceIte,w64_id,cast_succ])
   refine SW.ret ?_;(try simp only [go_sem]);(first|refine qP ?_|refine qS ?_|refine qQ ?_);(try simp (disch:=(first|omega|(simp only [go_sem];try omega))) only [go_sem,Nat.reduceAdd,Nat.reduceEqDiff,Nat.reduceLeDiff,reduceIte,w64_id,cast_succ]);(first|(with_reducible refine GR.drop ?_ ?_;(simp only [go_sem,and_self,and_true,true_and,implies_true,qI,qO]))|refine GR.of ?_);refine ⟨?_,rfl⟩;(try with_reducible rfl)
   match pre,hpp,hz with
   | [],hpp,_=>simp at hpp;rw [hpp.1,if_neg h0]
   | [a],hpp,hz=>simp at hpp;have:=hz a (by simp);rw [hpp.1,if_pos this,hpp.2.1]
   | a :: b :: c,hpp,_=>simp at h;omega
 ·have hd : decide ((pre.length : Int) < ((2 : Nat) : Int)) = false:=decide_eq_false (by omega)
  repeat (first|(with_reducible first|refine SW.seq ?_|refine q8 ?_|refine SW.rowC ?_|refine SW.skip ?_|refine SW.exit ?_|intro _|refine And.intro (by omega) ?_)|simp (disch:=(first|omega|(simp only [go_sem];try omega))) only [go_sem,Nat.reduceAdd,Nat.reduceEqDiff,Nat.reduceLeDiff,reduceIte,w64_id,cast_succ,hd])
  refine wE rfl ?_
  repeat (first|(with_reducible first|refine SW.seq ?_|refine q8 ?_|refine SW.rowC ?_|refine SW.skip ?_|refine SW.exit ?_|intro _|refine And.intro (by omega) ?_)|simp (disch:=(first|omega|(simp only [go_sem];try omega))) only [go_sem,Nat.reduceAdd,Nat.reduceEqDiff,Nat.reduceLeDiff,reduceIte,w64_id,cast_succ])
  refine SW.ret ?_;(try simp only [go_sem]);(first|refine qP ?_|refine qS ?_|refine qQ ?_);(try simp (disch:=(first|omega|(simp only [go_sem];try omega))) only [go_sem,Nat.reduceAdd,Nat.reduceEqDiff,Nat.reduceLeDiff,reduceIte,w64_id,cast_succ]);(first|(with_reducible refine GR.drop ?_ ?_;(simp only [go_sem,and_self,and_true,true_and,implies_true,qI,qO]))|refine GR.of ?_);refine ⟨?_,rfl⟩;(try with_reducible rfl)
  match pre,hpp,hz with
  | [],_,_=>simp at h
  | [a],_,_=>simp at h
  | a :: b :: c,hpp,hz=>simp at hpp;have h1:=hz a (by simp);have h2:=hz b (by simp);rw [hpp.1,hpp.2.1,h1,h2];rfl
theorem compareEdges_fn (a b : Int × Int) : PFn Tryz.prog f_impl_compareEdges [agE a,agE b] (I (cmpE a b)):=by
 unfold agE
 intro H;refine ACalls.introB s_impl_compareEdges (by simp) ?_;intro hB hA;unfold c_impl_compareEdges;simp (disch:=(first|omega|(simp only [go_sem];try omega))) only [go_sem,Nat.reduceAdd,Nat.reduceEqDiff,Nat.reduceLeDiff,reduceIte,w64_id,cast_succ]
 repeat (first|(with_reducible first|refine SW.seq ?_|refine q8 ?_|refine SW.rowC ?_|refine SW.skip ?_|refine SW.exit ?_|refine PFn.use (cmpCompare_fn _ _) ?_|refine PFn.useq (cmpCompare_fn _ _) ?_|intro _|refine And.intro (by omega) ?_)|simp (disch:=(first|omega|(simp only [go_sem];try omega))) only [go_sem,Nat.reduceAdd,Nat.reduceEqDiff,Nat.reduceLeDiff,reduceIte,w64_id,cast_succ])
 refine PFn.uselq (cmpOr_fn (cmpI a.1 b.1) (cmpI a.2 b.2)) (.cons (froz_rowI (xs:=[cmpI a.1 b.1,cmpI a.2 b.2]) (r:=H.length + 2) (ver:=0) (ty:=3) (Nat.zero_le _) (by simp)) .nil) ?_
 repeat (first|(with_reducible first|refine SW.seq ?_|refine q8 ?_|refine SW.rowC ?_|refine SW.skip ?_|refine SW.exit ?_|intro _|refine And.intro (by omega) ?_)|simp (disch:=(first|omega|(simp only [go_sem];try omega))) only [go_sem,Nat.reduceAdd,Nat.reduceEqDiff,Nat.reduceLeDiff,reduceIte,w64_id,cast_succ])
 refine SW.ret ?_;(try simp only [go_sem]);(first|refine qP ?_|refine qS ?_|refine qQ ?_);(try simp (disch:=(first|omega|(simp only [go_sem];try omega))) only [go_sem,Nat.reduceAdd,Nat.reduceEqDiff,Nat.reduceLeDiff,reduceIte,w64_id,cast_succ]);(first|(with_reducible refine GR.drop ?_ ?_;(simp only [go_sem,and_self,and_true,true_and,implies_true,qI,qO]))|refine GR.of ?_);refine ⟨?_,rfl⟩;(try with_reducible rfl)
 rfl
theorem compareEdges_call : callable Tryz.prog f_impl_compareEdges = true:=by kernel_rfl
theorem compactE_ok (H : List Blk) (i ver ty : Nat) (es : List (Int × Int)) (hi : H[i]? = some ⟨ver,ty,2,flatE es⟩) (hd : Asc cmpE es) (hl : es.length ≤ 2000000) :
  ACalls Tryz.prog f_slices_Compact_Limpl_Edge_impl_Edge [.nm i ver 0 es.length] H (fun r H'=>r = .nm i ver 0 es.length ∧ H' = H):=by
 have hr:=rd_nmE hi
 have hv : aview H (.nm i ver 0 es.length) = some (es.length,flatE es):=hr
 refine ACalls.introB s_slices_Compact_Limpl_Edge_impl_Edge (by simp) ?_;intro hB hA;unfold c_slices_Compact_Limpl_Edge_impl_Edge;simp (disch:=(first|omega|(simp only [go_sem];try omega))) only [go_sem,Nat.reduceAdd,Nat.reduceEqDiff,Nat.reduceLeDiff,reduceIte,w64_id,cast_succ]
 repeat (first|(with_reducible first|refine SW.seq ?_|refine q8 ?_|refine SW.rowC ?_|refine SW.skip ?_|refine SW.exit ?_|intro _|refine And.intro (by omega) ?_)|simp (disch:=(first|omega|(simp only [go_sem];try omega))) only [go_sem,Nat.reduceAdd,Nat.reduceEqDiff,Nat.reduceLeDiff,reduceIte,w64_id,cast_succ,hv])
 by_cases h2 : es.length < 2
 ·have hd2 : decide ((es.length : Int) < 2) = true:=decide_eq_true (by omega)
  repeat (first|(with_reducible first|refine SW.seq ?_|refine q8 ?_|refine SW.rowC ?_|refine SW.skip ?_|refine SW.exit ?_|intro _|refine And.intro (by omega) ?_)|simp (disch:=(first|omega|(simp only [go_sem];try omega))) only [go_sem,Nat.reduceAdd,Nat.reduceEqDiff,Nat.reduceLeDiff,reduceIte,w64_id,cast_succ,hd2])
  refine wM rfl ?_
  repeat (first|(with_reducible first|refine SW.seq ?_|refine q8 ?_|refine SW.rowC ?_|refine SW.skip ?_|refine SW.exit ?_|intro _|refine And.intro (by omega) ?_)|simp (disch:=(first|omega|(simp only [go_sem];try omega))) only [go_sem,Nat.reduceAdd,Nat.reduceEqDiff,Nat.reduceLeDiff,reduceIte,w64_id,cast_succ])
  refine SW.ret ?_;(try simp only [go_sem]);(first|refine qP ?_|refine qS ?_|refine qQ ?_);(try simp (disch:=(first|omega|(simp only [go_sem];try omega))) only [go_sem,Nat.reduceAdd,Nat.reduceEqDiff,Nat.reduceLeDiff,reduceIte,w64_id,cast_succ]);(first|(with_reducible refine GR.drop ?_ ?_;(simp only [go_sem,and_self,and_true,true_and,implies_true,qI,qO]))|refine GR.of ?_);refine ⟨?_,rfl⟩;(try with_reducible rfl)
 ·have hd2 : decide ((es.length : Int) < 2) = false:=decide_eq_false (by omega)
  repeat (first|(with_reducible first|refine SW.seq ?_|refine q8 ?_|refine SW.rowC ?_|refine SW.skip ?_|refine SW.exit ?_|intro _|refine And.intro (by omega) ?_)|simp (disch:=(first|omega|(simp only [go_sem];try omega))) only [go_sem,Nat.reduceAdd,Nat.reduceEqDiff,Nat.reduceLeDiff,reduceIte,w64_id,cast_succ,hd2])
  refine wE rfl ?_
  repeat (first|(with_reducible first|refine SW.seq ?_|refine q8 ?_|refine SW.rowC ?_|refine SW.skip ?_|refine SW.exit ?_|intro _|refine And.intro (by omega) ?_)|simp (disch:=(first|omega|(simp only [go_sem];try omega))) only [go_sem,Nat.reduceAdd,Nat.reduceEqDiff,Nat.reduceLeDiff,reduceIte,w64_id,cast_succ])
  refine wJ (fun E0 H0 q E' H'=>∃ k : Nat,1 ≤ k ∧ k ≤ es.length ∧ q = es.length - k ∧ E' = aput E0 3 (I k) ∧ H' = H0) (es.length - 1) ⟨1,by omega,by omega,rfl,rfl,rfl⟩ ?_
  rintro q E' H' ⟨k,hk1,hkl,rfl,rfl,rfl⟩
  simp (disch:=(first|omega|(simp only [go_sem];try omega))) only [go_sem,Nat.reduceAdd,Nat.reduceEqDiff,Nat.reduceLeDiff,reduceIte,w64_id,cast_succ]
  repeat (first|(with_reducible first|refine SW.seq ?_|refine q8 ?_|refine SW.rowC ?_|refine SW.skip ?_|refine SW.exit ?_|intro _|refine And.intro (by omega) ?_)|simp (disch:=(first|omega|(simp only [go_sem];try omega))) only [go_sem,Nat.reduceAdd,Nat.reduceEqDiff,Nat.reduceLeDiff,reduceIte,w64_id,cast_succ,hv])
  (first|refine wK rfl (fun h3=>?_) (fun h3=>?_)|refine wL rfl (fun h3=>?_) (fun h3=>?_)|refine wF rfl (fun h3=>?_) (fun h3=>?_)|refine wH rfl (fun h3=>?_) (fun h3=>?_))
  ·have e1 : (k : Int) - 1 = ((k - 1 : Nat) : Int):=by omega
   have l1:=hr.ld (j:=k) (by omega)
   have l2:=hr.ld (j:=k - 1) (by omega)
   have hne : (decide ((es.getD k (0,0)).1 = (es.getD (k - 1) (0,0)).1) && decide ((es.getD k (0,0)).2 = (es.getD (k - 1) (0,0)).2)) = false:=by
    have hp:=List.pairwise_iff_getElem.1 hd (k - 1) k (by omega) (by omega) (by omega)
    rw [qE,qE,qB (show k < es.length by omega),qB (show k - 1 < es.length by omega)]
    simp only [Option.getD_some]
    rw [Bool.eq_false_iff]
    intro h
    simp only [Bool.and_eq_true,decide_eq_true_eq] at h
    have he : es[k - 1] = es[k]:=Prod.ext h.1.symm h.2.symm
    rw [he] at hp
    have:=(cmpE_tot.eq0 es[k] es[k]).2 rfl
    omega
   repeat (first|(with_reducible first|refine SW.seq ?_|refine q8 ?_|refine SW.rowC ?_|refine SW.skip ?_|refine SW.exit ?_|intro _|refine And.intro (by omega) ?_)|simp (disch:=(first|omega|(simp only [go_sem];try omega))) only [go_sem,Nat.reduceAdd,Nat.reduceEqDiff,Nat.reduceLeDiff,reduceIte,w64_id,cast_succ,hv,e1,l1,l2,hne])
   refine wE rfl ?_
   repeat (first|(with_reducible first|refine SW.seq ?_|refine q8 ?_|refine SW.rowC ?_|refine SW.skip ?_|refine SW.exit ?_|intro _|refine And.intro (by omega) ?_)|simp (disch:=(first|omega|(simp only [go_sem];try omega))) only [go_sem,Nat.reduceAdd,Nat.reduceEqDiff,Nat.reduceLeDiff,reduceIte,w64_id,cast_succ])
   refine wB (es.length - (k + 1)) (by omega) ⟨k + 1,by omega,by omega,rfl,?_,rfl⟩
   simp [go_sem]
  ·repeat (first|(with_reducible first|refine SW.seq ?_|refine q8 ?_|refine SW.rowC ?_|refine SW.skip ?_|refine SW.exit ?_|intro _|refine And.intro (by omega) ?_)|simp (disch:=(first|omega|(simp only [go_sem];try omega))) only [go_sem,Nat.reduceAdd,Nat.reduceEqDiff,Nat.reduceLeDiff,reduceIte,w64_id,cast_succ])
   refine SW.ret ?_;(try simp only [go_sem]);(first|refine qP ?_|refine qS ?_|refine qQ ?_);(try simp (disch:=(first|omega|(simp only [go_sem];try omega))) only [go_sem,Nat.reduceAdd,Nat.reduceEqDiff,Nat.reduceLeDiff,reduceIte,w64_id,cast_succ]);(first|(with_reducible refine GR.drop ?_ ?_;(simp only [go_sem,and_self,and_true,true_and,implies_true,qI,qO]))|refine GR.of ?_);refine ⟨?_,rfl⟩;(try with_reducible rfl)
end Go.Proofs.YtclfmfabcnbbpaaGreat
namespace Go.Proofs.YtclfmfabcnbbpaaGreat
open Go.Av
abbrev f_laws_eqEdgeS : Nat:=26
def c_laws_eqEdgeS : SC :=
 .seq (.reg [⟨s' 4,.mv (.const (.bool false)),n'⟩] [0,1]) (.seq (.seq (.reg [⟨s' 6,.mv (t' 0),n'⟩,⟨s' 7,.len (t' 6),n'⟩,⟨s' 8,.mv (t' 1),n'⟩,⟨s' 9,.len (t' 8),n'⟩,
 ⟨s' 10,.bin .neq (t' 7) (t' 9),n'⟩] [0,1,10]) (.cond (t' 10) (.seq (.reg [⟨s' 4,.mv (.const (.bool false)),n'⟩] [4]) (.ret)) (.skip))) (.seq (.seq (.reg [
 ⟨s' 5,.mv (.const (.int .i64 0)),n'⟩] [0,1,5]) (.block 0 (.loop [0,1,5] (.seq (.seq (.reg [⟨s' 11,.mv (t' 5),n'⟩,⟨s' 12,.mv (t' 0),n'⟩,⟨s' 13,.len (t' 12),n'⟩,
 ⟨s' 14,.bin .lss (t' 11) (t' 13),n'⟩] [0,1,5,14]) (.cond (t' 14) (.skip) (.exit 0))) (.seq (.block 1 (.seq (.reg [⟨s' 17,.mv (t' 0),n'⟩,⟨s' 18,.mv (t' 5),n'⟩,
 ⟨s' 19,.iaddr 2 (t' 17) (t' 18),n'⟩,⟨s' 20,.load 2 true (t' 19),n'⟩,⟨s' 21,.mv (t' 1),n'⟩,⟨s' 22,.mv (t' 5),n'⟩,⟨s' 23,.iaddr 2 (t' 21) (t' 22),n'⟩,
 ⟨s' 24,.load 2 true (t' 23),n'⟩,⟨s' 25,.qcall 54 [(t' 20),(t' 24)],n'⟩,⟨s' 26,.un .not (t' 25),n'⟩] [0,1,5,26]) (.cond (t' 26) (.seq (.reg [
 ⟨s' 4,.mv (.const (.bool false)),n'⟩] [4]) (.ret)) (.skip)))) (.reg [⟨s' 15,.mv (t' 5),n'⟩,⟨s' 16,.bin .add (t' 15) (.const (.int .i64 1)),n'⟩,
 ⟨s' 5,.mv (t' 16),n'⟩] [0,1,5])))))) (.seq (.reg [⟨s' 4,.mv (.const (.bool true)),n'⟩] [4]) (.ret))))
theorem s_laws_eqEdgeS : stripF Tryz.prog 26 [[0,1],[0,1,10],[4],[0,1,5],[0,1,5],[0,1,5,14],[0,1,5,26],[4],[0,1,5],[4]] = some (c_laws_eqEdgeS,[.tmp 4],27):=by kernel_rfl
abbrev f_laws_markEdgeS : Nat:=32
def c_laws_markEdgeS : SC :=
 .seq (.reg [⟨s' 4,.mv (.const (.int .i64 0)),n'⟩] [0,1]) (.seq (.seq (.reg [⟨s' 5,.mv (.const (.int .i64 0)),n'⟩] [0,1,5]) (.block 0 (.loop [0,1,5] (.seq (.seq (.reg [
 ⟨s' 6,.mv (t' 5),n'⟩,⟨s' 7,.mv (t' 0),n'⟩,⟨s' 8,.len (t' 7),n'⟩,⟨s' 9,.bin .lss (t' 6) (t' 8),n'⟩] [0,1,5,9]) (.cond (t' 9) (.skip) (.exit 0))) (.seq (.block 1 (.seq (.reg [
 ⟨s' 12,.mv (t' 0),n'⟩,⟨s' 13,.mv (t' 5),n'⟩,⟨s' 14,.mv (t' 1),n'⟩,⟨s' 15,.iaddr 2 (t' 12) (t' 13),n'⟩,⟨s' 16,.faddr 0 (t' 15),n'⟩,⟨n',.store 1 (t' 16) (t' 14),n'⟩] [0,1,5])
 (.seq (.reg [⟨s' 17,.mv (t' 1),n'⟩,⟨s' 18,.bin .add (t' 17) (.const (.int .i64 1)),n'⟩,⟨s' 1,.mv (t' 18),n'⟩] [0,1,5]) (.seq (.reg [⟨s' 19,.mv (t' 0),n'⟩,⟨s' 20,.mv (t' 5),n'⟩,
 ⟨s' 21,.mv (t' 1),n'⟩,⟨s' 22,.iaddr 2 (t' 19) (t' 20),n'⟩,⟨s' 23,.faddr 1 (t' 22),n'⟩,⟨n',.store 1 (t' 23) (t' 21),n'⟩] [0,1,5]) (.reg [⟨s' 24,.mv (t' 1),n'⟩,
 ⟨s' 25,.bin .add (t' 24) (.const (.int .i64 1)),n'⟩,⟨s' 1,.mv (t' 25),n'⟩] [0,1,5]))))) (.reg [⟨s' 10,.mv (t' 5),n'⟩,⟨s' 11,.bin .add (t' 10) (.const (.int .i64 1)),n'⟩,
 ⟨s' 5,.mv (t' 11),n'⟩] [0,1,5])))))) (.seq (.reg [⟨s' 26,.mv (t' 1),n'⟩,⟨s' 4,.mv (t' 26),n'⟩] [4]) (.ret)))
theorem s_laws_markEdgeS : stripF Tryz.prog 32 [[0,1],[0,1,5],[0,1,5],[0,1,5,9],[0,1,5],[0,1,5],[0,1,5],[0,1,5],[0,1,5],[4]] = some (c_laws_markEdgeS,[.tmp 4],27):=by kernel_rfl
abbrev f_laws_heldEdgeS : Nat:=34
def c_laws_heldEdgeS : SC :=
 .seq (.reg [⟨s' 4,.mv (.const (.int .i64 0)),n'⟩] [0,1]) (.seq (.seq (.reg [⟨s' 5,.mv (.const (.int .i64 0)),n'⟩] [0,1,5]) (.block 0 (.loop [0,1,5] (.seq (.seq (.reg [
 ⟨s' 6,.mv (t' 5),n'⟩,⟨s' 7,.mv (t' 0),n'⟩,⟨s' 8,.len (t' 7),n'⟩,⟨s' 9,.bin .lss (t' 6) (t' 8),n'⟩] [0,1,5,9]) (.cond (t' 9) (.skip) (.exit 0))) (.seq (.block 1 (.seq (.seq (.reg [
 ⟨s' 12,.mv (t' 0),n'⟩,⟨s' 13,.mv (t' 5),n'⟩,⟨s' 14,.iaddr 2 (t' 12) (t' 13),n'⟩,⟨s' 15,.faddr 0 (t' 14),n'⟩,⟨s' 16,.load 1 false (t' 15),n'⟩,⟨s' 17,.mv (t' 1),n'⟩,
 ⟨s' 18,.bin .neq (t' 16) (t' 17),n'⟩] [0,1,5,18]) (.cond (t' 18) (.seq (.reg [⟨s' 4,.mv (.const (.int .i64 (-1))),n'⟩] [4]) (.ret)) (.skip))) (.seq (.reg [⟨s' 19,.mv (t' 1),n'⟩,
 ⟨s' 20,.bin .add (t' 19) (.const (.int .i64 1)),n'⟩,⟨s' 1,.mv (t' 20),n'⟩] [0,1,5]) (.seq (.seq (.reg [⟨s' 21,.mv (t' 0),n'⟩,⟨s' 22,.mv (t' 5),n'⟩,
 ⟨s' 23,.iaddr 2 (t' 21) (t' 22),n'⟩,⟨s' 24,.faddr 1 (t' 23),n'⟩,⟨s' 25,.load 1 false (t' 24),n'⟩,⟨s' 26,.mv (t' 1),n'⟩,⟨s' 27,.bin .neq (t' 25) (t' 26),n'⟩] [0,1,5,27])
 (.cond (t' 27) (.seq (.reg [⟨s' 4,.mv (.const (.int .i64 (-1))),n'⟩] [4]) (.ret)) (.skip))) (.reg [⟨s' 28,.mv (t' 1),n'⟩,⟨s' 29,.bin .add (t' 28) (.const (.int .i64 1)),n'⟩,
 ⟨s' 1,.mv (t' 29),n'⟩] [0,1,5]))))) (.reg [⟨s' 10,.mv (t' 5),n'⟩,⟨s' 11,.bin .add (t' 10) (.const (.int .i64 1)),n'⟩,⟨s' 5,.mv (t' 11),n'⟩] [0,1,5])))))) (.seq (.reg [
 ⟨s' 30,.mv (t' 1),n'⟩,⟨s' 4,.mv (t' 30),n'⟩] [4]) (.ret)))
theorem s_laws_heldEdgeS : stripF Tryz.prog 34 [[0,1],[0,1,5],[0,1,5],[0,1,5,9],[0,1,5,18],[4],[0,1,5],[0,1,5,27],[4],[0,1,5],[0,1,5],[4]] = some (c_laws_heldEdgeS,[.tmp 4],31):=by kernel_rfl
abbrev f_laws_eqEdge : Nat:=54
def c_laws_eqEdge : SC :=
 .seq (.reg [⟨s' 2,.box 70 (t' 0),n'⟩,⟨s' 3,.box 70 (t' 1),n'⟩,⟨s' 4,.mv (.const (.bool false)),n'⟩] [2,3]) (.seq (.seq (.reg [⟨s' 5,.faddr 0 (t' 2),n'⟩,
 ⟨s' 6,.load 1 false (t' 5),n'⟩,⟨s' 7,.faddr 0 (t' 3),n'⟩,⟨s' 8,.load 1 false (t' 7),n'⟩,⟨s' 9,.bin .neq (t' 6) (t' 8),n'⟩] [2,3,9]) (.cond (t' 9) (.seq (.reg [
 ⟨s' 4,.mv (.const (.bool false)),n'⟩] [4]) (.ret)) (.skip))) (.seq (.seq (.reg [⟨s' 10,.faddr 1 (t' 2),n'⟩,⟨s' 11,.load 1 false (t' 10),n'⟩,⟨s' 12,.faddr 1 (t' 3),n'⟩,
 ⟨s' 13,.load 1 false (t' 12),n'⟩,⟨s' 14,.bin .neq (t' 11) (t' 13),n'⟩] [14]) (.cond (t' 14) (.seq (.reg [⟨s' 4,.mv (.const (.bool false)),n'⟩] [4]) (.ret)) (.skip))) (.seq (.reg [
 ⟨s' 4,.mv (.const (.bool true)),n'⟩] [4]) (.ret))))
theorem s_laws_eqEdge : stripF Tryz.prog 54 [[2,3],[2,3,9],[4],[14],[4],[4]] = some (c_laws_eqEdge,[.tmp 4],15):=by kernel_rfl
def OwnE (H : List Blk) (N : Nat → Prop) (c : AV) (es : List (Int × Int)) : Prop :=
 (∃ r ver ty,c = .nm r ver 0 es.length ∧ N r ∧ H[r]? = some ⟨ver,ty,2,flatE es⟩) ∨ (es = [] ∧ (c = nilS ∨ c = .il 0 []))
theorem OwnE.rd {H : List Blk} {N : Nat → Prop} {c : AV} {es : List (Int × Int)} (h : OwnE H N c es) : RdE H c es:=by
 rcases h with ⟨r,ver,ty,rfl,_,h3⟩|⟨rfl,rfl|rfl⟩
 ·exact rd_nmE h3
 ·rfl
 ·rfl
theorem OwnE.one {H : List Blk} {N : Nat → Prop} {c : AV} {es : List (Int × Int)} (h : OwnE H N c es) : c.cell1 = true ∧ partsOf c = [c]:=by
 rcases h with ⟨r,ver,ty,rfl,_,h3⟩|⟨rfl,rfl|rfl⟩ <;> exact ⟨rfl,rfl⟩
theorem OwnE.same {H H' : List Blk} {N : Nat → Prop} {c : AV} {es : List (Int × Int)} (h : OwnE H N c es) (hs : ∀ j b,N j → H[j]? = some b → H'[j]? = some b) : OwnE H' N c es:=by
 rcases h with ⟨r,ver,ty,hc,h2,h3⟩|h
 ·exact .inl ⟨r,ver,ty,hc,h2,hs r _ h2 h3⟩
 ·exact .inr h
theorem OwnE.append {H : List Blk} {N : Nat → Prop} {c : AV} {es : List (Int × Int)} (h : OwnE H N c es) (ext : List Blk) : OwnE (H ++ ext) N c es :=
 h.same (fun j b _ hb=>by rw [List.getElem?_append_left (qC.1 hb).1];exact hb)
theorem OwnE.weak {H : List Blk} {N N' : Nat → Prop} {c : AV} {es : List (Int × Int)} (h : OwnE H N c es) (hN : ∀ r,N r → r < H.length → N' r) : OwnE H N' c es:=by
 rcases h with ⟨r,ver,ty,hc,h2,h3⟩|h
 ·exact .inl ⟨r,ver,ty,hc,hN r h2 (qC.1 h3).1,h3⟩
 ·exact .inr h
theorem eqEdge_fn (a b : Int × Int) : PFn Tryz.prog f_laws_eqEdge [agE a,agE b] (Bv (decide (a = b))):=by
 obtain ⟨a1,a2⟩:=a
 obtain ⟨b1,b2⟩:=b
 unfold agE
 intro H;refine ACalls.introB s_laws_eqEdge (by simp) ?_;intro hB hA;unfold c_laws_eqEdge;simp (disch:=(first|omega|(simp only [go_sem];try omega))) only [go_sem,Nat.reduceAdd,Nat.reduceEqDiff,Nat.reduceLeDiff,reduceIte,w64_id,cast_succ]
 repeat (first|(with_reducible first|refine SW.seq ?_|refine q8 ?_|refine SW.rowC ?_|refine SW.skip ?_|refine SW.exit ?_|intro _|refine And.intro (by omega) ?_)|simp (disch:=(first|omega|(simp only [go_sem];try omega))) only [go_sem,Nat.reduceAdd,Nat.reduceEqDiff,Nat.reduceLeDiff,reduceIte,w64_id,cast_succ])
 by_cases h1 : a1 = b1
 ·have d1 : decide (a1 = b1) = true:=decide_eq_true h1
  repeat (first|(with_reducible first|refine SW.seq ?_|refine q8 ?_|refine SW.rowC ?_|refine SW.skip ?_|refine SW.exit ?_|intro _|refine And.intro (by omega) ?_)|simp (disch:=(first|omega|(simp only [go_sem];try omega))) only [go_sem,Nat.reduceAdd,Nat.reduceEqDiff,Nat.reduceLeDiff,reduceIte,w64_id,cast_succ,d1])
  refine wE rfl ?_
  repeat (first|(with_reducible first|refine SW.seq ?_|refine q8 ?_|refine SW.rowC ?_|refine SW.skip ?_|refine SW.exit ?_|intro _|refine And.intro (by omega) ?_)|simp (disch:=(first|omega|(simp only [go_sem];try omega))) only [go_sem,Nat.reduceAdd,Nat.reduceEqDiff,Nat.reduceLeDiff,reduceIte,w64_id,cast_succ])
  by_cases h2 : a2 = b2
  ·have d2 : decide (a2 = b2) = true:=decide_eq_true h2
   repeat (first|(with_reducible first|refine SW.seq ?_|refine q8 ?_|refine SW.rowC ?_|refine SW.skip ?_|refine SW.exit ?_|intro _|refine And.intro (by omega) ?_)|simp (disch:=(first|omega|(simp only [go_sem];try omega))) only [go_sem,Nat.reduceAdd,Nat.reduceEqDiff,Nat.reduceLeDiff,reduceIte,w64_id,cast_succ,d2])
   refine wE rfl ?_
   repeat (first|(with_reducible first|refine SW.seq ?_|refine q8 ?_|refine SW.rowC ?_|refine SW.skip ?_|refine SW.exit ?_|intro _|refine And.intro (by omega) ?_)|simp (disch:=(first|omega|(simp only [go_sem];try omega))) only [go_sem,Nat.reduceAdd,Nat.reduceEqDiff,Nat.reduceLeDiff,reduceIte,w64_id,cast_succ])
   refine SW.ret ?_;(try simp only [go_sem]);(first|refine qP ?_|refine qS ?_|refine qQ ?_);(try simp (disch:=(first|omega|(simp only [go_sem];try omega))) only [go_sem,Nat.reduceAdd,Nat.reduceEqDiff,Nat.reduceLeDiff,reduceIte,w64_id,cast_succ]);(first|(with_reducible refine GR.drop ?_ ?_;(simp only [go_sem,and_self,and_true,true_and,implies_true,qI,qO]))|refine GR.of ?_);refine ⟨?_,rfl⟩;(try with_reducible rfl)
   rw [h1,h2];simp
  ·have d2 : decide (a2 = b2) = false:=decide_eq_false h2
   repeat (first|(with_reducible first|refine SW.seq ?_|refine q8 ?_|refine SW.rowC ?_|refine SW.skip ?_|refine SW.exit ?_|intro _|refine And.intro (by omega) ?_)|simp (disch:=(first|omega|(simp only [go_sem];try omega))) only [go_sem,Nat.reduceAdd,Nat.reduceEqDiff,Nat.reduceLeDiff,reduceIte,w64_id,cast_succ,d2])
   refine wM rfl ?_
   repeat (first|(with_reducible first|refine SW.seq ?_|refine q8 ?_|refine SW.rowC ?_|refine SW.skip ?_|refine SW.exit ?_|intro _|refine And.intro (by omega) ?_)|simp (disch:=(first|omega|(simp only [go_sem];try omega))) only [go_sem,Nat.reduceAdd,Nat.reduceEqDiff,Nat.reduceLeDiff,reduceIte,w64_id,cast_succ])
   refine SW.ret ?_;(try simp only [go_sem]);(first|refine qP ?_|refine qS ?_|refine qQ ?_);(try simp (disch:=(first|omega|(simp only [go_sem];try omega))) only [go_sem,Nat.reduceAdd,Nat.reduceEqDiff,Nat.reduceLeDiff,reduceIte,w64_id,cast_succ]);(first|(with_reducible refine GR.drop ?_ ?_;(simp only [go_sem,and_self,and_true,true_and,implies_true,qI,qO]))|refine GR.of ?_);refine ⟨?_,rfl⟩;(try with_reducible rfl)
   rw [decide_eq_false (show ¬ (a1,a2) = (b1,b2) from fun h=>h2 (Prod.mk.inj h).2)]
 ·have d1 : decide (a1 = b1) = false:=decide_eq_false h1
  repeat (first|(with_reducible first|refine SW.seq ?_|refine q8 ?_|refine SW.rowC ?_|refine SW.skip ?_|refine SW.exit ?_|intro _|refine And.intro (by omega) ?_)|simp (disch:=(first|omega|(simp only [go_sem];try omega))) only [go_sem,Nat.reduceAdd,Nat.reduceEqDiff,Nat.reduceLeDiff,reduceIte,w64_id,cast_succ,d1])
  refine wM rfl ?_
  repeat (first|(with_reducible first|refine SW.seq ?_|refine q8 ?_|refine SW.rowC ?_|refine SW.skip ?_|refine SW.exit ?_|intro _|refine And.intro (by omega) ?_)|simp (disch:=(first|omega|(simp only [go_sem];try omega))) only [go_sem,Nat.reduceAdd,Nat.reduceEqDiff,Nat.reduceLeDiff,reduceIte,w64_id,cast_succ])
  refine SW.ret ?_;(try simp only [go_sem]);(first|refine qP ?_|refine qS ?_|refine qQ ?_);(try simp (disch:=(first|omega|(simp only [go_sem];try omega))) only [go_sem,Nat.reduceAdd,Nat.reduceEqDiff,Nat.reduceLeDiff,reduceIte,w64_id,cast_succ]);(first|(with_reducible refine GR.drop ?_ ?_;(simp only [go_sem,and_self,and_true,true_and,implies_true,qI,qO]))|refine GR.of ?_);refine ⟨?_,rfl⟩;(try with_reducible rfl)
  rw [decide_eq_false (show ¬ (a1,a2) = (b1,b2) from fun h=>h1 (Prod.mk.inj h).1)]
theorem eqEdgeS_ok (H : List Blk) (a b : AV) (xs ys : List (Int × Int)) (ha : RdE H a xs) (hb : RdE H b ys) (hl : xs.length ≤ 2000000) :
  ACalls Tryz.prog f_laws_eqEdgeS [a,b] H (fun r H'=>r = Bv (decide (xs = ys)) ∧ H' = H):=by
 have va : aview H a = some (xs.length,flatE xs):=ha
 have vb : aview H b = some (ys.length,flatE ys):=hb
 refine ACalls.introB s_laws_eqEdgeS (by simp) ?_;intro hB hA;unfold c_laws_eqEdgeS;simp (disch:=(first|omega|(simp only [go_sem];try omega))) only [go_sem,Nat.reduceAdd,Nat.reduceEqDiff,Nat.reduceLeDiff,reduceIte,w64_id,cast_succ]
 repeat (first|(with_reducible first|refine SW.seq ?_|refine q8 ?_|refine SW.rowC ?_|refine SW.skip ?_|refine SW.exit ?_|intro _|refine And.intro (by omega) ?_)|simp (disch:=(first|omega|(simp only [go_sem];try omega))) only [go_sem,Nat.reduceAdd,Nat.reduceEqDiff,Nat.reduceLeDiff,reduceIte,w64_id,cast_succ,va,vb])
 by_cases hl2 : xs.length = ys.length
 rotate_left
 ·have d1 : decide ((xs.length : Int) = (ys.length : Int)) = false:=decide_eq_false (by omega)
  repeat (first|(with_reducible first|refine SW.seq ?_|refine q8 ?_|refine SW.rowC ?_|refine SW.skip ?_|refine SW.exit ?_|intro _|refine And.intro (by omega) ?_)|simp (disch:=(first|omega|(simp only [go_sem];try omega))) only [go_sem,Nat.reduceAdd,Nat.reduceEqDiff,Nat.reduceLeDiff,reduceIte,w64_id,cast_succ,d1])
  refine wM rfl ?_
  repeat (first|(with_reducible first|refine SW.seq ?_|refine q8 ?_|refine SW.rowC ?_|refine SW.skip ?_|refine SW.exit ?_|intro _|refine And.intro (by omega) ?_)|simp (disch:=(first|omega|(simp only [go_sem];try omega))) only [go_sem,Nat.reduceAdd,Nat.reduceEqDiff,Nat.reduceLeDiff,reduceIte,w64_id,cast_succ])
  refine SW.ret ?_;(try simp only [go_sem]);(first|refine qP ?_|refine qS ?_|refine qQ ?_);(try simp (disch:=(first|omega|(simp only [go_sem];try omega))) only [go_sem,Nat.reduceAdd,Nat.reduceEqDiff,Nat.reduceLeDiff,reduceIte,w64_id,cast_succ]);(first|(with_reducible refine GR.drop ?_ ?_;(simp only [go_sem,and_self,and_true,true_and,implies_true,qI,qO]))|refine GR.of ?_);refine ⟨?_,rfl⟩;(try with_reducible rfl)
  rw [decide_eq_false (show ¬ xs = ys from fun h=>hl2 (by rw [h]))]
 have d1 : decide ((xs.length : Int) = (ys.length : Int)) = true:=decide_eq_true (by omega)
 repeat (first|(with_reducible first|refine SW.seq ?_|refine q8 ?_|refine SW.rowC ?_|refine SW.skip ?_|refine SW.exit ?_|intro _|refine And.intro (by omega) ?_)|simp (disch:=(first|omega|(simp only [go_sem];try omega))) only [go_sem,Nat.reduceAdd,Nat.reduceEqDiff,Nat.reduceLeDiff,reduceIte,w64_id,cast_succ,d1])
 refine wE rfl ?_
 repeat (first|(with_reducible first|refine SW.seq ?_|refine q8 ?_|refine SW.rowC ?_|refine SW.skip ?_|refine SW.exit ?_|intro _|refine And.intro (by omega) ?_)|simp (disch:=(first|omega|(simp only [go_sem];try omega))) only [go_sem,Nat.reduceAdd,Nat.reduceEqDiff,Nat.reduceLeDiff,reduceIte,w64_id,cast_succ])
 refine wJ (fun E0 H0 q E' H'=>∃ i : Nat,i ≤ xs.length ∧ q = xs.length - i ∧ E' = aput E0 5 (I i) ∧ H' = H0 ∧ ∀ j,j < i → xs.getD j (0,0) = ys.getD j (0,0)) xs.length ⟨0,by omega,by omega,rfl,rfl,by simp⟩ ?_
 rintro q E' H' ⟨i,hi,rfl,rfl,rfl,hj⟩
 simp (disch:=(first|omega|(simp only [go_sem];try omega))) only [go_sem,Nat.reduceAdd,Nat.reduceEqDiff,Nat.reduceLeDiff,reduceIte,w64_id,cast_succ]
 repeat (first|(with_reducible first|refine SW.seq ?_|refine q8 ?_|refine SW.rowC ?_|refine SW.skip ?_|refine SW.exit ?_|intro _|refine And.intro (by omega) ?_)|simp (disch:=(first|omega|(simp only [go_sem];try omega))) only [go_sem,Nat.reduceAdd,Nat.reduceEqDiff,Nat.reduceLeDiff,reduceIte,w64_id,cast_succ,va])
 (first|refine wK rfl (fun h3=>?_) (fun h3=>?_)|refine wL rfl (fun h3=>?_) (fun h3=>?_)|refine wF rfl (fun h3=>?_) (fun h3=>?_)|refine wH rfl (fun h3=>?_) (fun h3=>?_))
 ·have l1:=ha.ld (j:=i) (by omega)
  have l2:=hb.ld (j:=i) (by omega)
  have hee : PFn Tryz.prog f_laws_eqEdge [.agg [I (xs.getD i (0,0)).1,I (xs.getD i (0,0)).2],.agg [I (ys.getD i (0,0)).1,I (ys.getD i (0,0)).2]] (Bv (decide (xs.getD i (0,0) = ys.getD i (0,0)))):=eqEdge_fn _ _
  repeat (first|(with_reducible first|refine SW.seq ?_|refine q8 ?_|refine SW.rowC ?_|refine SW.skip ?_|refine SW.exit ?_|refine PFn.use (hee) ?_|refine PFn.useq (hee) ?_|intro _|refine And.intro (by omega) ?_)|simp (disch:=(first|omega|(simp only [go_sem];try omega))) only [go_sem,Nat.reduceAdd,Nat.reduceEqDiff,Nat.reduceLeDiff,reduceIte,w64_id,cast_succ,va,vb,l1,l2])
  by_cases h4 : xs.getD i (0,0) = ys.getD i (0,0)
  ·have d4 : decide (xs.getD i (0,0) = ys.getD i (0,0)) = true:=decide_eq_true h4
   repeat (first|(with_reducible first|refine SW.seq ?_|refine q8 ?_|refine SW.rowC ?_|refine SW.skip ?_|refine SW.exit ?_|intro _|refine And.intro (by omega) ?_)|simp (disch:=(first|omega|(simp only [go_sem];try omega))) only [go_sem,Nat.reduceAdd,Nat.reduceEqDiff,Nat.reduceLeDiff,reduceIte,w64_id,cast_succ,d4])
   refine wE rfl ?_
   repeat (first|(with_reducible first|refine SW.seq ?_|refine q8 ?_|refine SW.rowC ?_|refine SW.skip ?_|refine SW.exit ?_|intro _|refine And.intro (by omega) ?_)|simp (disch:=(first|omega|(simp only [go_sem];try omega))) only [go_sem,Nat.reduceAdd,Nat.reduceEqDiff,Nat.reduceLeDiff,reduceIte,w64_id,cast_succ])
   refine wB (xs.length - (i + 1)) (by omega) ⟨i + 1,by omega,rfl,?_,rfl,fun j hji=>?_⟩
   ·simp [go_sem]
   ·rcases Nat.lt_or_eq_of_le (Nat.le_of_lt_succ hji) with h5|rfl
    ·exact hj j h5
    ·exact h4
  ·have d4 : decide (xs.getD i (0,0) = ys.getD i (0,0)) = false:=decide_eq_false h4
   repeat (first|(with_reducible first|refine SW.seq ?_|refine q8 ?_|refine SW.rowC ?_|refine SW.skip ?_|refine SW.exit ?_|intro _|refine And.intro (by omega) ?_)|simp (disch:=(first|omega|(simp only [go_sem];try omega))) only [go_sem,Nat.reduceAdd,Nat.reduceEqDiff,Nat.reduceLeDiff,reduceIte,w64_id,cast_succ,d4])
   refine wM rfl ?_
   repeat (first|(with_reducible first|refine SW.seq ?_|refine q8 ?_|refine SW.rowC ?_|refine SW.skip ?_|refine SW.exit ?_|intro _|refine And.intro (by omega) ?_)|simp (disch:=(first|omega|(simp only [go_sem];try omega))) only [go_sem,Nat.reduceAdd,Nat.reduceEqDiff,Nat.reduceLeDiff,reduceIte,w64_id,cast_succ])
   refine SW.ret ?_;(try simp only [go_sem]);(first|refine qP ?_|refine qS ?_|refine qQ ?_);(try simp (disch:=(first|omega|(simp only [go_sem];try omega))) only [go_sem,Nat.reduceAdd,Nat.reduceEqDiff,Nat.reduceLeDiff,reduceIte,w64_id,cast_succ]);(first|(with_reducible refine GR.drop ?_ ?_;(simp only [go_sem,and_self,and_true,true_and,implies_true,qI,qO]))|refine GR.of ?_);refine ⟨?_,rfl⟩;(try with_reducible rfl)
   rw [decide_eq_false (show ¬ xs = ys from fun h=>h4 (by rw [h]))]
 ·repeat (first|(with_reducible first|refine SW.seq ?_|refine q8 ?_|refine SW.rowC ?_|refine SW.skip ?_|refine SW.exit ?_|intro _|refine And.intro (by omega) ?_)|simp (disch:=(first|omega|(simp only [go_sem];try omega))) only [go_sem,Nat.reduceAdd,Nat.reduceEqDiff,Nat.reduceLeDiff,reduceIte,w64_id,cast_succ])
  refine SW.ret ?_;(try simp only [go_sem]);(first|refine qP ?_|refine qS ?_|refine qQ ?_);(try simp (disch:=(first|omega|(simp only [go_sem];try omega))) only [go_sem,Nat.reduceAdd,Nat.reduceEqDiff,Nat.reduceLeDiff,reduceIte,w64_id,cast_succ]);(first|(with_reducible refine GR.drop ?_ ?_;(simp only [go_sem,and_self,and_true,true_and,implies_true,qI,qO]))|refine GR.of ?_);refine ⟨?_,rfl⟩;(try with_reducible rfl)
  have : xs = ys:=by
   apply List.ext_getElem hl2
   intro j h5 h6
   have:=hj j (by omega)
   rw [qE,qE,qB h5,qB h6] at this
   exact this
  rw [decide_eq_true this]
def numsE (k : Int) (n : Nat) : List (Int × Int):=(List.range n).map fun (j : Nat)=>(k + 2 * (j : Int),k + 2 * (j : Int) + 1)
theorem numsE_length (k : Int) (n : Nat) : (numsE k n).length = n:=by simp [numsE]
theorem numsE_succ (k : Int) (n : Nat) : numsE k (n + 1) = numsE k n ++ [(k + 2 * (n : Int),k + 2 * (n : Int) + 1)]:=by simp [numsE,List.range_succ]
theorem flatE_set : ∀ (es : List (Int × Int)) (j : Nat) (x y : Int),j < es.length → ((flatE es).set (j * 2) (I x)).set (j * 2 + 1) (I y) = flatE (es.set j (x,y))
 | [],_,_,_,h=>by simp at h
 | e :: es,0,x,y,_=>rfl
 | e :: es,j + 1,x,y,h=>by
  have:=flatE_set es j x y (by simpa using h)
  rw [show (j + 1) * 2 = j * 2 + 2 by omega]
  simpa [flatE] using this
theorem markEdgeS_ok (H : List Blk) (N : Nat → Prop) (v : AV) (es : List (Int × Int)) (k : Int) (ho : OwnE H N v es) (hk0 : 0 ≤ k) (hl : es.length ≤ 2000000) (hk : k ≤ 4611686018427387904) :
  ACalls Tryz.prog f_laws_markEdgeS [v,I k] H (fun r H'=>r = I (k + 2 * es.length) ∧ OwnE H' N v (numsE k es.length) ∧ H'.length = H.length ∧ ∀ j,¬ N j → H'[j]? = H[j]?):=by
 rcases ho with ⟨r,ver,ty,rfl,h1,h2⟩|⟨rfl,hnil⟩
 ·have hlt : r < H.length:=(qC.1 h2).1
  have hz : H = H.set r ⟨ver,ty,2,flatE (numsE k 0 ++ es.drop 0)⟩:=by
   have : numsE k 0 ++ es.drop 0 = es:=by simp [numsE]
   rw [this]
   obtain ⟨g1,g2⟩:=qC.1 h2
   rw [← g2];exact (List.set_getElem_self g1).symm
  have hfin : ∀ H',H' = H.set r ⟨ver,ty,2,flatE (numsE k es.length)⟩ → OwnE H' N (.nm r ver 0 es.length) (numsE k es.length) ∧ H'.length = H.length ∧ ∀ j,¬ N j → H'[j]? = H[j]?:=by
   rintro H' rfl
   refine ⟨.inl ⟨r,ver,ty,by rw [numsE_length],h1,qY hlt⟩,by simp,fun j hj=>?_⟩
   rw [List.getElem?_set_ne (by rintro rfl;exact hj h1)]
  refine ACalls.introB s_laws_markEdgeS (by simp) ?_;intro hB hA;unfold c_laws_markEdgeS;simp (disch:=(first|omega|(simp only [go_sem];try omega))) only [go_sem,Nat.reduceAdd,Nat.reduceEqDiff,Nat.reduceLeDiff,reduceIte,w64_id,cast_succ]
  repeat (first|(with_reducible first|refine SW.seq ?_|refine q8 ?_|refine SW.rowC ?_|refine SW.skip ?_|refine SW.exit ?_|intro _|refine And.intro (by omega) ?_)|simp (disch:=(first|omega|(simp only [go_sem];try omega))) only [go_sem,Nat.reduceAdd,Nat.reduceEqDiff,Nat.reduceLeDiff,reduceIte,w64_id,cast_succ])
  refine wJ (fun E0 H0 q E' H'=>∃ i : Nat,i ≤ es.length ∧ q = es.length - i ∧ E' = aput (aput E0 5 (I i)) 1 (I (k + 2 * (i : Int))) ∧ H' = H.set r ⟨ver,ty,2,flatE (numsE k i ++ es.drop i)⟩) es.length ⟨0,by omega,by omega,by simp [go_sem],hz⟩ ?_
  rintro q E' H' ⟨i,hi,rfl,rfl,rfl⟩
  have hLl : (numsE k i ++ es.drop i).length = es.length:=by rw [List.length_append,numsE_length,List.length_drop];omega
  have hLs : (numsE k i ++ es.drop i).set i (k + 2 * (i : Int),k + 2 * (i : Int) + 1) = if i < es.length then numsE k (i + 1) ++ es.drop (i + 1) else numsE k i ++ es.drop i:=by
   split
   ·rename_i h
    rw [List.set_append_right _ _ (by rw [numsE_length];omega),numsE_length,Nat.sub_self,List.drop_eq_getElem_cons h,List.set_cons_zero,numsE_succ,List.append_assoc];rfl
   ·rw [List.set_eq_of_length_le (by omega)]
  generalize hL : numsE k i ++ es.drop i = L at *
  have hset:=flatE_set L i (k + 2 * (i : Int)) (k + 2 * (i : Int) + 1)
  have hfl : (flatE L).length = es.length * 2:=by rw [flatE_length,hLl]
  generalize hC : flatE L = C at *
  have c0 : (H.set r ⟨ver,ty,2,C⟩)[r]? = some ⟨ver,ty,2,C⟩:=qY hlt
  have c1 : (H.set r ⟨ver,ty,2,C.set (i * 2) (I (k + 2 * (i : Int)))⟩)[r]? = some ⟨ver,ty,2,C.set (i * 2) (I (k + 2 * (i : Int)))⟩:=qY hlt
  have v0 : aview (H.set r ⟨ver,ty,2,C⟩) (.nm r ver 0 es.length) = some (es.length,C):=by simp only [aview,c0,if_true,x8];rw [qW (by omega)]
  have v1 : aview (H.set r ⟨ver,ty,2,C.set (i * 2) (I (k + 2 * (i : Int)))⟩) (.nm r ver 0 es.length) = some (es.length,C.set (i * 2) (I (k + 2 * (i : Int)))):=by simp only [aview,c1,if_true,x8];rw [qW (by rw [List.length_set];omega)]
  simp (disch:=(first|omega|(simp only [go_sem];try omega))) only [go_sem,Nat.reduceAdd,Nat.reduceEqDiff,Nat.reduceLeDiff,reduceIte,w64_id,cast_succ]
  repeat (first|(with_reducible first|refine SW.seq ?_|refine q8 ?_|refine SW.rowC ?_|refine SW.skip ?_|refine SW.exit ?_|intro _|refine And.intro (by omega) ?_)|simp (disch:=(first|omega|(simp only [go_sem];try omega))) only [go_sem,Nat.reduceAdd,Nat.reduceEqDiff,Nat.reduceLeDiff,reduceIte,w64_id,cast_succ,v0])
  (first|refine wK rfl (fun h3=>?_) (fun h3=>?_)|refine wL rfl (fun h3=>?_) (fun h3=>?_)|refine wF rfl (fun h3=>?_) (fun h3=>?_)|refine wH rfl (fun h3=>?_) (fun h3=>?_))
  ·have s0 : astore (H.set r ⟨ver,ty,2,C⟩) [I (k + 2 * (i : Int))] (.el (.nm r ver 0 es.length) (i * 2)) = some (H.set r ⟨ver,ty,2,C.set (i * 2) (I (k + 2 * (i : Int)))⟩):=by
    simp only [astore,c0]
    rw [if_pos ⟨trivial,by simp;omega⟩,List.set_set];simp [setMany]
   have s1 : astore (H.set r ⟨ver,ty,2,C.set (i * 2) (I (k + 2 * (i : Int)))⟩) [I (k + 2 * (i : Int) + 1)] (.el (.nm r ver 0 es.length) (i * 2 + 1)) = some (H.set r ⟨ver,ty,2,(C.set (i * 2) (I (k + 2 * (i : Int)))).set (i * 2 + 1) (I (k + 2 * (i : Int) + 1))⟩):=by
    simp only [astore,c1]
    rw [if_pos ⟨trivial,by simp;omega⟩,List.set_set];simp [setMany]
   repeat (first|(with_reducible first|refine SW.seq ?_|refine q8 ?_|refine SW.rowC ?_|refine SW.skip ?_|refine SW.exit ?_|intro _|refine And.intro (by omega) ?_)|simp (disch:=(first|omega|(simp only [go_sem];try omega))) only [go_sem,Nat.reduceAdd,Nat.reduceEqDiff,Nat.reduceLeDiff,reduceIte,w64_id,cast_succ,v0,v1,s0,s1])
   have e2 : k + 2 * (i : Int) + 1 + 1 = k + 2 * ((i + 1 : Nat) : Int):=by omega
   rw [e2,hset (by omega),hLs,if_pos (by omega)]
   refine wB (es.length - (i + 1)) (by omega) ⟨i + 1,by omega,rfl,?_,rfl⟩
   simp [go_sem]
  ·have : i = es.length:=by omega
   subst this
   repeat (first|(with_reducible first|refine SW.seq ?_|refine q8 ?_|refine SW.rowC ?_|refine SW.skip ?_|refine SW.exit ?_|intro _|refine And.intro (by omega) ?_)|simp (disch:=(first|omega|(simp only [go_sem];try omega))) only [go_sem,Nat.reduceAdd,Nat.reduceEqDiff,Nat.reduceLeDiff,reduceIte,w64_id,cast_succ])
   refine SW.ret ?_;(try simp only [go_sem]);(first|refine qP ?_|refine qS ?_|refine qQ ?_);(try simp (disch:=(first|omega|(simp only [go_sem];try omega))) only [go_sem,Nat.reduceAdd,Nat.reduceEqDiff,Nat.reduceLeDiff,reduceIte,w64_id,cast_succ])
   exact GR.of ⟨rfl,hfin _ (by rw [← hC,← hL,List.drop_length,List.append_nil])⟩
 ·have va : aview H v = some (0,[]):=by rcases hnil with rfl|rfl <;> rfl
  refine ACalls.introB s_laws_markEdgeS (by simp) ?_;intro hB hA;unfold c_laws_markEdgeS;simp (disch:=(first|omega|(simp only [go_sem];try omega))) only [go_sem,Nat.reduceAdd,Nat.reduceEqDiff,Nat.reduceLeDiff,reduceIte,w64_id,cast_succ]
  repeat (first|(with_reducible first|refine SW.seq ?_|refine q8 ?_|refine SW.rowC ?_|refine SW.skip ?_|refine SW.exit ?_|intro _|refine And.intro (by omega) ?_)|simp (disch:=(first|omega|(simp only [go_sem];try omega))) only [go_sem,Nat.reduceAdd,Nat.reduceEqDiff,Nat.reduceLeDiff,reduceIte,w64_id,cast_succ])
  refine wJ (fun E0 H0 q E' H'=>q = 0 ∧ E' = E0 ∧ H' = H0) 0 ⟨rfl,rfl,rfl⟩ ?_
  rintro q E' H' ⟨rfl,rfl,rfl⟩
  simp (disch:=(first|omega|(simp only [go_sem];try omega))) only [go_sem,Nat.reduceAdd,Nat.reduceEqDiff,Nat.reduceLeDiff,reduceIte,w64_id,cast_succ]
  repeat (first|(with_reducible first|refine SW.seq ?_|refine q8 ?_|refine SW.rowC ?_|refine SW.skip ?_|refine SW.exit ?_|intro _|refine And.intro (by omega) ?_)|simp (disch:=(first|omega|(simp only [go_sem];try omega))) only [go_sem,Nat.reduceAdd,Nat.reduceEqDiff,Nat.reduceLeDiff,reduceIte,w64_id,cast_succ,va])
  have d0 : decide ((0 : Int) < ((0 : Nat) : Int)) = false:=rfl
  repeat (first|(with_reducible first|refine SW.seq ?_|refine q8 ?_|refine SW.rowC ?_|refine SW.skip ?_|refine SW.exit ?_|intro _|refine And.intro (by omega) ?_)|simp (disch:=(first|omega|(simp only [go_sem];try omega))) only [go_sem,Nat.reduceAdd,Nat.reduceEqDiff,Nat.reduceLeDiff,reduceIte,w64_id,cast_succ,d0])
  refine wE rfl ?_
  repeat (first|(with_reducible first|refine SW.seq ?_|refine q8 ?_|refine SW.rowC ?_|refine SW.skip ?_|refine SW.exit ?_|intro _|refine And.intro (by omega) ?_)|simp (disch:=(first|omega|(simp only [go_sem];try omega))) only [go_sem,Nat.reduceAdd,Nat.reduceEqDiff,Nat.reduceLeDiff,reduceIte,w64_id,cast_succ])
  refine SW.ret ?_;(try simp only [go_sem]);(first|refine qP ?_|refine qS ?_|refine qQ ?_);(try simp (disch:=(first|omega|(simp only [go_sem];try omega))) only [go_sem,Nat.reduceAdd,Nat.reduceEqDiff,Nat.reduceLeDiff,reduceIte,w64_id,cast_succ])
  exact GR.of ⟨by simp,.inr ⟨rfl,hnil⟩,rfl,fun _ _=>rfl⟩
theorem heldEdgeS_ok (H : List Blk) (v : AV) (n : Nat) (k : Int) (ho : RdE H v (numsE k n)) (hk0 : 0 ≤ k) (hl : n ≤ 2000000) (hk : k ≤ 4611686018427387904) :
  ACalls Tryz.prog f_laws_heldEdgeS [v,I k] H (fun r H'=>r = I (k + 2 * n) ∧ H' = H):=by
 have hv : aview H v = some (n,flatE (numsE k n)):=by have:=ho;unfold RdE at this;rwa [numsE_length] at this
 refine ACalls.introB s_laws_heldEdgeS (by simp) ?_;intro hB hA;unfold c_laws_heldEdgeS;simp (disch:=(first|omega|(simp only [go_sem];try omega))) only [go_sem,Nat.reduceAdd,Nat.reduceEqDiff,Nat.reduceLeDiff,reduceIte,w64_id,cast_succ]
 repeat (first|(with_reducible first|refine SW.seq ?_|refine q8 ?_|refine SW.rowC ?_|refine SW.skip ?_|refine SW.exit ?_|intro _|refine And.intro (by omega) ?_)|simp (disch:=(first|omega|(simp only [go_sem];try omega))) only [go_sem,Nat.reduceAdd,Nat.reduceEqDiff,Nat.reduceLeDiff,reduceIte,w64_id,cast_succ,hv])
 refine wJ (fun E0 H0 q E' H'=>∃ i : Nat,i ≤ n ∧ q = n - i ∧ E' = aput (aput E0 5 (I i)) 1 (I (k + 2 * (i : Int))) ∧ H' = H0) n ⟨0,by omega,by omega,by simp [go_sem],rfl⟩ ?_
 rintro q E' H' ⟨i,hi,rfl,rfl,rfl⟩
 simp (disch:=(first|omega|(simp only [go_sem];try omega))) only [go_sem,Nat.reduceAdd,Nat.reduceEqDiff,Nat.reduceLeDiff,reduceIte,w64_id,cast_succ]
 repeat (first|(with_reducible first|refine SW.seq ?_|refine q8 ?_|refine SW.rowC ?_|refine SW.skip ?_|refine SW.exit ?_|intro _|refine And.intro (by omega) ?_)|simp (disch:=(first|omega|(simp only [go_sem];try omega))) only [go_sem,Nat.reduceAdd,Nat.reduceEqDiff,Nat.reduceLeDiff,reduceIte,w64_id,cast_succ,hv])
 (first|refine wK rfl (fun h3=>?_) (fun h3=>?_)|refine wL rfl (fun h3=>?_) (fun h3=>?_)|refine wF rfl (fun h3=>?_) (fun h3=>?_)|refine wH rfl (fun h3=>?_) (fun h3=>?_))
 ·have hgd : (numsE k n).getD i (0,0) = (k + 2 * (i : Int),k + 2 * (i : Int) + 1):=by
   rw [qE];simp [numsE,show i < n by omega]
  have hdr:=flatE_drop (numsE k n) i (by rw [numsE_length];omega)
  rw [hgd] at hdr
  have f0 : (flatE (numsE k n))[i * 2]? = some (I (k + 2 * (i : Int))):=by
   have:=congrArg (fun l : List AV=>l[0]?) hdr
   simpa using this
  have f1 : (flatE (numsE k n))[i * 2 + 1]? = some (I (k + 2 * (i : Int) + 1)):=by
   have:=congrArg (fun l : List AV=>l[1]?) hdr
   simpa using this
  have d0 : ∀ x : Int,decide (x = x) = true:=fun x=>by simp
  repeat (first|(with_reducible first|refine SW.seq ?_|refine q8 ?_|refine SW.rowC ?_|refine SW.skip ?_|refine SW.exit ?_|intro _|refine And.intro (by omega) ?_)|simp (disch:=(first|omega|(simp only [go_sem];try omega))) only [go_sem,Nat.reduceAdd,Nat.reduceEqDiff,Nat.reduceLeDiff,reduceIte,w64_id,cast_succ,hv,f0,d0])
  refine wE rfl ?_
  repeat (first|(with_reducible first|refine SW.seq ?_|refine q8 ?_|refine SW.rowC ?_|refine SW.skip ?_|refine SW.exit ?_|intro _|refine And.intro (by omega) ?_)|simp (disch:=(first|omega|(simp only [go_sem];try omega))) only [go_sem,Nat.reduceAdd,Nat.reduceEqDiff,Nat.reduceLeDiff,reduceIte,w64_id,cast_succ,hv,f1,d0])
  refine wE rfl ?_
  repeat (first|(with_reducible first|refine SW.seq ?_|refine q8 ?_|refine SW.rowC ?_|refine SW.skip ?_|refine SW.exit ?_|intro _|refine And.intro (by omega) ?_)|simp (disch:=(first|omega|(simp only [go_sem];try omega))) only [go_sem,Nat.reduceAdd,Nat.reduceEqDiff,Nat.reduceLeDiff,reduceIte,w64_id,cast_succ])
  have e2 : k + 2 * (i : Int) + 1 + 1 = k + 2 * ((i + 1 : Nat) : Int):=by omega
  rw [e2]
  refine wB (n - (i + 1)) (by omega) ⟨i + 1,by omega,rfl,?_,rfl⟩
  simp [go_sem]
 ·have : i = n:=by omega
  subst this
  repeat (first|(with_reducible first|refine SW.seq ?_|refine q8 ?_|refine SW.rowC ?_|refine SW.skip ?_|refine SW.exit ?_|intro _|refine And.intro (by omega) ?_)|simp (disch:=(first|omega|(simp only [go_sem];try omega))) only [go_sem,Nat.reduceAdd,Nat.reduceEqDiff,Nat.reduceLeDiff,reduceIte,w64_id,cast_succ])
  refine SW.ret ?_;(try simp only [go_sem]);(first|refine qP ?_|refine qS ?_|refine qQ ?_);(try simp (disch:=(first|omega|(simp only [go_sem];try omega))) only [go_sem,Nat.reduceAdd,Nat.reduceEqDiff,Nat.reduceLeDiff,reduceIte,w64_id,cast_succ]);(first|(with_reducible refine GR.drop ?_ ?_;(simp only [go_sem,and_self,and_true,true_and,implies_true,qI,qO]))|refine GR.of ?_);refine ⟨?_,rfl⟩;(try with_reducible rfl)
end Go.Proofs.YtclfmfabcnbbpaaGreat