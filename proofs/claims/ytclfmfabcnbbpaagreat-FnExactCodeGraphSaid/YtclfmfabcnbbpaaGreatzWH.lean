/- The law of CodeGraph. -/
import Derived.Test.YtclfmfabcnbbpaaGreatProg
import Derived.KernelRfl
import Derived.Test.YtclfmfabcnbbpaaGreatzWG
import Derived.Test.YtclfmfabcnbbpaaGreatzWE
import Derived.Test.YtclfmfabcnbbpaaGreatzWF
set_option linter.unusedSimpArgs false
set_option linter.unusedVariables false
set_option maxHeartbeats 4000000
set_option maxRecDepth 100000
open Go.Operand renaming tmp→t'
open Option renaming none→n',some→s'
open Go.Av.SW renaming block→q8,condF→wE
open Go.Av.FunPost renaming three→qQ
open List renaming getElem?_eq_some_iff→qC
namespace Go.Proofs.YtclfmfabcnbbpaaGreat
open Go.Av
abbrev f_laws_FnExactCodeGraph : Nat:=3
def c_laws_FnExactCodeGraph : SC :=
 .seq (.reg [⟨s' 1,.box 27 (t' 0),n'⟩,⟨s' 2,.mv (.const (.bool false)),n'⟩] [1]) (.seq (.reg [⟨s' 3,.mv (.const (.int .i64 1048576)),n'⟩] [1,3]) (.seq (.reg [
 ⟨s' 14,.load 4 true (t' 1),n'⟩,⟨s' 15,.mv (t' 3),n'⟩,⟨s' 16,.call 4 [(t' 14),(t' 15)],n'⟩,⟨s' 3,.mv (t' 16),n'⟩] [1,3]) (.seq (.seq (.reg [⟨s' 17,.mv (t' 3),n'⟩,
 ⟨s' 18,.bin .lss (t' 17) (.const (.int .i64 0)),n'⟩] [1,18]) (.cond (t' 18) (.seq (.reg [⟨s' 2,.mv (.const (.bool true)),n'⟩] [2]) (.ret)) (.skip))) (.seq (.reg [
 ⟨s' 20,.load 4 true (t' 1),n'⟩,⟨s' 21,.call 6 [(t' 20)],n'⟩,⟨s' 22,.call 5 [(t' 21)],n'⟩,⟨s' 19,.mv (t' 22),n'⟩,⟨s' 23,.ext (t' 19) 0,n'⟩,⟨s' 24,.ext (t' 19) 1,n'⟩,
 ⟨s' 4,.alloc 31 [(.slice none 0 0),(.slice none 0 0)],n'⟩,⟨n',.store 2 (t' 4) (t' 23),n'⟩,⟨s' 5,.mv (t' 24),n'⟩] [1,4,5]) (.seq (.reg [⟨s' 25,.load 4 true (t' 1),n'⟩,
 ⟨s' 26,.call 6 [(t' 25)],n'⟩,⟨s' 6,.alloc 36 [(.int .i64 0),(.int .i64 0),(.slice none 0 0),(.slice none 0 0)],n'⟩,⟨n',.store 4 (t' 6) (t' 26),n'⟩] [1,4,5,6]) (.seq (.reg [
 ⟨s' 28,.load 4 true (t' 6),n'⟩,⟨s' 29,.call 7 [(t' 28)],n'⟩,⟨s' 27,.mv (t' 29),n'⟩,⟨s' 30,.ext (t' 27) 0,n'⟩,⟨s' 31,.ext (t' 27) 1,n'⟩,
 ⟨s' 7,.alloc 31 [(.slice none 0 0),(.slice none 0 0)],n'⟩,⟨n',.store 2 (t' 7) (t' 30),n'⟩,⟨s' 8,.mv (t' 31),n'⟩] [1,4,5,6,7,8]) (.seq (.seq (.reg [⟨s' 32,.load 2 true (t' 7),n'⟩,
 ⟨s' 33,.load 2 true (t' 4),n'⟩,⟨s' 34,.call 8 [(t' 32),(t' 33)],n'⟩,⟨s' 35,.un .not (t' 34),n'⟩,⟨s' 36,.mv (t' 35),n'⟩,⟨s' 37,.mv (t' 8),(some (36,false))⟩,
 ⟨s' 38,.mv (t' 5),(some (36,false))⟩,⟨s' 39,.bin .neq (t' 37) (t' 38),(some (36,false))⟩,⟨s' 40,.pick (t' 36) (.const (.bool true)) (t' 39),n'⟩] [1,4,5,6,7,8,40]) (.cond (t' 40)
 (.seq (.reg [⟨s' 2,.mv (.const (.bool false)),n'⟩] [2]) (.ret)) (.skip))) (.seq (.seq (.reg [⟨s' 41,.load 4 true (t' 6),n'⟩,⟨s' 42,.load 4 true (t' 1),n'⟩,
 ⟨s' 43,.qcall 6 [(t' 42)],n'⟩,⟨s' 44,.qcall 9 [(t' 41),(t' 43)],n'⟩,⟨s' 45,.un .not (t' 44),n'⟩] [1,4,5,6,7,8,45]) (.cond (t' 45) (.seq (.reg [
 ⟨s' 2,.mv (.const (.bool false)),n'⟩] [2]) (.ret)) (.skip))) (.seq (.reg [⟨s' 9,.mv (.const (.int .i64 1)),n'⟩] [1,4,5,6,7,8,9]) (.seq (.reg [⟨s' 46,.load 4 true (t' 6),n'⟩,
 ⟨s' 47,.mv (t' 9),n'⟩,⟨s' 48,.call 10 [(t' 46),(t' 47)],n'⟩,⟨s' 9,.mv (t' 48),n'⟩] [1,4,5,7,8,9]) (.seq (.seq (.reg [⟨s' 49,.mv (t' 9),n'⟩,
 ⟨s' 50,.bin .lss (t' 49) (.const (.int .i64 0)),n'⟩,⟨s' 51,.mv (t' 50),n'⟩,⟨s' 52,.load 2 true (t' 7),(some (51,false))⟩,⟨s' 53,.load 2 true (t' 4),(some (51,false))⟩,
 ⟨s' 54,.call 8 [(t' 52),(t' 53)],(some (51,false))⟩,⟨s' 55,.un .not (t' 54),(some (51,false))⟩,⟨s' 56,.pick (t' 51) (.const (.bool true)) (t' 55),n'⟩,⟨s' 57,.mv (t' 56),n'⟩,
 ⟨s' 58,.mv (t' 8),(some (57,false))⟩,⟨s' 59,.mv (t' 5),(some (57,false))⟩,⟨s' 60,.bin .neq (t' 58) (t' 59),(some (57,false))⟩,
 ⟨s' 61,.pick (t' 57) (.const (.bool true)) (t' 60),n'⟩] [1,4,5,7,61]) (.cond (t' 61) (.seq (.reg [⟨s' 2,.mv (.const (.bool false)),n'⟩] [2]) (.ret)) (.skip))) (.seq (.reg [
 ⟨s' 10,.mv (.const (.int .i64 1)),n'⟩] [1,4,5,7,10]) (.seq (.reg [⟨s' 62,.load 2 true (t' 7),n'⟩,⟨s' 63,.mv (t' 10),n'⟩,⟨s' 64,.call 11 [(t' 62),(t' 63)],n'⟩,
 ⟨s' 10,.mv (t' 64),n'⟩] [1,4,5,7,10]) (.seq (.reg [⟨s' 11,.mv (.const (.int .i64 1)),n'⟩] [1,4,5,7,10,11]) (.seq (.reg [⟨s' 65,.load 2 true (t' 7),n'⟩,⟨s' 66,.mv (t' 11),n'⟩,
 ⟨s' 67,.call 12 [(t' 65),(t' 66)],n'⟩,⟨s' 11,.mv (t' 67),n'⟩] [1,4,5,7,10,11]) (.seq (.seq (.reg [⟨s' 68,.mv (t' 11),n'⟩,
 ⟨s' 69,.bin .lss (t' 68) (.const (.int .i64 0)),n'⟩] [1,4,5,7,10,11,69]) (.cond (t' 69) (.seq (.reg [⟨s' 2,.mv (.const (.bool false)),n'⟩] [2]) (.ret)) (.skip)))
 (.seq (.seq (.reg [⟨s' 70,.mv (t' 11),n'⟩,⟨s' 71,.mv (t' 10),n'⟩,⟨s' 72,.bin .neq (t' 70) (t' 71),n'⟩] [1,4,5,7,10,72]) (.cond (t' 72) (.seq (.reg [
 ⟨s' 2,.mv (.const (.bool false)),n'⟩] [2]) (.ret)) (.skip))) (.seq (.reg [⟨s' 74,.load 4 true (t' 1),n'⟩,⟨s' 75,.call 6 [(t' 74)],n'⟩,⟨s' 76,.call 7 [(t' 75)],n'⟩,
 ⟨s' 73,.mv (t' 76),n'⟩,⟨s' 77,.ext (t' 73) 0,n'⟩,⟨s' 78,.ext (t' 73) 1,n'⟩,⟨s' 12,.alloc 31 [(.slice none 0 0),(.slice none 0 0)],n'⟩,⟨n',.store 2 (t' 12) (t' 77),n'⟩,
 ⟨s' 13,.mv (t' 78),n'⟩] [4,5,7,10,12,13]) (.seq (.seq (.reg [⟨s' 79,.load 2 true (t' 12),n'⟩,⟨s' 80,.load 2 true (t' 4),n'⟩,⟨s' 81,.call 8 [(t' 79),(t' 80)],n'⟩,
 ⟨s' 82,.un .not (t' 81),n'⟩,⟨s' 83,.mv (t' 82),n'⟩,⟨s' 84,.mv (t' 13),(some (83,false))⟩,⟨s' 85,.mv (t' 5),(some (83,false))⟩,⟨s' 86,.bin .neq (t' 84) (t' 85),(some (83,false))⟩,
 ⟨s' 87,.pick (t' 83) (.const (.bool true)) (t' 86),n'⟩] [7,10,87]) (.cond (t' 87) (.seq (.reg [⟨s' 2,.mv (.const (.bool false)),n'⟩] [2]) (.ret)) (.skip))) (.seq (.reg [
 ⟨s' 11,.mv (.const (.int .i64 1)),n'⟩] [7,10,11]) (.seq (.reg [⟨s' 88,.load 2 true (t' 7),n'⟩,⟨s' 89,.mv (t' 11),n'⟩,⟨s' 90,.call 12 [(t' 88),(t' 89)],n'⟩,
 ⟨s' 11,.mv (t' 90),n'⟩] [10,11]) (.seq (.seq (.reg [⟨s' 91,.mv (t' 11),n'⟩,⟨s' 92,.bin .lss (t' 91) (.const (.int .i64 0)),n'⟩] [10,11,92]) (.cond (t' 92) (.seq (.reg [
 ⟨s' 2,.mv (.const (.bool false)),n'⟩] [2]) (.ret)) (.skip))) (.seq (.seq (.reg [⟨s' 93,.mv (t' 11),n'⟩,⟨s' 94,.mv (t' 10),n'⟩,⟨s' 95,.bin .neq (t' 93) (t' 94),n'⟩] [95])
 (.cond (t' 95) (.seq (.reg [⟨s' 2,.mv (.const (.bool false)),n'⟩] [2]) (.ret)) (.skip))) (.seq (.reg [⟨s' 2,.mv (.const (.bool true)),n'⟩] [2]) (.ret)))))))))))))))))))))))))
theorem s_laws_FnExactCodeGraph : stripF Tryz.prog 3 [[1],[1,3],[1,3],[1,18],[2],[1,4,5],[1,4,5,6],[1,4,5,6,7,8],[1,4,5,6,7,8,40],[2],[1,4,5,6,7,8,45],[2],[1,4,5,6,7,8,9],[1,4,5,7,8,9],[1,4,5,7,61],[2],[1,4,5,7,10],[1,4,5,7,10],[1,4,5,7,10,11],[1,4,5,7,10,11],[1,4,5,7,10,11,69],[2],[1,4,5,7,10,72],[2],[4,5,7,10,12,13],[7,10,87],[2],[7,10,11],[10,11],[10,11,92],[2],[95],[2],[2]] = some (c_laws_FnExactCodeGraph,[.tmp 2],96):=by kernel_rfl
theorem total_geW : ∀ (m : List (List Int)) (x : List Int),x ∈ m → x.length ≤ total m
 | y :: m,x,h=>by
  rw [total_cons]
  rcases List.mem_cons.1 h with rfl|h
  ·omega
  ·have:=total_geW m x h;omega
theorem froz_agg4 {H : List Blk} {b : Nat} {x0 x1 x2 x3 y0 y1 y2 y3 : AV} (h0 : Froz H b x0 y0) (h1 : Froz H b x1 y1) (h2 : Froz H b x2 y2) (h3 : Froz H b x3 y3) : Froz H b (.agg [x0,x1,x2,x3]) (.agg [y0,y1,y2,y3]):=by
 refine .agg _ _ rfl fun j c c' g1 g2=>?_
 match j with
 | 0=>cases g1;cases g2;exact h0
 | 1=>cases g1;cases g2;exact h1
 | 2=>cases g1;cases g2;exact h2
 | 3=>cases g1;cases g2;exact h3
theorem OwnS.frozW {H : List Blk} {N : Nat → Prop} {t b : Nat} {c : AV} {xs : List Int} (h : OwnS H N t c xs) (hN : ∀ r,N r → b ≤ r) : Froz H b c (ilS xs):=by
 rcases h with ⟨r,ver,ty,rfl,h1,h2,h3⟩|⟨rfl,rfl|rfl⟩
 ·exact froz_rowI (hN r h1) h3
 ·exact .nil
 ·exact .old _ (by rw [show AV.il 0 [] = ilS [] from rfl,Bel_ilS];trivial)
theorem lawCodeGraph_ok (H : List Blk) (p d : Int) (L : List Int) (m : List (List Int)) (hwd : (Lit.int .i64 d).wf = true) : ACalls Tryz.prog f_laws_FnExactCodeGraph [.agg [I p,I d,ilS L,ilSS m]] H (fun r _=>r = Bv true):=by
 have hd : -9223372036854775808 ≤ d ∧ d ≤ 9223372036854775807:=by simp [Lit.wf,IntKind.min,IntKind.max,IntKind.signed,IntKind.bits] at hwd;omega
 have hlen:=cgV_len p d L m
 refine ACalls.introB s_laws_FnExactCodeGraph (by simp) ?_;intro hB hA;unfold c_laws_FnExactCodeGraph;simp (disch:=(first|omega|(simp only [go_sem];try omega))) only [go_sem,Nat.reduceAdd,Nat.reduceEqDiff,Nat.reduceLeDiff,reduceIte,w64_id,cast_succ]
 repeat (first|(with_reducible first|refine SW.seq ?_|refine q8 ?_|refine SW.rowC ?_|refine SW.skip ?_|refine SW.exit ?_|intro _|refine And.intro (by omega) ?_)|simp (disch:=(first|omega|(simp only [go_sem];try omega))) only [go_sem,Nat.reduceAdd,Nat.reduceEqDiff,Nat.reduceLeDiff,reduceIte,w64_id,cast_succ])
 refine (szCode_ok _ p d L m _ (by omega) (by omega)).mono ?_
 rintro r H' ⟨⟨z,rfl,g1,g2,g3⟩,rfl⟩
 repeat (first|(with_reducible first|refine SW.seq ?_|refine q8 ?_|refine SW.rowC ?_|refine SW.skip ?_|refine SW.exit ?_|intro _|refine And.intro (by omega) ?_)|simp (disch:=(first|omega|(simp only [go_sem];try omega))) only [go_sem,Nat.reduceAdd,Nat.reduceEqDiff,Nat.reduceLeDiff,reduceIte,w64_id,cast_succ])
 (first|refine SW.condD rfl (fun h2=>?_) (fun h2=>?_)|refine SW.condN rfl (fun h2=>?_) (fun h2=>?_)|refine SW.condNB rfl (fun h2=>?_) (fun h2=>?_)|refine SW.condB rfl (fun h2=>?_) (fun h2=>?_))
 ·repeat (first|(with_reducible first|refine SW.seq ?_|refine q8 ?_|refine SW.rowC ?_|refine SW.skip ?_|refine SW.exit ?_|intro _|refine And.intro (by omega) ?_)|simp (disch:=(first|omega|(simp only [go_sem];try omega))) only [go_sem,Nat.reduceAdd,Nat.reduceEqDiff,Nat.reduceLeDiff,reduceIte,w64_id,cast_succ])
  refine SW.ret ?_;(try simp only [go_sem]);(first|refine FunPost.one ?_|refine FunPost.two ?_|refine qQ ?_);(try simp (disch:=(first|omega|(simp only [go_sem];try omega))) only [go_sem,Nat.reduceAdd,Nat.reduceEqDiff,Nat.reduceLeDiff,reduceIte,w64_id,cast_succ])
  exact GR.of rfl
 have g4:=g3 (by omega)
 have hsx:=small_rows (xss:=m) (z:=z) (k:=1048576 - L.length) (by omega) (by omega) (by omega)
 have hL : L.length ≤ 1048576:=by omega
 have t1:=toCode_fn p d L m (by omega) hsx.1 hsx.2
 have htot : total m ≤ 1048576:=by omega
 have hmx : ∀ x ∈ m,x.length ≤ 2000000:=fun x hx=>by have:=total_geW m x hx;omega
 have hs:=specCodeGraph_fn p d L m (by omega) hd (by omega) hmx
 have hi:=fun H=>implCodeGraph_ok H p d L m (by omega) hd (by omega) hmx
 have hi2:=fun H args hf=>gr_lend (H:=H) (args:=args) (implCodeGraph_ok [] p d L m (by omega) hd (by omega) hmx) hf
 generalize cgV p d L m = V at *
 obtain ⟨⟨cols,es⟩,code⟩:=V
 simp only at hs hlen
 obtain ⟨hlc,hle⟩:=hlen
 repeat (first|(with_reducible first|refine SW.seq ?_|refine q8 ?_|refine SW.rowC ?_|refine SW.skip ?_|refine SW.exit ?_|intro _|refine And.intro (by omega) ?_)|simp (disch:=(first|omega|(simp only [go_sem];try omega))) only [go_sem,Nat.reduceAdd,Nat.reduceEqDiff,Nat.reduceLeDiff,reduceIte,w64_id,cast_succ])
 refine ACalls.fn (t1 _) ?_
 have hcE : (ilE es).cell1 = true:=rfl
 have hpE : partsOf (ilE es) = [ilE es]:=rfl
 repeat (first|(with_reducible first|refine SW.seq ?_|refine q8 ?_|refine SW.rowC ?_|refine SW.skip ?_|refine SW.exit ?_|refine PFn.use (hs) ?_|refine PFn.useq (hs) ?_|intro _|refine And.intro (by omega) ?_)|simp (disch:=(first|omega|(simp only [go_sem];try omega))) only [go_sem,Nat.reduceAdd,Nat.reduceEqDiff,Nat.reduceLeDiff,reduceIte,w64_id,cast_succ,hcE,hpE])
 refine (toCode_ok _ p d L m (by omega) hsx.1 hsx.2).mono ?_
 rintro r H1 ⟨ext,a,u,v,hH1,rfl,ha1,ha2,ownu,own⟩
 have e0 : (H ++ [(⟨0,27,1,[I p,I d,ilS L,ilSS m]⟩ : Blk),⟨0,tyGr,1,[ilS cols,ilE es]⟩])[H.length]? = some ⟨0,27,1,[I p,I d,ilS L,ilSS m]⟩:=by simp
 have e1 : (H ++ [(⟨0,27,1,[I p,I d,ilS L,ilSS m]⟩ : Blk),⟨0,tyGr,1,[ilS cols,ilE es]⟩])[H.length + 1]? = some ⟨0,tyGr,1,[ilS cols,ilE es]⟩:=by simp
 have pa:=get_appB2 e0 ext
 have pw:=get_appB2 e1 ext
 rw [← hH1] at pa pw
 have hb : (H ++ [(⟨0,27,1,[I p,I d,ilS L,ilSS m]⟩ : Blk),⟨0,tyGr,1,[ilS cols,ilE es]⟩]).length = H.length + 2:=by simp
 rw [hb] at ha1
 have hlt : H.length + 1 < H1.length:=(qC.1 pw).1
 clear hH1 hb e0 e1
 repeat (first|(with_reducible first|refine SW.seq ?_|refine q8 ?_|refine SW.rowC ?_|refine SW.skip ?_|refine SW.exit ?_|intro _|refine And.intro (by omega) ?_)|simp (disch:=(first|omega|(simp only [go_sem];try omega))) only [go_sem,Nat.reduceAdd,Nat.reduceEqDiff,Nat.reduceLeDiff,reduceIte,w64_id,cast_succ,ownu.oneG.1,ownu.oneG.2,own.one.1,own.one.2])
 have px:=(show (H1 ++ [(⟨0,36,1,[I p,I d,u,v]⟩ : Blk)])[H1.length]? = some ⟨0,36,1,[I p,I d,u,v]⟩ by simp)
 replace pa:=get_appB2 pa [(⟨0,36,1,[I p,I d,u,v]⟩ : Blk)]
 replace pw:=get_appB2 pw [(⟨0,36,1,[I p,I d,u,v]⟩ : Blk)]
 replace ownu:=ownu.appG [(⟨0,36,1,[I p,I d,u,v]⟩ : Blk)]
 replace own:=own.append [(⟨0,36,1,[I p,I d,u,v]⟩ : Blk)]
 generalize hg : H1.length = g at *
 have hl2 : (H1 ++ [(⟨0,36,1,[I p,I d,u,v]⟩ : Blk)]).length = g + 1:=by simp [hg]
 generalize H1 ++ [(⟨0,36,1,[I p,I d,u,v]⟩ : Blk)] = H2 at *
 have pxl : acells H2 4 (.pc g 0 0) = some [I p,I d,u,v]:=pc_lds px (by simp)
 repeat (first|(with_reducible first|refine SW.seq ?_|refine q8 ?_|refine SW.rowC ?_|refine SW.skip ?_|refine SW.exit ?_|intro _|refine And.intro (by omega) ?_)|simp (disch:=(first|omega|(simp only [go_sem];try omega))) only [go_sem,Nat.reduceAdd,Nat.reduceEqDiff,Nat.reduceLeDiff,reduceIte,w64_id,cast_succ,pc_alive px,pxl,ownu.oneG.1,ownu.oneG.2,own.one.1,own.one.2])
 refine (hi2 _ _ (.cons (froz_agg4 (froz_I' _) (froz_I' _) (ownu.frozW (fun r _=>Nat.zero_le _)) (own.froz (fun r _=>Nat.zero_le _))) .nil)).mono ?_
 rintro r H3 ⟨ext2,gv,gu,q,hH3,rfl,q1,q2,hc,he⟩
 replace pa:=get_appB2 pa ext2
 replace pw:=get_appB2 pw ext2
 replace px:=get_appB2 px ext2
 replace ownu:=ownu.appG ext2
 replace own:=own.append ext2
 replace hc : OwnS H3 (Btw H2.length q) H3.length gv cols:=hc
 replace he : OwnE H3 (Btw q H3.length) gu es:=he
 have hl3 : H2.length ≤ H3.length:=by rw [hH3];simp
 rw [← hH3] at pa pw px own ownu
 clear hH3 pxl
 repeat (first|(with_reducible first|refine SW.seq ?_|refine q8 ?_|refine SW.rowC ?_|refine SW.skip ?_|refine SW.exit ?_|intro _|refine And.intro (by omega) ?_)|simp (disch:=(first|omega|(simp only [go_sem];try omega))) only [go_sem,Nat.reduceAdd,Nat.reduceEqDiff,Nat.reduceLeDiff,reduceIte,w64_id,cast_succ,hc.oneG.1,hc.oneG.2,he.one.1,he.one.2])
 have pg:=(show (H3 ++ [(⟨0,tyGr,1,[gv,gu]⟩ : Blk)])[H3.length]? = some ⟨0,tyGr,1,[gv,gu]⟩ by simp)
 replace pa:=get_appB2 pa [(⟨0,tyGr,1,[gv,gu]⟩ : Blk)]
 replace pw:=get_appB2 pw [(⟨0,tyGr,1,[gv,gu]⟩ : Blk)]
 replace px:=get_appB2 px [(⟨0,tyGr,1,[gv,gu]⟩ : Blk)]
 replace ownu:=ownu.appG [(⟨0,tyGr,1,[gv,gu]⟩ : Blk)]
 replace own:=own.append [(⟨0,tyGr,1,[gv,gu]⟩ : Blk)]
 replace hc:=hc.appG [(⟨0,tyGr,1,[gv,gu]⟩ : Blk)]
 replace he:=he.append [(⟨0,tyGr,1,[gv,gu]⟩ : Blk)]
 generalize hgg : H3.length = gg at *
 generalize H3 ++ [(⟨0,tyGr,1,[gv,gu]⟩ : Blk)] = H4 at *
 have hgl : gg < H4.length:=(qC.1 pg).1
 have pgl : acells H4 2 (.pc gg 0 0) = some [gv,gu]:=pc_lds pg (by simp)
 have pwl : acells H4 2 (.pc (H.length + 1) 0 0) = some [ilS cols,ilE es]:=pc_lds pw (by simp)
 repeat (first|(with_reducible first|refine SW.seq ?_|refine q8 ?_|refine SW.rowC ?_|refine SW.skip ?_|refine SW.exit ?_|intro _|refine And.intro (by omega) ?_)|simp (disch:=(first|omega|(simp only [go_sem];try omega))) only [go_sem,Nat.reduceAdd,Nat.reduceEqDiff,Nat.reduceLeDiff,reduceIte,w64_id,cast_succ,pc_alive pw,pc_alive pg,pwl,pgl])
 refine ACalls.fn (eqGraph_ok _ gv (ilS cols) gu (ilE es) cols cols es es hc.oneG.1 rfl he.one.1 rfl hc.rd (rd_ilS _ _) he.rd (rd_ilE _ _) (by omega)) ?_
 rw [show (decide (cols = cols) && decide (es = es)) = true by simp]
 repeat (first|(with_reducible first|refine SW.seq ?_|refine q8 ?_|refine SW.rowC ?_|refine SW.skip ?_|refine SW.exit ?_|intro _|refine And.intro (by omega) ?_)|simp (disch:=(first|omega|(simp only [go_sem];try omega))) only [go_sem,Nat.reduceAdd,Nat.reduceEqDiff,Nat.reduceLeDiff,reduceIte,w64_id,cast_succ])
 refine wE rfl ?_
 have pxl : acells H4 4 (.pc g 0 0) = some [I p,I d,u,v]:=pc_lds px (by simp)
 have pal : acells H4 4 (.pc H.length 0 0) = some [I p,I d,ilS L,ilSS m]:=pc_lds pa (by simp)
 repeat (first|(with_reducible first|refine SW.seq ?_|refine q8 ?_|refine SW.rowC ?_|refine SW.skip ?_|refine SW.exit ?_|refine PFn.use (t1) ?_|refine PFn.useq (t1) ?_|intro _|refine And.intro (by omega) ?_)|simp (disch:=(first|omega|(simp only [go_sem];try omega))) only [go_sem,Nat.reduceAdd,Nat.reduceEqDiff,Nat.reduceLeDiff,reduceIte,w64_id,cast_succ,pc_alive px,pc_alive pa,pxl,pal])
 refine QcallW.of (fun ext=>eqCode_ok _ p d u (ilS L) v (ilSS m) L m ownu.oneG.1 rfl own.one.1 rfl (ownu.appG ext).rd (rd_ilS _ _) (own.append ext).rd (rd_ilSS _ _)) ?_
 repeat (first|(with_reducible first|refine SW.seq ?_|refine q8 ?_|refine SW.rowC ?_|refine SW.skip ?_|refine SW.exit ?_|intro _|refine And.intro (by omega) ?_)|simp (disch:=(first|omega|(simp only [go_sem];try omega))) only [go_sem,Nat.reduceAdd,Nat.reduceEqDiff,Nat.reduceLeDiff,reduceIte,w64_id,cast_succ])
 refine wE rfl ?_
 repeat (first|(with_reducible first|refine SW.seq ?_|refine q8 ?_|refine SW.rowC ?_|refine SW.skip ?_|refine SW.exit ?_|intro _|refine And.intro (by omega) ?_)|simp (disch:=(first|omega|(simp only [go_sem];try omega))) only [go_sem,Nat.reduceAdd,Nat.reduceEqDiff,Nat.reduceLeDiff,reduceIte,w64_id,cast_succ,pc_alive px,pxl,ownu.oneG.1,ownu.oneG.2,own.one.1,own.one.2])
 refine (markCode_ok _ _ _ _ p d u v L m 1 ownu.oneG.1 own.one.1 ownu own (fun j h1 h2=>by unfold Btw at h1;omega) (fun h=>by omega) (fun j h1=>by unfold Btw at h1;omega) (by omega) (by omega)).mono ?_
 rintro r H5 ⟨rfl,m1,m2⟩
 have hlt5 : ∀ j b,H4[j]? = some b → j < H4.length:=fun j b h=>(qC.1 h).1
 replace pw:=(m2 (H.length + 1) (by omega) (by unfold Btw;omega) (by omega)).trans pw
 replace pg:=(m2 gg (by omega) (by unfold Btw;omega) (by omega)).trans pg
 replace pa:=(m2 H.length (by omega) (by unfold Btw;omega) (by omega)).trans pa
 replace hc:=hc.same (H':=H5) (fun j b hj _ hb=>by rw [m2 j (by unfold Btw at hj;omega) (by unfold Btw at hj ⊢;omega) (hlt5 j b hb)];exact hb)
 replace he:=he.same (H':=H5) (fun j b hj hb=>by rw [m2 j (by unfold Btw at hj;omega) (by unfold Btw at hj ⊢;omega) (hlt5 j b hb)];exact hb)
 clear own ownu px pxl pal pwl pgl
 have pgl : acells H5 2 (.pc gg 0 0) = some [gv,gu]:=pc_lds pg (by simp)
 have pwl : acells H5 2 (.pc (H.length + 1) 0 0) = some [ilS cols,ilE es]:=pc_lds pw (by simp)
 have hneg1 : decide ((1 : Int) + L.length + total m < 0) = false:=decide_eq_false (by omega)
 repeat (first|(with_reducible first|refine SW.seq ?_|refine q8 ?_|refine SW.rowC ?_|refine SW.skip ?_|refine SW.exit ?_|intro _|refine And.intro (by omega) ?_)|simp (disch:=(first|omega|(simp only [go_sem];try omega))) only [go_sem,Nat.reduceAdd,Nat.reduceEqDiff,Nat.reduceLeDiff,reduceIte,w64_id,cast_succ,hneg1,pc_alive pw,pc_alive pg,pwl,pgl])
 refine ACalls.fn (eqGraph_ok _ gv (ilS cols) gu (ilE es) cols cols es es hc.oneG.1 rfl he.one.1 rfl hc.rd (rd_ilS _ _) he.rd (rd_ilE _ _) (by omega)) ?_
 rw [show (decide (cols = cols) && decide (es = es)) = true by simp]
 repeat (first|(with_reducible first|refine SW.seq ?_|refine q8 ?_|refine SW.rowC ?_|refine SW.skip ?_|refine SW.exit ?_|intro _|refine And.intro (by omega) ?_)|simp (disch:=(first|omega|(simp only [go_sem];try omega))) only [go_sem,Nat.reduceAdd,Nat.reduceEqDiff,Nat.reduceLeDiff,reduceIte,w64_id,cast_succ])
 refine wE rfl ?_
 repeat (first|(with_reducible first|refine SW.seq ?_|refine q8 ?_|refine SW.rowC ?_|refine SW.skip ?_|refine SW.exit ?_|intro _|refine And.intro (by omega) ?_)|simp (disch:=(first|omega|(simp only [go_sem];try omega))) only [go_sem,Nat.reduceAdd,Nat.reduceEqDiff,Nat.reduceLeDiff,reduceIte,w64_id,cast_succ,pc_alive pg,pgl,hc.oneG.1,hc.oneG.2,he.one.1,he.one.2])
 refine (markGraph_ok _ _ _ _ 1 gv gu cols es hc.oneG.1 he.one.1 hc he (fun j hj=>by unfold Btw at hj ⊢;omega) (by unfold Btw;omega) (by omega) (by omega) (by omega) (by omega)).mono ?_
 rintro r H7 ⟨rfl,hc7,he7,p1,p2⟩
 have hlt7 : ∀ j b,H5[j]? = some b → j < H5.length:=fun j b h=>(qC.1 h).1
 replace pw:=(p2 (H.length + 1) (by unfold Btw;omega) (by unfold Btw;omega) (hlt7 _ _ pw)).trans pw
 replace pg:=(p2 gg (by unfold Btw;omega) (by unfold Btw;omega) (hlt7 _ _ pg)).trans pg
 replace pa:=(p2 H.length (by unfold Btw;omega) (by unfold Btw;omega) (hlt7 _ _ pa)).trans pa
 clear hc he pgl pwl
 have pgl : acells H7 2 (.pc gg 0 0) = some [gv,gu]:=pc_lds pg (by simp)
 repeat (first|(with_reducible first|refine SW.seq ?_|refine q8 ?_|refine SW.rowC ?_|refine SW.skip ?_|refine SW.exit ?_|intro _|refine And.intro (by omega) ?_)|simp (disch:=(first|omega|(simp only [go_sem];try omega))) only [go_sem,Nat.reduceAdd,Nat.reduceEqDiff,Nat.reduceLeDiff,reduceIte,w64_id,cast_succ,pc_alive pg,pgl,hc7.oneG.1,hc7.oneG.2,he7.one.1,he7.one.2])
 refine ACalls.fn (heldGraph_ok _ 1 gv gu cols.length es.length hc7.oneG.1 he7.one.1 hc7.rd he7.rd (by omega) (by omega) (by omega) (by omega)) ?_
 have hneg2 : decide ((1 : Int) + cols.length + 2 * es.length < 0) = false:=decide_eq_false (by omega)
 repeat (first|(with_reducible first|refine SW.seq ?_|refine q8 ?_|refine SW.rowC ?_|refine SW.skip ?_|refine SW.exit ?_|intro _|refine And.intro (by omega) ?_)|simp (disch:=(first|omega|(simp only [go_sem];try omega))) only [go_sem,Nat.reduceAdd,Nat.reduceEqDiff,Nat.reduceLeDiff,reduceIte,w64_id,cast_succ,hneg2])
 refine wE rfl ?_
 repeat (first|(with_reducible first|refine SW.seq ?_|refine q8 ?_|refine SW.rowC ?_|refine SW.skip ?_|refine SW.exit ?_|intro _|refine And.intro (by omega) ?_)|simp (disch:=(first|omega|(simp only [go_sem];try omega))) only [go_sem,Nat.reduceAdd,Nat.reduceEqDiff,Nat.reduceLeDiff,reduceIte,w64_id,cast_succ])
 refine wE rfl ?_
 repeat (first|(with_reducible first|refine SW.seq ?_|refine q8 ?_|refine SW.rowC ?_|refine SW.skip ?_|refine SW.exit ?_|refine PFn.use (t1) ?_|refine PFn.useq (t1) ?_|intro _|refine And.intro (by omega) ?_)|simp (disch:=(first|omega|(simp only [go_sem];try omega))) only [go_sem,Nat.reduceAdd,Nat.reduceEqDiff,Nat.reduceLeDiff,reduceIte,w64_id,cast_succ,pc_alive pa,show acells H7 4 (.pc H.length 0 0) = some [I p,I d,ilS L,ilSS m] from pc_lds pa (by simp)])
 refine (hi _).mono ?_
 rintro r H9 ⟨ext3,hv,hw,q5,rfl,rfl,q6,q7,hc9,he9⟩
 replace hc9 : OwnS (H7 ++ ext3) (Btw H7.length q5) (H7 ++ ext3).length hv cols:=hc9
 replace he9 : OwnE (H7 ++ ext3) (Btw q5 (H7 ++ ext3).length) hw es:=he9
 have e9 : H7 ++ (ext3 ++ [(⟨0,tyGr,1,[hv,hw]⟩ : Blk)]) = H7 ++ ext3 ++ [(⟨0,tyGr,1,[hv,hw]⟩ : Blk)]:=by simp
 replace pw:=get_appB2 (get_appB2 pw ext3) [(⟨0,tyGr,1,[hv,hw]⟩ : Blk)]
 replace pg:=get_appB2 (get_appB2 pg ext3) [(⟨0,tyGr,1,[hv,hw]⟩ : Blk)]
 replace hc7:=(hc7.appG ext3).appG [(⟨0,tyGr,1,[hv,hw]⟩ : Blk)]
 replace he7:=(he7.append ext3).append [(⟨0,tyGr,1,[hv,hw]⟩ : Blk)]
 have hc10:=hc9.appG [(⟨0,tyGr,1,[hv,hw]⟩ : Blk)]
 have he10:=he9.append [(⟨0,tyGr,1,[hv,hw]⟩ : Blk)]
 have ph : (H7 ++ ext3 ++ [(⟨0,tyGr,1,[hv,hw]⟩ : Blk)])[H7.length + ext3.length]? = some ⟨0,tyGr,1,[hv,hw]⟩:=by rw [List.getElem?_append_right (by simp)];simp
 rw [← e9] at pw pg hc7 he7 hc10 he10 ph
 clear pgl e9
 repeat (first|(with_reducible first|refine SW.seq ?_|refine q8 ?_|refine SW.rowC ?_|refine SW.skip ?_|refine SW.exit ?_|intro _|refine And.intro (by omega) ?_)|simp (disch:=(first|omega|(simp only [go_sem];try omega))) only [go_sem,Nat.reduceAdd,Nat.reduceEqDiff,Nat.reduceLeDiff,reduceIte,w64_id,cast_succ,hc9.oneG.1,hc9.oneG.2,he9.one.1,he9.one.2])
 generalize H7 ++ (ext3 ++ [(⟨0,tyGr,1,[hv,hw]⟩ : Blk)]) = H10 at *
 have pwl : acells H10 2 (.pc (H.length + 1) 0 0) = some [ilS cols,ilE es]:=pc_lds pw (by simp)
 have phl : acells H10 2 (.pc (H7.length + ext3.length) 0 0) = some [hv,hw]:=pc_lds ph (by simp)
 have pgl : acells H10 2 (.pc gg 0 0) = some [gv,gu]:=pc_lds pg (by simp)
 repeat (first|(with_reducible first|refine SW.seq ?_|refine q8 ?_|refine SW.rowC ?_|refine SW.skip ?_|refine SW.exit ?_|intro _|refine And.intro (by omega) ?_)|simp (disch:=(first|omega|(simp only [go_sem];try omega))) only [go_sem,Nat.reduceAdd,Nat.reduceEqDiff,Nat.reduceLeDiff,reduceIte,w64_id,cast_succ,pwl,phl,pc_alive pw,pc_alive ph])
 refine ACalls.fn (eqGraph_ok _ hv (ilS cols) hw (ilE es) cols cols es es hc10.oneG.1 rfl he10.one.1 rfl hc10.rd (rd_ilS _ _) he10.rd (rd_ilE _ _) (by omega)) ?_
 rw [show (decide (cols = cols) && decide (es = es)) = true by simp]
 repeat (first|(with_reducible first|refine SW.seq ?_|refine q8 ?_|refine SW.rowC ?_|refine SW.skip ?_|refine SW.exit ?_|intro _|refine And.intro (by omega) ?_)|simp (disch:=(first|omega|(simp only [go_sem];try omega))) only [go_sem,Nat.reduceAdd,Nat.reduceEqDiff,Nat.reduceLeDiff,reduceIte,w64_id,cast_succ])
 refine wE rfl ?_
 repeat (first|(with_reducible first|refine SW.seq ?_|refine q8 ?_|refine SW.rowC ?_|refine SW.skip ?_|refine SW.exit ?_|intro _|refine And.intro (by omega) ?_)|simp (disch:=(first|omega|(simp only [go_sem];try omega))) only [go_sem,Nat.reduceAdd,Nat.reduceEqDiff,Nat.reduceLeDiff,reduceIte,w64_id,cast_succ,pgl,pc_alive pg])
 refine ACalls.fn (heldGraph_ok _ 1 gv gu cols.length es.length hc7.oneG.1 he7.one.1 hc7.rd he7.rd (by omega) (by omega) (by omega) (by omega)) ?_
 repeat (first|(with_reducible first|refine SW.seq ?_|refine q8 ?_|refine SW.rowC ?_|refine SW.skip ?_|refine SW.exit ?_|intro _|refine And.intro (by omega) ?_)|simp (disch:=(first|omega|(simp only [go_sem];try omega))) only [go_sem,Nat.reduceAdd,Nat.reduceEqDiff,Nat.reduceLeDiff,reduceIte,w64_id,cast_succ,hneg2])
 refine wE rfl ?_
 repeat (first|(with_reducible first|refine SW.seq ?_|refine q8 ?_|refine SW.rowC ?_|refine SW.skip ?_|refine SW.exit ?_|intro _|refine And.intro (by omega) ?_)|simp (disch:=(first|omega|(simp only [go_sem];try omega))) only [go_sem,Nat.reduceAdd,Nat.reduceEqDiff,Nat.reduceLeDiff,reduceIte,w64_id,cast_succ])
 refine wE rfl ?_
 repeat (first|(with_reducible first|refine SW.seq ?_|refine q8 ?_|refine SW.rowC ?_|refine SW.skip ?_|refine SW.exit ?_|intro _|refine And.intro (by omega) ?_)|simp (disch:=(first|omega|(simp only [go_sem];try omega))) only [go_sem,Nat.reduceAdd,Nat.reduceEqDiff,Nat.reduceLeDiff,reduceIte,w64_id,cast_succ])
 refine SW.ret ?_;(try simp only [go_sem]);(first|refine FunPost.one ?_|refine FunPost.two ?_|refine qQ ?_);(try simp (disch:=(first|omega|(simp only [go_sem];try omega))) only [go_sem,Nat.reduceAdd,Nat.reduceEqDiff,Nat.reduceLeDiff,reduceIte,w64_id,cast_succ])
 exact GR.of rfl
end Go.Proofs.YtclfmfabcnbbpaaGreat