/- Codes: the program's validity. -/
import Derived.Test.YtclfmfabcnbbpaaGreatProg
import Derived.KernelRfl
import Derived.Test.YtclfmfabcnbbpaaGreatzPK
import Derived.Test.YtclfmfabcnbbpaaGreatzPC
import Derived.Test.YtclfmfabcnbbpaaGreatzFK
import Derived.Test.YtclfmfabcnbbpaaGreatzL8
set_option linter.unusedSimpArgs false
set_option linter.unusedVariables false
set_option maxHeartbeats 4000000
set_option maxRecDepth 100000
open Go.Operand renaming tmp→t'
open Option renaming none→n',some→s'
open List renaming length_take→wT,getElem?_eq_some_iff→qC,take_succ_cons→qI,take_zero→qO
open Go.Av.SW renaming block→q8,condT→wM
open Go.Av.FunPost renaming one→qP,two→qS,three→qQ
open Int renaming toNat_natCast→wA
namespace Go.Proofs.YtclfmfabcnbbpaaGreat
open Go.Av
abbrev f_impl_ValidCode : Nat:=19
def c_impl_ValidCode : SC :=
 .seq (.reg [⟨s' 1,.box 36 (t' 0),n'⟩,⟨s' 2,.mv (.const (.bool false)),n'⟩] [1]) (.seq (.seq (.reg [⟨s' 6,.faddr 0 (t' 1),n'⟩,⟨s' 7,.load 3 true (t' 6),n'⟩,
 ⟨s' 8,.faddr 3 (t' 1),n'⟩,⟨s' 9,.load 1 false (t' 8),n'⟩,⟨s' 10,.qcall 43 [(t' 7),(t' 9)],n'⟩,⟨s' 11,.un .not (t' 10),n'⟩,⟨s' 12,.mv (t' 11),n'⟩,
 ⟨s' 13,.faddr 3 (t' 1),(some (12,false))⟩,⟨s' 14,.load 1 false (t' 13),(some (12,false))⟩,⟨s' 15,.qlen (t' 14),(some (12,false))⟩,
 ⟨s' 16,.bin .gtr (t' 15) (.const (.int .i64 8)),(some (12,false))⟩,⟨s' 17,.pick (t' 12) (.const (.bool true)) (t' 16),n'⟩,⟨s' 18,.mv (t' 17),n'⟩,
 ⟨s' 19,.faddr 0 (t' 1),(some (18,false))⟩,⟨s' 20,.load 3 true (t' 19),(some (18,false))⟩,⟨s' 21,.qcall 20 [(t' 20)],(some (18,false))⟩,⟨s' 22,.faddr 3 (t' 1),(some (18,false))⟩,
 ⟨s' 23,.load 1 false (t' 22),(some (18,false))⟩,⟨s' 24,.qcall 45 [(t' 23)],(some (18,false))⟩,⟨s' 25,.qcall 44 [(t' 21),(t' 24),(.const (.int .i64 4096))],(some (18,false))⟩,
 ⟨s' 26,.bin .gtr (t' 25) (.const (.int .i64 4096)),(some (18,false))⟩,⟨s' 27,.pick (t' 18) (.const (.bool true)) (t' 26),n'⟩] [1,27]) (.cond (t' 27) (.seq (.reg [
 ⟨s' 2,.mv (.const (.bool false)),n'⟩] [2]) (.ret)) (.skip))) (.seq (.reg [⟨s' 29,.faddr 0 (t' 1),n'⟩,⟨s' 30,.load 3 true (t' 29),n'⟩,⟨s' 31,.qcall 46 [(t' 30)],n'⟩,
 ⟨s' 32,.faddr 3 (t' 1),n'⟩,⟨s' 33,.load 1 false (t' 32),n'⟩,⟨s' 34,.call 47 [(t' 31),(t' 33)],n'⟩,⟨s' 28,.mv (t' 34),n'⟩,⟨s' 35,.ext (t' 28) 0,n'⟩,⟨s' 36,.ext (t' 28) 1,n'⟩,
 ⟨s' 37,.ext (t' 28) 2,n'⟩,⟨s' 3,.mv (t' 35),n'⟩,⟨s' 4,.mv (t' 36),n'⟩,⟨s' 5,.mv (t' 37),n'⟩] [1,3]) (.seq (.reg [⟨s' 38,.mv (t' 3),n'⟩,⟨s' 39,.faddr 3 (t' 1),n'⟩,
 ⟨s' 40,.load 1 false (t' 39),n'⟩,⟨s' 41,.call 48 [(t' 38),(t' 40)],n'⟩,⟨s' 2,.mv (t' 41),n'⟩] [2]) (.ret))))
theorem s_impl_ValidCode : stripF Tryz.prog 19 [[1],[1,27],[2],[1,3,1000005],[2]] = some (c_impl_ValidCode,[.tmp 2],42):=by kernel_rfl
theorem TabO.rdTake {X : List Blk} {b0 tb ver w : Nat} {rs : List (Nat × Nat × Nat)} {xss : List (List Int)} (h : TabO X b0 tb ver rs w xss) {t : Nat} (ht : t ≤ xss.length) : RdSS X (.nm tb ver 0 t) (xss.take t):=by
 have hl : (xss.take t).length = t:=by rw [wT];omega
 refine ⟨(rs.map fun p=>AV.nm p.1 p.2.1 0 w).take t,?_,?_,fun j c xs hc hx=>?_⟩
 ·rw [hl]
  simp only [aview,h.top,if_true,List.drop_zero,Nat.mul_one]
 ·rw [hl,wT,List.length_map,h.len];omega
 ·have hj : j < t:=by
   have:=(qC.1 hx).1
   omega
  rw [List.getElem?_take_of_lt hj] at hc hx
  rw [List.getElem?_map] at hc
  cases hp : rs[j]? with
  | none=>rw [hp] at hc;cases hc
  | some p =>
   rw [hp] at hc
   cases hc
   have hr:=h.rview hp
   have hxe : xss.getD j [] = xs:=by rw [List.getD_eq_getElem?_getD,hx];rfl
   have hrl:=(h.row j p hp).1
   rw [hxe] at hr hrl
   unfold RdS
   rw [hrl];exact hr
theorem ValidCode_fn (p d : Int) (poly : List Int) (m : List (List Int)) (hl : poly.length ≤ 2000000) (hw : -9223372036854775808 ≤ d ∧ d ≤ 9223372036854775807) (hm : m.length ≤ 2000000) (hm2 : ∀ x ∈ m,x.length ≤ 2000000) : PFn Tryz.prog f_impl_ValidCode [.agg [I p,I d,ilS poly,ilSS m]] (Bv (codeB p d poly m)):=by
 intro H
 have hvm:=ValidMatrix_fn p d poly m hw hl hm hm2
 have hFld:=fun h=>fld_ok (p:=p) (d:=d) (poly:=poly) h
 unfold codeB
 cases hv : (fieldB p d poly && matC (p.toNat ^ d.toNat) m)
 ·rw [hv] at hvm
  refine ACalls.introB s_impl_ValidCode (by simp) ?_;intro hB hA;unfold c_impl_ValidCode;simp (disch:=(first|omega|(simp only [go_sem];try omega))) only [go_sem,Nat.reduceAdd,Nat.reduceEqDiff,Nat.reduceLeDiff,reduceIte,w64_id,cast_succ]
  repeat (first|(with_reducible first|refine SW.seq ?_|refine q8 ?_|refine SW.rowC ?_|refine SW.skip ?_|refine SW.exit ?_|refine PFn.use (hvm) ?_|refine PFn.useq (hvm) ?_|intro _|refine And.intro (by omega) ?_)|simp (disch:=(first|omega|(simp only [go_sem];try omega))) only [go_sem,Nat.reduceAdd,Nat.reduceEqDiff,Nat.reduceLeDiff,reduceIte,w64_id,cast_succ])
  refine wM rfl ?_
  repeat (first|(with_reducible first|refine SW.seq ?_|refine q8 ?_|refine SW.rowC ?_|refine SW.skip ?_|refine SW.exit ?_|intro _|refine And.intro (by omega) ?_)|simp (disch:=(first|omega|(simp only [go_sem];try omega))) only [go_sem,Nat.reduceAdd,Nat.reduceEqDiff,Nat.reduceLeDiff,reduceIte,w64_id,cast_succ])
  refine SW.ret ?_;(try simp only [go_sem]);(first|refine qP ?_|refine qS ?_|refine qQ ?_);(try simp (disch:=(first|omega|(simp only [go_sem];try omega))) only [go_sem,Nat.reduceAdd,Nat.reduceEqDiff,Nat.reduceLeDiff,reduceIte,w64_id,cast_succ]);(first|(with_reducible refine GR.drop ?_ ?_;(simp only [go_sem,and_self,and_true,true_and,implies_true,qI,qO]))|refine GR.of ?_);refine ⟨?_,rfl⟩;(try with_reducible rfl)
 ·rw [hv] at hvm
  rw [Bool.and_eq_true] at hv
  have hF:=hFld hv.1
  obtain ⟨P,K,rfl,rfl,hpb,hkb,hLb,hq,-,-,-⟩:=fieldB_facts hv.1
  rw [wA,wA] at hv hF ⊢
  obtain ⟨hn,hwd,hM⟩:=matC_facts hv.2
  by_cases h8 : m.length ≤ 8
  rotate_left
  ·have d8 : decide ((8 : Int) < m.length) = true:=decide_eq_true (by omega)
   refine ACalls.introB s_impl_ValidCode (by simp) ?_;intro hB hA;unfold c_impl_ValidCode;simp (disch:=(first|omega|(simp only [go_sem];try omega))) only [go_sem,Nat.reduceAdd,Nat.reduceEqDiff,Nat.reduceLeDiff,reduceIte,w64_id,cast_succ]
   repeat (first|(with_reducible first|refine SW.seq ?_|refine q8 ?_|refine SW.rowC ?_|refine SW.skip ?_|refine SW.exit ?_|refine PFn.use (hvm) ?_|refine PFn.useq (hvm) ?_|intro _|refine And.intro (by omega) ?_)|simp (disch:=(first|omega|(simp only [go_sem];try omega))) only [go_sem,Nat.reduceAdd,Nat.reduceEqDiff,Nat.reduceLeDiff,reduceIte,w64_id,cast_succ,d8])
   refine wM rfl ?_
   repeat (first|(with_reducible first|refine SW.seq ?_|refine q8 ?_|refine SW.rowC ?_|refine SW.skip ?_|refine SW.exit ?_|intro _|refine And.intro (by omega) ?_)|simp (disch:=(first|omega|(simp only [go_sem];try omega))) only [go_sem,Nat.reduceAdd,Nat.reduceEqDiff,Nat.reduceLeDiff,reduceIte,w64_id,cast_succ])
   refine SW.ret ?_;(try simp only [go_sem]);(first|refine qP ?_|refine qS ?_|refine qQ ?_);(try simp (disch:=(first|omega|(simp only [go_sem];try omega))) only [go_sem,Nat.reduceAdd,Nat.reduceEqDiff,Nat.reduceLeDiff,reduceIte,w64_id,cast_succ]);(first|(with_reducible refine GR.drop ?_ ?_;(simp only [go_sem,and_self,and_true,true_and,implies_true,qI,qO]))|refine GR.of ?_);refine ⟨?_,rfl⟩;(try with_reducible rfl)
   rw [decide_eq_false h8];rfl
  ·have d8 : decide ((8 : Int) < m.length) = false:=decide_eq_false (by omega)
   have hq1 : 1 ≤ P ^ K:=Nat.pow_pos (by omega)
   have hfs:=fieldSize_fn P K poly (by omega) (by omega)
   rw [pwU_le (by omega) K 1 (Nat.le_refl _) (by omega),Nat.one_mul] at hfs
   have hpw:=powerUpTo_fn (P ^ K) m.length 4096 (by omega) (by omega) (by omega)
   have hsz:=sizeS_fn m
   rw [decide_eq_true h8]
   by_cases hb : (P ^ K) ^ m.length ≤ 4096
   ·rw [pwU_le hq1 _ 1 (Nat.le_refl _) (by omega),Nat.one_mul] at hpw
    rw [decide_eq_true hb]
    generalize hV : (P ^ K) ^ m.length = V at *
    have d9 : decide ((4096 : Int) < (V : Int)) = false:=decide_eq_false (by omega)
    refine ACalls.introB s_impl_ValidCode (by simp) ?_;intro hB hA;unfold c_impl_ValidCode;simp (disch:=(first|omega|(simp only [go_sem];try omega))) only [go_sem,Nat.reduceAdd,Nat.reduceEqDiff,Nat.reduceLeDiff,reduceIte,w64_id,cast_succ]
    have htb:=tablesOf_fn P K poly hpb hkb hLb hq
    repeat (first|(with_reducible first|refine SW.seq ?_|refine q8 ?_|refine SW.rowC ?_|refine SW.skip ?_|refine SW.exit ?_|refine PFn.use (hvm) ?_|refine PFn.useq (hvm) ?_|refine PFn.use (hfs) ?_|refine PFn.useq (hfs) ?_|refine PFn.use (hsz) ?_|refine PFn.useq (hsz) ?_|refine PFn.use (hpw) ?_|refine PFn.useq (hpw) ?_|intro _|refine And.intro (by omega) ?_)|simp (disch:=(first|omega|(simp only [go_sem];try omega))) only [go_sem,Nat.reduceAdd,Nat.reduceEqDiff,Nat.reduceLeDiff,reduceIte,w64_id,cast_succ,d8,d9])
    refine SW.condF rfl ?_
    repeat (first|(with_reducible first|refine SW.seq ?_|refine q8 ?_|refine SW.rowC ?_|refine SW.skip ?_|refine SW.exit ?_|refine PFn.use (htb) ?_|refine PFn.useq (htb) ?_|intro _|refine And.intro (by omega) ?_)|simp (disch:=(first|omega|(simp only [go_sem];try omega))) only [go_sem,Nat.reduceAdd,Nat.reduceEqDiff,Nat.reduceLeDiff,reduceIte,w64_id,cast_succ])
    refine (reduce_ok _ P K poly m (m.getD 0 []).length hpb hkb hLb hF hq hM hn hwd).mono ?_
    rintro v X ⟨tb,ver,rs,xs,pv,t,k,det,rfl,hI,hkt,hT,hM2,hfr⟩
    have htl : t ≤ xs.length:=by rw [hI.1];exact hI.2.1
    have hbx : X[H.length]? = some ⟨0,36,1,[I P,I K,ilS poly,ilSS m]⟩:=by rw [hfr _ (by simp)];simp
    have hba:=fun o=>pc_alive (off:=o) hbx
    have hbl:=fun o=>pc_ld (off:=o) hbx
    repeat (first|(with_reducible first|refine SW.seq ?_|refine q8 ?_|refine SW.rowC ?_|refine SW.skip ?_|refine SW.exit ?_|intro _|refine And.intro (by omega) ?_)|simp (disch:=(first|omega|(simp only [go_sem];try omega))) only [go_sem,Nat.reduceAdd,Nat.reduceEqDiff,Nat.reduceLeDiff,reduceIte,w64_id,cast_succ,hba,hbl])
    refine (areSame_ok X _ _ (xs.take t) m (hT.rdTake htl) (rd_ilSS X m)).mono ?_
    rintro v X2 ⟨rfl,rfl⟩
    have hdone:=hI.done hkt
    rw [hdone]
    have hlt:=(qC.1 hbx).1
    obtain ⟨ext,rfl⟩:=prefix_of (H:=H) (H':=X2) (by omega) (fun j hj=>by rw [hfr j (by simp;omega),List.getElem?_append_left hj])
    repeat (first|(with_reducible first|refine SW.seq ?_|refine q8 ?_|refine SW.rowC ?_|refine SW.skip ?_|refine SW.exit ?_|intro _|refine And.intro (by omega) ?_)|simp (disch:=(first|omega|(simp only [go_sem];try omega))) only [go_sem,Nat.reduceAdd,Nat.reduceEqDiff,Nat.reduceLeDiff,reduceIte,w64_id,cast_succ])
    refine SW.ret ?_;(try simp only [go_sem]);(first|refine qP ?_|refine qS ?_|refine qQ ?_);(try simp (disch:=(first|omega|(simp only [go_sem];try omega))) only [go_sem,Nat.reduceAdd,Nat.reduceEqDiff,Nat.reduceLeDiff,reduceIte,w64_id,cast_succ])
    exact GR.froz (froz_B' _) ⟨rfl,rfl⟩
   ·have hgt:=pwU_gt (b:=P ^ K) (l:=4096) m.length 1 (by omega)
    rw [decide_eq_false hb]
    generalize hV : pwU (P ^ K) 4096 m.length 1 = V at *
    have d9 : decide ((4096 : Int) < (V : Int)) = true:=decide_eq_true (by omega)
    refine ACalls.introB s_impl_ValidCode (by simp) ?_;intro hB hA;unfold c_impl_ValidCode;simp (disch:=(first|omega|(simp only [go_sem];try omega))) only [go_sem,Nat.reduceAdd,Nat.reduceEqDiff,Nat.reduceLeDiff,reduceIte,w64_id,cast_succ]
    repeat (first|(with_reducible first|refine SW.seq ?_|refine q8 ?_|refine SW.rowC ?_|refine SW.skip ?_|refine SW.exit ?_|refine PFn.use (hvm) ?_|refine PFn.useq (hvm) ?_|refine PFn.use (hfs) ?_|refine PFn.useq (hfs) ?_|refine PFn.use (hsz) ?_|refine PFn.useq (hsz) ?_|refine PFn.use (hpw) ?_|refine PFn.useq (hpw) ?_|intro _|refine And.intro (by omega) ?_)|simp (disch:=(first|omega|(simp only [go_sem];try omega))) only [go_sem,Nat.reduceAdd,Nat.reduceEqDiff,Nat.reduceLeDiff,reduceIte,w64_id,cast_succ,d8,d9])
    refine wM rfl ?_
    repeat (first|(with_reducible first|refine SW.seq ?_|refine q8 ?_|refine SW.rowC ?_|refine SW.skip ?_|refine SW.exit ?_|intro _|refine And.intro (by omega) ?_)|simp (disch:=(first|omega|(simp only [go_sem];try omega))) only [go_sem,Nat.reduceAdd,Nat.reduceEqDiff,Nat.reduceLeDiff,reduceIte,w64_id,cast_succ])
    refine SW.ret ?_;(try simp only [go_sem]);(first|refine qP ?_|refine qS ?_|refine qQ ?_);(try simp (disch:=(first|omega|(simp only [go_sem];try omega))) only [go_sem,Nat.reduceAdd,Nat.reduceEqDiff,Nat.reduceLeDiff,reduceIte,w64_id,cast_succ]);(first|(with_reducible refine GR.drop ?_ ?_;(simp only [go_sem,and_self,and_true,true_and,implies_true,qI,qO]))|refine GR.of ?_);refine ⟨?_,rfl⟩;(try with_reducible rfl)
end Go.Proofs.YtclfmfabcnbbpaaGreat