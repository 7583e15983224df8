/- Which fields are fields: the program. -/
import Derived.Test.YtclfmfabcnbbpaaGreatProg
import Derived.KernelRfl
import Derived.Test.YtclfmfabcnbbpaaGreatzPA
import Derived.Test.YtclfmfabcnbbpaaGreatzK2
set_option linter.unusedSimpArgs false
set_option linter.unusedVariables false
set_option maxHeartbeats 4000000
set_option maxRecDepth 100000
open Go.Operand renaming tmp→t'
open Option renaming none→n',some→s'
open List renaming mem_cons_of_mem→yE,all_eq_true→w9,mem_range→wP,take_of_length_le→qW,mem_append→xA,mem_singleton→xE,take_succ_cons→qI,take_zero→qO,getD_eq_getElem?_getD→qE,getElem?_eq_getElem→qB,getElem?_map→qX,getElem?_append_right→qV,length_map→w8,length_set→w6,replicate→qT,length_replicate→xT
open Int renaming eq_ofNat_of_zero_le→wC,mul_nonneg→xV,toNat_natCast→wA,tmod_eq_emod_of_nonneg→wY,add_mul_emod_self_left→yR
open Go.Av.SW renaming block→q8,loopE→wJ,condD→wK,condN→wL,condNB→wF,condB→wH,condT→wM,condF→wE
open Nat renaming pow_le_pow_right→xP,le_self_pow→yV,le_refl→qZ,one_mul→yC,zero_le→x4,add_sub_cancel_left→yN
open Go.Av.FunPost renaming one→qP,two→qS,three→qQ
open Go.Av.SLoop renaming next→wB
namespace Go.Proofs.YtclfmfabcnbbpaaGreat
open Go.Av
abbrev f_impl_fieldSize : Nat:=20
def c_impl_fieldSize : SC :=
 .seq (.reg [⟨s' 1,.box 34 (t' 0),n'⟩,⟨s' 2,.mv (.const (.int .i64 0)),n'⟩] [1]) (.seq (.reg [⟨s' 3,.faddr 0 (t' 1),n'⟩,⟨s' 4,.load 1 false (t' 3),n'⟩,⟨s' 5,.faddr 1 (t' 1),n'⟩,
 ⟨s' 6,.load 1 false (t' 5),n'⟩,⟨s' 7,.call 44 [(t' 4),(t' 6),(.const (.int .i64 64))],n'⟩,⟨s' 2,.mv (t' 7),n'⟩] [2]) (.ret))
theorem s_impl_fieldSize : stripF Tryz.prog 20 [[1],[2]] = some (c_impl_fieldSize,[.tmp 2],8):=by kernel_rfl
abbrev f_impl_ValidField : Nat:=62
def c_impl_ValidField : SC :=
 .seq (.reg [⟨s' 1,.box 34 (t' 0),n'⟩,⟨s' 2,.mv (.const (.bool false)),n'⟩] [1]) (.seq (.seq (.reg [⟨s' 5,.faddr 0 (t' 1),n'⟩,⟨s' 6,.load 1 false (t' 5),n'⟩,
 ⟨s' 7,.call 86 [(t' 6)],n'⟩,⟨s' 8,.un .not (t' 7),n'⟩,⟨s' 9,.mv (t' 8),n'⟩,⟨s' 10,.faddr 1 (t' 1),(some (9,false))⟩,⟨s' 11,.load 1 false (t' 10),(some (9,false))⟩,
 ⟨s' 12,.bin .lss (t' 11) (.const (.int .i64 1)),(some (9,false))⟩,⟨s' 13,.pick (t' 9) (.const (.bool true)) (t' 12),n'⟩,⟨s' 14,.mv (t' 13),n'⟩,
 ⟨s' 15,.faddr 0 (t' 1),(some (14,false))⟩,⟨s' 16,.load 1 false (t' 15),(some (14,false))⟩,⟨s' 17,.faddr 1 (t' 1),(some (14,false))⟩,
 ⟨s' 18,.load 1 false (t' 17),(some (14,false))⟩,⟨s' 19,.call 44 [(t' 16),(t' 18),(.const (.int .i64 64))],(some (14,false))⟩,
 ⟨s' 20,.bin .gtr (t' 19) (.const (.int .i64 64)),(some (14,false))⟩,⟨s' 21,.pick (t' 14) (.const (.bool true)) (t' 20),n'⟩] [1,21]) (.cond (t' 21) (.seq (.reg [
 ⟨s' 2,.mv (.const (.bool false)),n'⟩] [2]) (.ret)) (.skip))) (.seq (.seq (.reg [⟨s' 22,.faddr 2 (t' 1),n'⟩,⟨s' 23,.load 1 false (t' 22),n'⟩,⟨s' 24,.qcall 53 [(t' 23)],n'⟩,
 ⟨s' 25,.faddr 1 (t' 1),n'⟩,⟨s' 26,.load 1 false (t' 25),n'⟩,⟨s' 27,.bin .add (t' 26) (.const (.int .i64 1)),n'⟩,⟨s' 28,.bin .neq (t' 24) (t' 27),n'⟩,⟨s' 29,.mv (t' 28),n'⟩,
 ⟨s' 30,.faddr 2 (t' 1),(some (29,false))⟩,⟨s' 31,.load 1 false (t' 30),(some (29,false))⟩,⟨s' 32,.faddr 1 (t' 1),(some (29,false))⟩,
 ⟨s' 33,.load 1 false (t' 32),(some (29,false))⟩,⟨s' 34,.iaddr 1 (t' 31) (t' 33),(some (29,false))⟩,⟨s' 35,.load 1 false (t' 34),(some (29,false))⟩,
 ⟨s' 36,.bin .neq (t' 35) (.const (.int .i64 1)),(some (29,false))⟩,⟨s' 37,.pick (t' 29) (.const (.bool true)) (t' 36),n'⟩] [1,37]) (.cond (t' 37) (.seq (.reg [
 ⟨s' 2,.mv (.const (.bool false)),n'⟩] [2]) (.ret)) (.skip))) (.seq (.seq (.reg [⟨s' 38,.faddr 2 (t' 1),n'⟩,⟨s' 39,.load 1 false (t' 38),n'⟩,⟨s' 40,.len (t' 39),n'⟩,
 ⟨s' 41,.mv (.const (.int .i64 0)),n'⟩] [1,39,40,41]) (.block 0 (.loop [1,39,40,41] (.seq (.reg [⟨s' 42,.bin .lss (t' 41) (t' 40),n'⟩] [1,39,40,41,42]) (.seq (.cond (t' 42) (.skip)
 (.exit 0)) (.seq (.block 1 (.seq (.reg [⟨s' 43,.iaddr 1 (t' 39) (t' 41),n'⟩,⟨s' 44,.load 1 false (t' 43),n'⟩,⟨s' 4,.mv (t' 44),n'⟩] [1,4,39,40,41]) (.seq (.reg [
 ⟨s' 45,.mv (t' 4),n'⟩,⟨s' 46,.faddr 0 (t' 1),n'⟩,⟨s' 47,.load 1 false (t' 46),n'⟩,⟨s' 48,.bin .sub (t' 47) (.const (.int .i64 1)),n'⟩,
 ⟨s' 49,.call 63 [(t' 45),(.const (.int .i64 0)),(t' 48)],n'⟩,⟨s' 50,.un .not (t' 49),n'⟩] [1,39,40,41,50]) (.cond (t' 50) (.seq (.reg [⟨s' 2,.mv (.const (.bool false)),n'⟩] [2])
 (.ret)) (.skip))))) (.reg [⟨s' 51,.bin .add (t' 41) (.const (.int .i64 1)),n'⟩,⟨s' 41,.mv (t' 51),n'⟩] [1,39,40,41]))))))) (.seq (.reg [⟨s' 52,.faddr 2 (t' 1),n'⟩,
 ⟨s' 53,.load 1 false (t' 52),n'⟩,⟨s' 54,.faddr 0 (t' 1),n'⟩,⟨s' 55,.load 1 false (t' 54),n'⟩,⟨s' 56,.call 87 [(t' 53),(t' 55)],n'⟩,⟨s' 2,.mv (t' 56),n'⟩] [2]) (.ret)))))
theorem s_impl_ValidField : stripF Tryz.prog 62 [[1],[1,21],[2],[1,37],[2],[1,39,40,41],[1,39,40,41],[1,39,40,41,42],[1,4,39,40,41],[1,39,40,41,50],[2],[1,39,40,41],[2]] = some (c_impl_ValidField,[.tmp 2],57):=by kernel_rfl
abbrev f_impl_irreducible : Nat:=87
def c_impl_irreducible : SC :=
 .seq (.reg [⟨s' 4,.mv (.const (.bool false)),n'⟩] [0,1]) (.seq (.reg [⟨s' 8,.mv (t' 0),n'⟩,⟨s' 9,.call 53 [(t' 8)],n'⟩,⟨s' 10,.bin .sub (t' 9) (.const (.int .i64 1)),n'⟩,
 ⟨s' 5,.mv (t' 10),n'⟩] [0,1,5]) (.seq (.seq (.reg [⟨s' 6,.mv (.const (.int .i64 1)),n'⟩] [0,1,5,6]) (.block 0 (.loop [0,1,5,6] (.seq (.seq (.reg [⟨s' 11,.mv (t' 6),n'⟩,
 ⟨s' 12,.bin .mul (.const (.int .i64 2)) (t' 11),n'⟩,⟨s' 13,.mv (t' 5),n'⟩,⟨s' 14,.bin .leq (t' 12) (t' 13),n'⟩] [0,1,5,6,14]) (.cond (t' 14) (.skip) (.exit 0)))
 (.seq (.block 1 (.seq (.reg [⟨s' 7,.mv (.const (.int .i64 0)),n'⟩] [0,1,5,6,7]) (.block 2 (.loop [0,1,5,6,7] (.seq (.seq (.reg [⟨s' 17,.mv (t' 7),n'⟩,⟨s' 18,.mv (t' 1),n'⟩,
 ⟨s' 19,.mv (t' 6),n'⟩,⟨s' 20,.call 44 [(t' 18),(t' 19),(.const (.int .i64 64))],n'⟩,⟨s' 21,.bin .lss (t' 17) (t' 20),n'⟩] [0,1,5,6,7,21]) (.cond (t' 21) (.skip) (.exit 2)))
 (.seq (.block 3 (.seq (.reg [⟨s' 24,.mv (t' 0),n'⟩,⟨s' 25,.mv (t' 7),n'⟩,⟨s' 26,.mv (t' 1),n'⟩,⟨s' 27,.mv (t' 6),n'⟩,⟨s' 28,.call 75 [(t' 25),(t' 26),(t' 27)],n'⟩,
 ⟨s' 29,.bslice 2 1 1 [(.int .i64 0)] [(0,(.const (.int .i64 1)))],n'⟩,⟨s' 30,.app 2 1 8 (t' 28) (t' 29),n'⟩,⟨s' 31,.mv (t' 1),n'⟩,⟨s' 32,.call 91 [(t' 24),(t' 30),(t' 31)],n'⟩,
 ⟨s' 33,.call 101 [(t' 32)],n'⟩] [0,1,5,6,7,33]) (.cond (t' 33) (.seq (.reg [⟨s' 4,.mv (.const (.bool false)),n'⟩] [4]) (.ret)) (.skip)))) (.reg [⟨s' 22,.mv (t' 7),n'⟩,
 ⟨s' 23,.bin .add (t' 22) (.const (.int .i64 1)),n'⟩,⟨s' 7,.mv (t' 23),n'⟩] [0,1,5,6,7]))))))) (.reg [⟨s' 15,.mv (t' 6),n'⟩,⟨s' 16,.bin .add (t' 15) (.const (.int .i64 1)),n'⟩,
 ⟨s' 6,.mv (t' 16),n'⟩] [0,1,5,6])))))) (.seq (.reg [⟨s' 4,.mv (.const (.bool true)),n'⟩] [4]) (.ret))))
theorem s_impl_irreducible : stripF Tryz.prog 87 [[0,1],[0,1,5],[0,1,5,6],[0,1,5,6],[0,1,5,6,14],[0,1,5,6,7],[0,1,5,6,7],[0,1,5,6,7,21],[0,1,5,6,7,33],[4],[0,1,5,6,7],[0,1,5,6],[4]] = some (c_impl_irreducible,[.tmp 4],34):=by kernel_rfl
theorem numL_zero {p : Int} (hp : 0 < p) : ∀ {xs : List Int},OkD p xs → (xs.all fun x=>decide (x = 0)) = decide (numL p xs = 0)
 | [],_=>rfl
 | x :: xs,h=>by
  have ih:=numL_zero hp (xs:=xs) fun z hz=>h z (yE _ hz)
  have hx:=h x List.mem_cons_self
  have hN : 0 ≤ numL p xs:=by
   obtain ⟨q,rfl⟩:=wC (show 0 ≤ p by omega)
   exact (numL_bd (p:=q) (by omega) xs fun z hz=>h z (yE _ hz)).1
  rw [List.all_cons,ih,show numL p (x :: xs) = numL p xs * p + x from rfl]
  generalize numL p xs = N at *
  have h1 : 0 ≤ N * p:=xV hN (by omega)
  rw [Bool.eq_iff_iff,Bool.and_eq_true,decide_eq_true_eq,decide_eq_true_eq,decide_eq_true_eq]
  constructor
  ·rintro ⟨rfl,rfl⟩;simp
  ·intro h2
   have h3 : N * p = 0:=by omega
   rcases Int.mul_eq_zero.1 h3 with h4|h4
   ·exact ⟨by omega,h4⟩
   ·omega
theorem irreducible_fn (poly : List Int) (p : Nat) (h2 : 2 ≤ p) (hp : p ≤ 64) (hx : OkD p poly) (hl : 2 ≤ poly.length ∧ poly.length ≤ 7) (hq : p ^ (poly.length - 1) ≤ 64) : PFn Tryz.prog f_impl_irreducible [ilS poly,I p] (Bv (irrG poly p)):=by
 intro H;refine ACalls.introB s_impl_irreducible (by simp) ?_;intro hB hA;unfold c_impl_irreducible;simp (disch:=(first|omega|(simp only [go_sem];try omega))) only [go_sem,Nat.reduceAdd,Nat.reduceEqDiff,Nat.reduceLeDiff,reduceIte,w64_id,cast_succ]
 repeat (first|(with_reducible first|refine SW.seq ?_|refine q8 ?_|refine SW.rowC ?_|refine SW.skip ?_|refine SW.exit ?_|refine PFn.use (size_fn poly) ?_|refine PFn.useq (size_fn poly) ?_|intro _|refine And.intro (by omega) ?_)|simp (disch:=(first|omega|(simp only [go_sem];try omega))) only [go_sem,Nat.reduceAdd,Nat.reduceEqDiff,Nat.reduceLeDiff,reduceIte,w64_id,cast_succ])
 have hdeg : (poly.length : Int) - 1 = ((poly.length - 1 : Nat) : Int):=by omega
 rw [hdeg]
 refine wJ (fun E0 H0 q E' H'=>∃ d : Nat,d ≤ (poly.length - 1) / 2 ∧ q = (poly.length - 1) / 2 - d ∧ E' = aput E0 6 (I (d + 1 : Nat)) ∧ H' = H0 ∧ ∀ d',d' < d → irrD poly p (d' + 1) = true) ((poly.length - 1) / 2) ⟨0,by omega,by omega,rfl,rfl,fun d h=>by omega⟩ ?_
 rintro q E' H' ⟨d,hd,rfl,rfl,rfl,hda⟩
 simp (disch:=(first|omega|(simp only [go_sem];try omega))) only [go_sem,Nat.reduceAdd,Nat.reduceEqDiff,Nat.reduceLeDiff,reduceIte,w64_id,cast_succ]
 repeat (first|(with_reducible first|refine SW.seq ?_|refine q8 ?_|refine SW.rowC ?_|refine SW.skip ?_|refine SW.exit ?_|intro _|refine And.intro (by omega) ?_)|simp (disch:=(first|omega|(simp only [go_sem];try omega))) only [go_sem,Nat.reduceAdd,Nat.reduceEqDiff,Nat.reduceLeDiff,reduceIte,w64_id,cast_succ])
 (first|refine wK rfl (fun h3=>?_) (fun h3=>?_)|refine wL rfl (fun h3=>?_) (fun h3=>?_)|refine wF rfl (fun h3=>?_) (fun h3=>?_)|refine wH rfl (fun h3=>?_) (fun h3=>?_))
 ·have hdl : d < (poly.length - 1) / 2:=by omega
  have hpd : p ^ (d + 1) ≤ 64:=Nat.le_trans (xP (by omega) (by omega)) hq
  have hpp : p ≤ p ^ (d + 1):=yV (by omega) p
  have hpw:=powerUpTo_fn p (d + 1) 64 (by omega) (by omega) (by omega)
  rw [pwU_le (by omega) (d + 1) 1 (qZ _) (by omega),yC] at hpw
  have hno : irrD poly p (d + 1) = false → irrG poly p = false:=fun h=>by
   rw [Bool.eq_false_iff]
   intro h5
   unfold irrG at h5
   rw [w9] at h5
   rw [h5 d (wP.2 hdl)] at h;cases h
  repeat (first|(with_reducible first|refine SW.seq ?_|refine q8 ?_|refine SW.rowC ?_|refine SW.skip ?_|refine SW.exit ?_|intro _|refine And.intro (by omega) ?_)|simp (disch:=(first|omega|(simp only [go_sem];try omega))) only [go_sem,Nat.reduceAdd,Nat.reduceEqDiff,Nat.reduceLeDiff,reduceIte,w64_id,cast_succ])
  refine wJ (fun E0 H0 q E' H'=>∃ n : Nat,n ≤ p ^ (d + 1) ∧ q = p ^ (d + 1) - n ∧ E' = aput E0 7 (I n) ∧ H' = H0 ∧ ∀ i,i < n → numL p (restL poly (digL p (d + 1) i ++ [1]) p) ≠ 0) (p ^ (d + 1)) ⟨0,by omega,by omega,rfl,rfl,fun i hi=>by omega⟩ ?_
  rintro q E' H' ⟨n,hn,rfl,rfl,rfl,hall⟩
  simp (disch:=(first|omega|(simp only [go_sem];try omega))) only [go_sem,Nat.reduceAdd,Nat.reduceEqDiff,Nat.reduceLeDiff,reduceIte,w64_id,cast_succ]
  repeat (first|(with_reducible first|refine SW.seq ?_|refine q8 ?_|refine SW.rowC ?_|refine SW.skip ?_|refine SW.exit ?_|refine PFn.use (hpw) ?_|refine PFn.useq (hpw) ?_|intro _|refine And.intro (by omega) ?_)|simp (disch:=(first|omega|(simp only [go_sem];try omega))) only [go_sem,Nat.reduceAdd,Nat.reduceEqDiff,Nat.reduceLeDiff,reduceIte,w64_id,cast_succ])
  (first|refine wK rfl (fun h4=>?_) (fun h4=>?_)|refine wL rfl (fun h4=>?_) (fun h4=>?_)|refine wF rfl (fun h4=>?_) (fun h4=>?_)|refine wH rfl (fun h4=>?_) (fun h4=>?_))
  ·repeat (first|(with_reducible first|refine SW.seq ?_|refine q8 ?_|refine SW.rowC ?_|refine SW.skip ?_|refine SW.exit ?_|intro _|refine And.intro (by omega) ?_)|simp (disch:=(first|omega|(simp only [go_sem];try omega))) only [go_sem,Nat.reduceAdd,Nat.reduceEqDiff,Nat.reduceLeDiff,reduceIte,w64_id,cast_succ])
   refine (digitsOf_new n p (d + 1) (by omega) (by omega) (by omega) (by omega) _).mono ?_
   rintro r H1 ⟨rfl,rfl⟩
   rw [digL_len]
   have hDl:=digL_len p (d + 1) n
   have hDo:=digL_ok (p:=p) (by omega) (d + 1) n
   have hnp : n < p ^ (d + 1):=by omega
   have han : numL p (restL poly (digL p (d + 1) n ++ [1]) p) = 0 → irrD poly p (d + 1) = false:=fun h=>by
    rw [Bool.eq_false_iff]
    intro h5
    unfold irrD at h5
    rw [w9] at h5
    exact of_decide_eq_true (h5 n (wP.2 hnp)) h
   have hal : numL p (restL poly (digL p (d + 1) n ++ [1]) p) ≠ 0 → ∀ i,i < n + 1 → numL p (restL poly (digL p (d + 1) i ++ [1]) p) ≠ 0:=fun h i hi=>by
    by_cases h5 : i = n
    ·rw [h5];exact h
    ·exact hall i (by omega)
   generalize hD : digL p (d + 1) n = D at *
   have htl : (D.map I).take (d + 1) = D.map I:=qW (by simp [hDl])
   have hBo : OkD p (D ++ [1]):=fun z hz=>by
    rcases xA.1 hz with h|h
    ·exact hDo z h
    ·rw [xE.1 h];omega
   have hBl : (D ++ [1]).length = d + 2:=by simp [hDl]
   repeat (first|(with_reducible first|refine SW.seq ?_|refine q8 ?_|refine SW.rowC ?_|refine SW.skip ?_|refine SW.exit ?_|intro _|refine And.intro (by omega) ?_)|simp (disch:=(first|omega|(simp only [go_sem];try omega))) only [go_sem,Nat.reduceAdd,Nat.reduceEqDiff,Nat.reduceLeDiff,reduceIte,w64_id,cast_succ,htl])
   have hfb:=froz_rowI (H:=H' ++ [⟨0 + 1,2,1,(D ++ [1]).map I⟩,(⟨0,2,1,[I 1]⟩ : Blk)]) (b:=0) (r:=H'.length) (ver:=0 + 1) (ty:=2) (xs:=D ++ [1]) (x4 _) (by simp)
   rw [hBl] at hfb
   have hrst:=restL_ok (p:=(p : Int)) (a:=poly) (by omega) (by omega) hBo hx
   refine ACalls.fn ((remainder_new p poly (D ++ [1]) (by omega) hp hx hBo (by omega) (by omega) (by omega)).lendf (.cons (.old _ (by rw [Bel_ilS];trivial)) (.cons hfb (.cons (froz_I' _) .nil)))) ?_
   have hnz:=numL_zero (p:=(p : Int)) (by omega) hrst.1
   generalize hRs : restL poly (D ++ [1]) p = Rs at *
   repeat (first|(with_reducible first|refine SW.seq ?_|refine q8 ?_|refine SW.rowC ?_|refine SW.skip ?_|refine SW.exit ?_|refine PFn.use (isZero_fn Rs) ?_|refine PFn.useq (isZero_fn Rs) ?_|intro _|refine And.intro (by omega) ?_)|simp (disch:=(first|omega|(simp only [go_sem];try omega))) only [go_sem,Nat.reduceAdd,Nat.reduceEqDiff,Nat.reduceLeDiff,reduceIte,w64_id,cast_succ])
   rw [hnz]
   by_cases hz : numL (p : Int) Rs = 0
   ·rw [decide_eq_true hz]
    refine wM rfl ?_
    repeat (first|(with_reducible first|refine SW.seq ?_|refine q8 ?_|refine SW.rowC ?_|refine SW.skip ?_|refine SW.exit ?_|intro _|refine And.intro (by omega) ?_)|simp (disch:=(first|omega|(simp only [go_sem];try omega))) only [go_sem,Nat.reduceAdd,Nat.reduceEqDiff,Nat.reduceLeDiff,reduceIte,w64_id,cast_succ])
    rw [hno (han hz)]
    refine SW.ret ?_;(try simp only [go_sem]);(first|refine qP ?_|refine qS ?_|refine qQ ?_);(try simp (disch:=(first|omega|(simp only [go_sem];try omega))) only [go_sem,Nat.reduceAdd,Nat.reduceEqDiff,Nat.reduceLeDiff,reduceIte,w64_id,cast_succ]);(first|(with_reducible refine GR.drop ?_ ?_;(simp only [go_sem,and_self,and_true,true_and,implies_true,qI,qO]))|refine GR.of ?_);refine ⟨?_,rfl⟩;(try with_reducible rfl)
   ·rw [decide_eq_false hz]
    refine wE rfl ?_
    repeat (first|(with_reducible first|refine SW.seq ?_|refine q8 ?_|refine SW.rowC ?_|refine SW.skip ?_|refine SW.exit ?_|intro _|refine And.intro (by omega) ?_)|simp (disch:=(first|omega|(simp only [go_sem];try omega))) only [go_sem,Nat.reduceAdd,Nat.reduceEqDiff,Nat.reduceLeDiff,reduceIte,w64_id,cast_succ])
    refine SLoop.nextT 0 (p ^ (d + 1) - (n + 1)) hB (by omega) (by omega) (by simp) ?_ ?_ ⟨n + 1,by omega,rfl,by simp [go_sem],by simp,fun i hi=>hal hz i hi⟩
    ·(simp only [go_sem,Nat.reduceAdd,Nat.reduceEqDiff,reduceIte,go_sem,and_self,and_true,true_and,implies_true,qI,qO,and_true,true_and];try omega)
    ·(simp only [go_sem,Nat.reduceAdd,Nat.reduceEqDiff,reduceIte,go_sem,and_self,and_true,true_and,implies_true,qI,qO,and_true,true_and];try omega)
  ·have hnp : n = p ^ (d + 1):=by omega
   subst hnp
   repeat (first|(with_reducible first|refine SW.seq ?_|refine q8 ?_|refine SW.rowC ?_|refine SW.skip ?_|refine SW.exit ?_|intro _|refine And.intro (by omega) ?_)|simp (disch:=(first|omega|(simp only [go_sem];try omega))) only [go_sem,Nat.reduceAdd,Nat.reduceEqDiff,Nat.reduceLeDiff,reduceIte,w64_id,cast_succ])
   refine wB ((poly.length - 1) / 2 - (d + 1)) (by omega) ⟨d + 1,by omega,rfl,by simp [go_sem],rfl,fun d' hd'=>?_⟩
   by_cases h5 : d' = d
   ·subst h5
    unfold irrD
    rw [w9]
    exact fun i hi=>decide_eq_true (hall i (wP.1 hi))
   ·exact hda d' (by omega)
 ·have hr : irrG poly p = true:=by
   unfold irrG
   rw [w9]
   exact fun d' hd'=>hda d' (by have:=wP.1 hd';omega)
  rw [hr]
  repeat (first|(with_reducible first|refine SW.seq ?_|refine q8 ?_|refine SW.rowC ?_|refine SW.skip ?_|refine SW.exit ?_|intro _|refine And.intro (by omega) ?_)|simp (disch:=(first|omega|(simp only [go_sem];try omega))) only [go_sem,Nat.reduceAdd,Nat.reduceEqDiff,Nat.reduceLeDiff,reduceIte,w64_id,cast_succ])
  refine SW.ret ?_;(try simp only [go_sem]);(first|refine qP ?_|refine qS ?_|refine qQ ?_);(try simp (disch:=(first|omega|(simp only [go_sem];try omega))) only [go_sem,Nat.reduceAdd,Nat.reduceEqDiff,Nat.reduceLeDiff,reduceIte,w64_id,cast_succ]);(first|(with_reducible refine GR.drop ?_ ?_;(simp only [go_sem,and_self,and_true,true_and,implies_true,qI,qO]))|refine GR.of ?_);refine ⟨?_,rfl⟩;(try with_reducible rfl)
theorem fieldSize_fn (p d : Nat) (poly : List Int) (hb : 1 ≤ p ∧ p ≤ 1000000) (hd : d ≤ 9223372036854775807) : PFn Tryz.prog f_impl_fieldSize [.agg [I p,I d,ilS poly]] (I (pwU p 64 d 1 : Nat)):=by
 intro H;refine ACalls.introB s_impl_fieldSize (by simp) ?_;intro hB hA;unfold c_impl_fieldSize;simp (disch:=(first|omega|(simp only [go_sem];try omega))) only [go_sem,Nat.reduceAdd,Nat.reduceEqDiff,Nat.reduceLeDiff,reduceIte,w64_id,cast_succ]
 repeat (first|(with_reducible first|refine SW.seq ?_|refine q8 ?_|refine SW.rowC ?_|refine SW.skip ?_|refine SW.exit ?_|refine PFn.use (powerUpTo_fn p d 64 hb (by omega) hd) ?_|refine PFn.useq (powerUpTo_fn p d 64 hb (by omega) hd) ?_|intro _|refine And.intro (by omega) ?_)|simp (disch:=(first|omega|(simp only [go_sem];try omega))) only [go_sem,Nat.reduceAdd,Nat.reduceEqDiff,Nat.reduceLeDiff,reduceIte,w64_id,cast_succ])
 refine SW.ret ?_;(try simp only [go_sem]);(first|refine qP ?_|refine qS ?_|refine qQ ?_);(try simp (disch:=(first|omega|(simp only [go_sem];try omega))) only [go_sem,Nat.reduceAdd,Nat.reduceEqDiff,Nat.reduceLeDiff,reduceIte,w64_id,cast_succ]);(first|(with_reducible refine GR.drop ?_ ?_;(simp only [go_sem,and_self,and_true,true_and,implies_true,qI,qO]))|refine GR.of ?_);refine ⟨?_,rfl⟩;(try with_reducible rfl)
theorem ValidField_fn (p d : Int) (poly : List Int) (hwd : -9223372036854775808 ≤ d ∧ d ≤ 9223372036854775807) (hl : poly.length ≤ 2000000) : PFn Tryz.prog f_impl_ValidField [.agg [I p,I d,ilS poly]] (Bv (fieldB p d poly)):=by
 have hip:=implIsPrime_g p
 cases hpr : priB p
 ·have hfb : fieldB p d poly = false:=by
   rw [Bool.eq_false_iff]
   intro h
   obtain ⟨P,K,rfl,rfl,hpb,hkb,-,hq,-,hsp,-⟩:=fieldB_facts h
   rw [pri_spl hpb.1 hpb.2 hkb.1 hkb.2 hq,decide_eq_true hsp] at hpr
   cases hpr
  rw [hpr] at hip
  rw [hfb]
  intro H;refine ACalls.introB s_impl_ValidField (by simp) ?_;intro hB hA;unfold c_impl_ValidField;simp (disch:=(first|omega|(simp only [go_sem];try omega))) only [go_sem,Nat.reduceAdd,Nat.reduceEqDiff,Nat.reduceLeDiff,reduceIte,w64_id,cast_succ]
  repeat (first|(with_reducible first|refine SW.seq ?_|refine q8 ?_|refine SW.rowC ?_|refine SW.skip ?_|refine SW.exit ?_|refine PFn.use (hip) ?_|refine PFn.useq (hip) ?_|intro _|refine And.intro (by omega) ?_)|simp (disch:=(first|omega|(simp only [go_sem];try omega))) only [go_sem,Nat.reduceAdd,Nat.reduceEqDiff,Nat.reduceLeDiff,reduceIte,w64_id,cast_succ])
  refine wM rfl ?_
  repeat (first|(with_reducible first|refine SW.seq ?_|refine q8 ?_|refine SW.rowC ?_|refine SW.skip ?_|refine SW.exit ?_|intro _|refine And.intro (by omega) ?_)|simp (disch:=(first|omega|(simp only [go_sem];try omega))) only [go_sem,Nat.reduceAdd,Nat.reduceEqDiff,Nat.reduceLeDiff,reduceIte,w64_id,cast_succ])
  refine SW.ret ?_;(try simp only [go_sem]);(first|refine qP ?_|refine qS ?_|refine qQ ?_);(try simp (disch:=(first|omega|(simp only [go_sem];try omega))) only [go_sem,Nat.reduceAdd,Nat.reduceEqDiff,Nat.reduceLeDiff,reduceIte,w64_id,cast_succ]);(first|(with_reducible refine GR.drop ?_ ?_;(simp only [go_sem,and_self,and_true,true_and,implies_true,qI,qO]))|refine GR.of ?_);refine ⟨?_,rfl⟩;(try with_reducible rfl)
 rw [hpr] at hip
 have hp6 : 1 ≤ p ∧ p ≤ 1000000:=by
  unfold priB at hpr
  split at hpr
  ·rename_i h;exact h
  ·cases hpr
 obtain ⟨P,rfl⟩:=wC (show 0 ≤ p by omega)
 by_cases hd1 : 1 ≤ d
 rotate_left
 ·have e1 : decide (d < 1) = true:=decide_eq_true (by omega)
  have hfb : fieldB (P : Int) d poly = false:=by
   rw [Bool.eq_false_iff]
   intro h
   obtain ⟨P,K,_,rfl,hpb,hkb,-⟩:=fieldB_facts h
   omega
  rw [hfb]
  intro H;refine ACalls.introB s_impl_ValidField (by simp) ?_;intro hB hA;unfold c_impl_ValidField;simp (disch:=(first|omega|(simp only [go_sem];try omega))) only [go_sem,Nat.reduceAdd,Nat.reduceEqDiff,Nat.reduceLeDiff,reduceIte,w64_id,cast_succ]
  repeat (first|(with_reducible first|refine SW.seq ?_|refine q8 ?_|refine SW.rowC ?_|refine SW.skip ?_|refine SW.exit ?_|refine PFn.use (hip) ?_|refine PFn.useq (hip) ?_|intro _|refine And.intro (by omega) ?_)|simp (disch:=(first|omega|(simp only [go_sem];try omega))) only [go_sem,Nat.reduceAdd,Nat.reduceEqDiff,Nat.reduceLeDiff,reduceIte,w64_id,cast_succ,e1])
  refine wM rfl ?_
  repeat (first|(with_reducible first|refine SW.seq ?_|refine q8 ?_|refine SW.rowC ?_|refine SW.skip ?_|refine SW.exit ?_|intro _|refine And.intro (by omega) ?_)|simp (disch:=(first|omega|(simp only [go_sem];try omega))) only [go_sem,Nat.reduceAdd,Nat.reduceEqDiff,Nat.reduceLeDiff,reduceIte,w64_id,cast_succ])
  refine SW.ret ?_;(try simp only [go_sem]);(first|refine qP ?_|refine qS ?_|refine qQ ?_);(try simp (disch:=(first|omega|(simp only [go_sem];try omega))) only [go_sem,Nat.reduceAdd,Nat.reduceEqDiff,Nat.reduceLeDiff,reduceIte,w64_id,cast_succ]);(first|(with_reducible refine GR.drop ?_ ?_;(simp only [go_sem,and_self,and_true,true_and,implies_true,qI,qO]))|refine GR.of ?_);refine ⟨?_,rfl⟩;(try with_reducible rfl)
 have e1 : decide (d < 1) = false:=decide_eq_false (by omega)
 obtain ⟨K,rfl⟩:=wC (show 0 ≤ d by omega)
 have hpw:=powerUpTo_fn P K 64 (by omega) (by omega) (by omega)
 by_cases hq : P ^ K ≤ 64
 rotate_left
 ·have hgt:=pwU_gt (b:=P) (l:=64) K 1 (by omega)
  have hfb : fieldB (P : Int) (K : Int) poly = false:=by
   rw [Bool.eq_false_iff]
   intro h
   obtain ⟨P',K',e2,e3,hpb,hkb,-,hq2,-⟩:=fieldB_facts h
   have : P = P':=by omega
   have : K = K':=by omega
   subst P' K'
   omega
  have e4 : decide (64 < ((pwU P 64 K 1 : Nat) : Int)) = true:=decide_eq_true (by omega)
  rw [hfb]
  intro H;refine ACalls.introB s_impl_ValidField (by simp) ?_;intro hB hA;unfold c_impl_ValidField;simp (disch:=(first|omega|(simp only [go_sem];try omega))) only [go_sem,Nat.reduceAdd,Nat.reduceEqDiff,Nat.reduceLeDiff,reduceIte,w64_id,cast_succ]
  repeat (first|(with_reducible first|refine SW.seq ?_|refine q8 ?_|refine SW.rowC ?_|refine SW.skip ?_|refine SW.exit ?_|refine PFn.use (hip) ?_|refine PFn.useq (hip) ?_|refine PFn.use (hpw) ?_|refine PFn.useq (hpw) ?_|intro _|refine And.intro (by omega) ?_)|simp (disch:=(first|omega|(simp only [go_sem];try omega))) only [go_sem,Nat.reduceAdd,Nat.reduceEqDiff,Nat.reduceLeDiff,reduceIte,w64_id,cast_succ,e1,e4])
  refine wM rfl ?_
  repeat (first|(with_reducible first|refine SW.seq ?_|refine q8 ?_|refine SW.rowC ?_|refine SW.skip ?_|refine SW.exit ?_|intro _|refine And.intro (by omega) ?_)|simp (disch:=(first|omega|(simp only [go_sem];try omega))) only [go_sem,Nat.reduceAdd,Nat.reduceEqDiff,Nat.reduceLeDiff,reduceIte,w64_id,cast_succ])
  refine SW.ret ?_;(try simp only [go_sem]);(first|refine qP ?_|refine qS ?_|refine qQ ?_);(try simp (disch:=(first|omega|(simp only [go_sem];try omega))) only [go_sem,Nat.reduceAdd,Nat.reduceEqDiff,Nat.reduceLeDiff,reduceIte,w64_id,cast_succ]);(first|(with_reducible refine GR.drop ?_ ?_;(simp only [go_sem,and_self,and_true,true_and,implies_true,qI,qO]))|refine GR.of ?_);refine ⟨?_,rfl⟩;(try with_reducible rfl)
 rw [pwU_le (by omega) K 1 (qZ _) (by omega),yC] at hpw
 have e4 : decide (64 < ((P ^ K : Nat) : Int)) = false:=decide_eq_false (by omega)
 have hP2 : 2 ≤ P:=by
  rcases Nat.lt_or_ge P 2 with h|h
  ·have : P = 1:=by omega
   subst this
   exact absurd hpr (by decide)
  ·exact h
 have hPP : P ≤ P ^ K:=yV (by omega) P
 have hK6 : K ≤ 6:=by
  rcases Nat.lt_or_ge 6 K with h|h
  ·have h1 : 2 ^ 7 ≤ P ^ K:=Nat.le_trans (Nat.pow_le_pow_left hP2 7) (xP (by omega) h)
   omega
  ·exact h
 have hsp : splV (P ^ K) = P:=by
  have:=pri_spl hP2 (by omega) (by omega) hK6 hq
  rw [hpr] at this
  exact of_decide_eq_true this.symm
 have hfld : fieldB (P : Int) (K : Int) poly = (decide ((poly.length : Int) = (K : Int) + 1) && decide (poly.getD K 0 = 1) && (poly.all fun c=>decide (0 ≤ c) && decide (c ≤ (P : Int) - 1)) && irrG poly P):=by
  unfold fieldB
  simp only [wA,hsp]
  rw [decide_eq_true (show (2 : Int) ≤ P by omega),decide_eq_true (show (P : Int) ≤ 64 by omega),decide_eq_true (show (1 : Int) ≤ K by omega),decide_eq_true (show (K : Int) ≤ 6 by omega)]
  simp
 rw [hfld]
 have hwk : w64 ((K : Int) + 1) = (K : Int) + 1:=w64_id (by omega) (by omega)
 have hsz:=size_fn poly
 cases h3 : decide ((poly.length : Int) = (K : Int) + 1)
 ·have e3 : decide ((poly.length : Int) = ((K + 1 : Nat) : Int)) = false:=by rw [← h3];rfl
  intro H;refine ACalls.introB s_impl_ValidField (by simp) ?_;intro hB hA;unfold c_impl_ValidField;simp (disch:=(first|omega|(simp only [go_sem];try omega))) only [go_sem,Nat.reduceAdd,Nat.reduceEqDiff,Nat.reduceLeDiff,reduceIte,w64_id,cast_succ]
  repeat (first|(with_reducible first|refine SW.seq ?_|refine q8 ?_|refine SW.rowC ?_|refine SW.skip ?_|refine SW.exit ?_|refine PFn.use (hip) ?_|refine PFn.useq (hip) ?_|refine PFn.use (hpw) ?_|refine PFn.useq (hpw) ?_|refine PFn.use (hsz) ?_|refine PFn.useq (hsz) ?_|intro _|refine And.intro (by omega) ?_)|simp (disch:=(first|omega|(simp only [go_sem];try omega))) only [go_sem,Nat.reduceAdd,Nat.reduceEqDiff,Nat.reduceLeDiff,reduceIte,w64_id,cast_succ,e1,e4,h3,e3,hwk])
  refine wE rfl ?_
  repeat (first|(with_reducible first|refine SW.seq ?_|refine q8 ?_|refine SW.rowC ?_|refine SW.skip ?_|refine SW.exit ?_|refine PFn.use (hip) ?_|refine PFn.useq (hip) ?_|refine PFn.use (hpw) ?_|refine PFn.useq (hpw) ?_|refine PFn.use (hsz) ?_|refine PFn.useq (hsz) ?_|intro _|refine And.intro (by omega) ?_)|simp (disch:=(first|omega|(simp only [go_sem];try omega))) only [go_sem,Nat.reduceAdd,Nat.reduceEqDiff,Nat.reduceLeDiff,reduceIte,w64_id,cast_succ,e1,e4,h3,e3,hwk])
  refine wM rfl ?_
  repeat (first|(with_reducible first|refine SW.seq ?_|refine q8 ?_|refine SW.rowC ?_|refine SW.skip ?_|refine SW.exit ?_|intro _|refine And.intro (by omega) ?_)|simp (disch:=(first|omega|(simp only [go_sem];try omega))) only [go_sem,Nat.reduceAdd,Nat.reduceEqDiff,Nat.reduceLeDiff,reduceIte,w64_id,cast_succ])
  refine SW.ret ?_;(try simp only [go_sem]);(first|refine qP ?_|refine qS ?_|refine qQ ?_);(try simp (disch:=(first|omega|(simp only [go_sem];try omega))) only [go_sem,Nat.reduceAdd,Nat.reduceEqDiff,Nat.reduceLeDiff,reduceIte,w64_id,cast_succ]);(first|(with_reducible refine GR.drop ?_ ?_;(simp only [go_sem,and_self,and_true,true_and,implies_true,qI,qO]))|refine GR.of ?_);refine ⟨?_,rfl⟩;(try with_reducible rfl)
 have e3 : decide ((poly.length : Int) = ((K + 1 : Nat) : Int)) = true:=by rw [← h3];rfl
 have hlen : poly.length = K + 1:=by have:=of_decide_eq_true h3;omega
 cases h4 : decide (poly.getD K 0 = 1)
 ·intro H;refine ACalls.introB s_impl_ValidField (by simp) ?_;intro hB hA;unfold c_impl_ValidField;simp (disch:=(first|omega|(simp only [go_sem];try omega))) only [go_sem,Nat.reduceAdd,Nat.reduceEqDiff,Nat.reduceLeDiff,reduceIte,w64_id,cast_succ]
  repeat (first|(with_reducible first|refine SW.seq ?_|refine q8 ?_|refine SW.rowC ?_|refine SW.skip ?_|refine SW.exit ?_|refine PFn.use (hip) ?_|refine PFn.useq (hip) ?_|refine PFn.use (hpw) ?_|refine PFn.useq (hpw) ?_|refine PFn.use (hsz) ?_|refine PFn.useq (hsz) ?_|intro _|refine And.intro (by omega) ?_)|simp (disch:=(first|omega|(simp only [go_sem];try omega))) only [go_sem,Nat.reduceAdd,Nat.reduceEqDiff,Nat.reduceLeDiff,reduceIte,w64_id,cast_succ,e1,e4,h3,e3,hwk,h4])
  refine wE rfl ?_
  repeat (first|(with_reducible first|refine SW.seq ?_|refine q8 ?_|refine SW.rowC ?_|refine SW.skip ?_|refine SW.exit ?_|refine PFn.use (hip) ?_|refine PFn.useq (hip) ?_|refine PFn.use (hpw) ?_|refine PFn.useq (hpw) ?_|refine PFn.use (hsz) ?_|refine PFn.useq (hsz) ?_|intro _|refine And.intro (by omega) ?_)|simp (disch:=(first|omega|(simp only [go_sem];try omega))) only [go_sem,Nat.reduceAdd,Nat.reduceEqDiff,Nat.reduceLeDiff,reduceIte,w64_id,cast_succ,e1,e4,h3,e3,hwk,h4])
  refine wM rfl ?_
  repeat (first|(with_reducible first|refine SW.seq ?_|refine q8 ?_|refine SW.rowC ?_|refine SW.skip ?_|refine SW.exit ?_|intro _|refine And.intro (by omega) ?_)|simp (disch:=(first|omega|(simp only [go_sem];try omega))) only [go_sem,Nat.reduceAdd,Nat.reduceEqDiff,Nat.reduceLeDiff,reduceIte,w64_id,cast_succ])
  refine SW.ret ?_;(try simp only [go_sem]);(first|refine qP ?_|refine qS ?_|refine qQ ?_);(try simp (disch:=(first|omega|(simp only [go_sem];try omega))) only [go_sem,Nat.reduceAdd,Nat.reduceEqDiff,Nat.reduceLeDiff,reduceIte,w64_id,cast_succ]);(first|(with_reducible refine GR.drop ?_ ?_;(simp only [go_sem,and_self,and_true,true_and,implies_true,qI,qO]))|refine GR.of ?_);refine ⟨?_,rfl⟩;(try with_reducible rfl)
 have hirr:=fun (hx : OkD P poly)=>irreducible_fn poly P hP2 (by omega) hx (by omega) (by rw [show poly.length - 1 = K by omega];exact hq)
 intro H;refine ACalls.introB s_impl_ValidField (by simp) ?_;intro hB hA;unfold c_impl_ValidField;simp (disch:=(first|omega|(simp only [go_sem];try omega))) only [go_sem,Nat.reduceAdd,Nat.reduceEqDiff,Nat.reduceLeDiff,reduceIte,w64_id,cast_succ]
 repeat (first|(with_reducible first|refine SW.seq ?_|refine q8 ?_|refine SW.rowC ?_|refine SW.skip ?_|refine SW.exit ?_|refine PFn.use (hip) ?_|refine PFn.useq (hip) ?_|refine PFn.use (hpw) ?_|refine PFn.useq (hpw) ?_|refine PFn.use (hsz) ?_|refine PFn.useq (hsz) ?_|intro _|refine And.intro (by omega) ?_)|simp (disch:=(first|omega|(simp only [go_sem];try omega))) only [go_sem,Nat.reduceAdd,Nat.reduceEqDiff,Nat.reduceLeDiff,reduceIte,w64_id,cast_succ,e1,e4,h3,e3,hwk,h4])
 refine wE rfl ?_
 repeat (first|(with_reducible first|refine SW.seq ?_|refine q8 ?_|refine SW.rowC ?_|refine SW.skip ?_|refine SW.exit ?_|refine PFn.use (hip) ?_|refine PFn.useq (hip) ?_|refine PFn.use (hpw) ?_|refine PFn.useq (hpw) ?_|refine PFn.use (hsz) ?_|refine PFn.useq (hsz) ?_|intro _|refine And.intro (by omega) ?_)|simp (disch:=(first|omega|(simp only [go_sem];try omega))) only [go_sem,Nat.reduceAdd,Nat.reduceEqDiff,Nat.reduceLeDiff,reduceIte,w64_id,cast_succ,e1,e4,h3,e3,hwk,h4])
 refine wE rfl ?_
 repeat (first|(with_reducible first|refine SW.seq ?_|refine q8 ?_|refine SW.rowC ?_|refine SW.skip ?_|refine SW.exit ?_|intro _|refine And.intro (by omega) ?_)|simp (disch:=(first|omega|(simp only [go_sem];try omega))) only [go_sem,Nat.reduceAdd,Nat.reduceEqDiff,Nat.reduceLeDiff,reduceIte,w64_id,cast_succ])
 refine wJ (fun E0 H0 m E' H'=>∃ i : Nat,i ≤ poly.length ∧ m = poly.length - i ∧ E' = aput E0 41 (I i) ∧ H' = H0 ∧ ∀ c ∈ poly.take i,(decide (0 ≤ c) && decide (c ≤ (P : Int) - 1)) = true) poly.length ⟨0,by omega,by omega,rfl,rfl,fun c h=>by simp at h⟩ ?_
 rintro m E' H' ⟨i,hi,rfl,rfl,rfl,hall⟩
 have hwp : w64 ((P : Int) - 1) = (P : Int) - 1:=w64_id (by omega) (by omega)
 simp (disch:=(first|omega|(simp only [go_sem];try omega))) only [go_sem,Nat.reduceAdd,Nat.reduceEqDiff,Nat.reduceLeDiff,reduceIte,w64_id,cast_succ]
 repeat (first|(with_reducible first|refine SW.seq ?_|refine q8 ?_|refine SW.rowC ?_|refine SW.skip ?_|refine SW.exit ?_|intro _|refine And.intro (by omega) ?_)|simp (disch:=(first|omega|(simp only [go_sem];try omega))) only [go_sem,Nat.reduceAdd,Nat.reduceEqDiff,Nat.reduceLeDiff,reduceIte,w64_id,cast_succ])
 (first|refine wK rfl (fun h6=>?_) (fun h6=>?_)|refine wL rfl (fun h6=>?_) (fun h6=>?_)|refine wF rfl (fun h6=>?_) (fun h6=>?_)|refine wH rfl (fun h6=>?_) (fun h6=>?_))
 ·have hil : i < poly.length:=by omega
  have w3:=within_fn (poly.getD i 0) 0 ((P : Int) - 1)
  have hge : poly.getD i 0 = poly[i]:=by rw [qE,qB hil];rfl
  have hmem : poly.getD i 0 ∈ poly:=by rw [hge];exact List.getElem_mem _
  cases h7 : (decide (0 ≤ poly.getD i 0) && decide (poly.getD i 0 ≤ (P : Int) - 1))
  ·have hno : (poly.all fun c=>decide (0 ≤ c) && decide (c ≤ (P : Int) - 1)) = false:=by
    rw [Bool.eq_false_iff]
    intro h8
    rw [w9] at h8
    rw [h8 _ hmem] at h7;cases h7
   rw [hno]
   rw [h7] at w3
   repeat (first|(with_reducible first|refine SW.seq ?_|refine q8 ?_|refine SW.rowC ?_|refine SW.skip ?_|refine SW.exit ?_|refine PFn.use (w3) ?_|refine PFn.useq (w3) ?_|intro _|refine And.intro (by omega) ?_)|simp (disch:=(first|omega|(simp only [go_sem];try omega))) only [go_sem,Nat.reduceAdd,Nat.reduceEqDiff,Nat.reduceLeDiff,reduceIte,w64_id,cast_succ,hwp])
   refine wM rfl ?_
   repeat (first|(with_reducible first|refine SW.seq ?_|refine q8 ?_|refine SW.rowC ?_|refine SW.skip ?_|refine SW.exit ?_|intro _|refine And.intro (by omega) ?_)|simp (disch:=(first|omega|(simp only [go_sem];try omega))) only [go_sem,Nat.reduceAdd,Nat.reduceEqDiff,Nat.reduceLeDiff,reduceIte,w64_id,cast_succ])
   refine SW.ret ?_;(try simp only [go_sem]);(first|refine qP ?_|refine qS ?_|refine qQ ?_);(try simp (disch:=(first|omega|(simp only [go_sem];try omega))) only [go_sem,Nat.reduceAdd,Nat.reduceEqDiff,Nat.reduceLeDiff,reduceIte,w64_id,cast_succ]);(first|(with_reducible refine GR.drop ?_ ?_;(simp only [go_sem,and_self,and_true,true_and,implies_true,qI,qO]))|refine GR.of ?_);refine ⟨?_,rfl⟩;(try with_reducible rfl)
  ·rw [h7] at w3
   repeat (first|(with_reducible first|refine SW.seq ?_|refine q8 ?_|refine SW.rowC ?_|refine SW.skip ?_|refine SW.exit ?_|refine PFn.use (w3) ?_|refine PFn.useq (w3) ?_|intro _|refine And.intro (by omega) ?_)|simp (disch:=(first|omega|(simp only [go_sem];try omega))) only [go_sem,Nat.reduceAdd,Nat.reduceEqDiff,Nat.reduceLeDiff,reduceIte,w64_id,cast_succ,hwp])
   refine wE rfl ?_
   repeat (first|(with_reducible first|refine SW.seq ?_|refine q8 ?_|refine SW.rowC ?_|refine SW.skip ?_|refine SW.exit ?_|intro _|refine And.intro (by omega) ?_)|simp (disch:=(first|omega|(simp only [go_sem];try omega))) only [go_sem,Nat.reduceAdd,Nat.reduceEqDiff,Nat.reduceLeDiff,reduceIte,w64_id,cast_succ])
   refine wB (poly.length - (i + 1)) (by omega) ⟨i + 1,by omega,rfl,by simp [go_sem],rfl,fun c hc=>?_⟩
   rw [List.take_succ_eq_append_getElem hil] at hc
   rcases xA.1 hc with h|h
   ·exact hall c h
   ·rw [xE.1 h,← hge];exact h7
 ·have hil : i = poly.length:=by omega
  rw [hil,List.take_length] at hall
  have hyes : (poly.all fun c=>decide (0 ≤ c) && decide (c ≤ (P : Int) - 1)) = true:=by
   rw [w9]
   exact hall
  rw [hyes]
  have hir:=hirr (fun c hc=>by
   have:=hall c hc
   rw [Bool.and_eq_true,decide_eq_true_eq,decide_eq_true_eq] at this
   omega)
  repeat (first|(with_reducible first|refine SW.seq ?_|refine q8 ?_|refine SW.rowC ?_|refine SW.skip ?_|refine SW.exit ?_|refine PFn.use (hir) ?_|refine PFn.useq (hir) ?_|intro _|refine And.intro (by omega) ?_)|simp (disch:=(first|omega|(simp only [go_sem];try omega))) only [go_sem,Nat.reduceAdd,Nat.reduceEqDiff,Nat.reduceLeDiff,reduceIte,w64_id,cast_succ])
  refine SW.ret ?_;(try simp only [go_sem]);(first|refine qP ?_|refine qS ?_|refine qQ ?_);(try simp (disch:=(first|omega|(simp only [go_sem];try omega))) only [go_sem,Nat.reduceAdd,Nat.reduceEqDiff,Nat.reduceLeDiff,reduceIte,w64_id,cast_succ]);(first|(with_reducible refine GR.drop ?_ ?_;(simp only [go_sem,and_self,and_true,true_and,implies_true,qI,qO]))|refine GR.of ?_);refine ⟨?_,rfl⟩;(try with_reducible rfl)
end Go.Proofs.YtclfmfabcnbbpaaGreat
namespace Go.Proofs.YtclfmfabcnbbpaaGreat
open Go.Av
abbrev f_impl_ValidMatrix : Nat:=43
def c_impl_ValidMatrix : SC :=
 .seq (.reg [⟨s' 2,.box 34 (t' 0),n'⟩,⟨s' 3,.box 25 (t' 1),n'⟩,⟨s' 4,.mv (.const (.bool false)),n'⟩] [2,3]) (.seq (.seq (.reg [⟨s' 6,.load 3 true (t' 2),n'⟩,
 ⟨s' 7,.call 62 [(t' 6)],n'⟩,⟨s' 8,.un .not (t' 7),n'⟩,⟨s' 9,.mv (t' 8),n'⟩,⟨s' 10,.load 1 false (t' 3),(some (9,false))⟩,⟨s' 11,.call 45 [(t' 10)],(some (9,false))⟩,
 ⟨s' 12,.call 63 [(t' 11),(.const (.int .i64 1)),(.const (.int .i64 32))],(some (9,false))⟩,⟨s' 13,.un .not (t' 12),(some (9,false))⟩,
 ⟨s' 14,.pick (t' 9) (.const (.bool true)) (t' 13),n'⟩,⟨s' 15,.mv (t' 14),n'⟩,⟨s' 16,.load 1 false (t' 3),(some (15,false))⟩,
 ⟨s' 17,.iaddr 1 (t' 16) (.const (.int .i64 0)),(some (15,false))⟩,⟨s' 18,.load 1 false (t' 17),(some (15,false))⟩,⟨s' 19,.call 53 [(t' 18)],(some (15,false))⟩,
 ⟨s' 20,.call 63 [(t' 19),(.const (.int .i64 1)),(.const (.int .i64 32))],(some (15,false))⟩,⟨s' 21,.un .not (t' 20),(some (15,false))⟩,
 ⟨s' 22,.pick (t' 15) (.const (.bool true)) (t' 21),n'⟩] [2,3,22]) (.cond (t' 22) (.seq (.reg [⟨s' 4,.mv (.const (.bool false)),n'⟩] [4]) (.ret)) (.skip))) (.seq (.reg [
 ⟨s' 23,.load 3 true (t' 2),n'⟩,⟨s' 24,.call 20 [(t' 23)],n'⟩,⟨s' 5,.alloc 2 [(.int .i64 0)],n'⟩,⟨n',.store 1 (t' 5) (t' 24),n'⟩] [3,5]) (.seq (.reg [
 ⟨s' 25,.load 1 false (t' 3),n'⟩,⟨s' 26,.mkf 65 [(t' 3),(t' 5)],n'⟩,⟨s' 27,.call 64 [(t' 25),(t' 26)],n'⟩,⟨s' 28,.un .not (t' 27),n'⟩,⟨s' 4,.mv (t' 28),n'⟩] [4]) (.ret))))
theorem s_impl_ValidMatrix : stripF Tryz.prog 43 [[2,3],[2,3,22],[4],[3,5],[4]] = some (c_impl_ValidMatrix,[.tmp 4],29):=by kernel_rfl
abbrev f_impl_ValidMatrix_c1 : Nat:=65
def c_impl_ValidMatrix_c1 : SC :=
 .seq (.reg [⟨s' 4,.mv (.const (.bool false)),n'⟩] [0,1,2]) (.seq (.reg [⟨s' 5,.mv (t' 0),n'⟩,⟨s' 6,.len (t' 5),n'⟩,⟨s' 7,.load 1 false (t' 1),n'⟩,
 ⟨s' 8,.iaddr 1 (t' 7) (.const (.int .i64 0)),n'⟩,⟨s' 9,.load 1 false (t' 8),n'⟩,⟨s' 10,.len (t' 9),n'⟩,⟨s' 11,.bin .neq (t' 6) (t' 10),n'⟩,⟨s' 12,.mv (t' 11),n'⟩,
 ⟨s' 13,.load 1 false (t' 2),(some (12,false))⟩,⟨s' 14,.mv (t' 0),(some (12,false))⟩,⟨s' 15,.call 66 [(t' 13),(t' 14)],(some (12,false))⟩,
 ⟨s' 16,.un .not (t' 15),(some (12,false))⟩,⟨s' 17,.pick (t' 12) (.const (.bool true)) (t' 16),n'⟩,⟨s' 4,.mv (t' 17),n'⟩] [4]) (.ret))
theorem s_impl_ValidMatrix_c1 : stripF Tryz.prog 65 [[0,1,2],[4]] = some (c_impl_ValidMatrix_c1,[.tmp 4],18):=by kernel_rfl
theorem ValidMatrix_call : callable Tryz.prog f_impl_ValidMatrix_c1 = true:=by kernel_rfl
theorem ValidMatrix_c1_ok (H : List Blk) (p1 p2 t1 t2 q : Nat) (m : List (List Int)) (R0 r : List Int) (hq : q ≤ 1000000) (h1 : H[p1]? = some ⟨0,t1,1,[ilSS m]⟩) (h2 : H[p2]? = some ⟨0,t2,1,[I q]⟩) (hm : 1 ≤ m.length) (hR : m.getD 0 [] = R0) :
  ACalls Tryz.prog f_impl_ValidMatrix_c1 [ilS r,.pc p1 0 0,.pc p2 0 0] H (fun v H'=>v = Bv (!(decide (r.length = R0.length) && vecB q r)) ∧ H' = H):=by
 have hg0 : (m.map ilS)[0]? = some (ilS (m.getD 0 [])):=by rw [qX,qE,qB (by omega)];rfl
 rw [hR] at hg0
 have har : PFn Tryz.prog f_impl_areIn [I q,ilS r] (Bv (vecB q r)):=areIn_fn (q : Int) r (by omega)
 by_cases hl : r.length = R0.length
 ·have d1 : decide ((r.length : Int) = R0.length) = true:=decide_eq_true (by omega)
  rw [decide_eq_true hl,Bool.true_and]
  refine ACalls.introB s_impl_ValidMatrix_c1 (by simp) ?_;intro hB hA;unfold c_impl_ValidMatrix_c1;simp (maxSteps:=1000000) (disch:=(first|omega|(simp only [go_sem];try omega))) only [go_sem,Nat.reduceAdd,Nat.reduceEqDiff,Nat.reduceLeDiff,Nat.reduceMul,Nat.reduceLT,reduceIte,Int.reduceToNat,w64_id,cast_succ]
  repeat (first|(with_reducible first|refine SW.seq ?_|refine q8 ?_|refine SW.rowC ?_|refine SW.skip ?_|refine SW.exit ?_|refine PFn.use (har) ?_|refine PFn.useq (har) ?_|intro _|refine And.intro (by omega) ?_)|simp (maxSteps:=1000000) (disch:=(first|omega|(simp only [go_sem];try omega))) only [go_sem,Nat.reduceAdd,Nat.reduceEqDiff,Nat.reduceLeDiff,Nat.reduceMul,Nat.reduceLT,reduceIte,Int.reduceToNat,w64_id,cast_succ,pc_ld h1,pc_alive h1,pc_ld h2,pc_alive h2,hg0,d1])
  refine SW.ret ?_;(try simp only [go_sem]);(first|refine qP ?_|refine qS ?_|refine qQ ?_);(try simp (maxSteps:=1000000) (disch:=(first|omega|(simp only [go_sem];try omega))) only [go_sem,Nat.reduceAdd,Nat.reduceEqDiff,Nat.reduceLeDiff,Nat.reduceMul,Nat.reduceLT,reduceIte,Int.reduceToNat,w64_id,cast_succ]);(first|(with_reducible refine GR.drop ?_ ?_;(simp only [go_sem,and_self,and_true,true_and,implies_true,qI,qO]))|refine GR.of ?_);refine ⟨?_,rfl⟩;(try with_reducible rfl)
 ·have d1 : decide ((r.length : Int) = R0.length) = false:=decide_eq_false (by omega)
  rw [decide_eq_false hl,Bool.false_and]
  refine ACalls.introB s_impl_ValidMatrix_c1 (by simp) ?_;intro hB hA;unfold c_impl_ValidMatrix_c1;simp (maxSteps:=1000000) (disch:=(first|omega|(simp only [go_sem];try omega))) only [go_sem,Nat.reduceAdd,Nat.reduceEqDiff,Nat.reduceLeDiff,Nat.reduceMul,Nat.reduceLT,reduceIte,Int.reduceToNat,w64_id,cast_succ]
  repeat (first|(with_reducible first|refine SW.seq ?_|refine q8 ?_|refine SW.rowC ?_|refine SW.skip ?_|refine SW.exit ?_|refine PFn.use (har) ?_|refine PFn.useq (har) ?_|intro _|refine And.intro (by omega) ?_)|simp (maxSteps:=1000000) (disch:=(first|omega|(simp only [go_sem];try omega))) only [go_sem,Nat.reduceAdd,Nat.reduceEqDiff,Nat.reduceLeDiff,Nat.reduceMul,Nat.reduceLT,reduceIte,Int.reduceToNat,w64_id,cast_succ,pc_ld h1,pc_alive h1,pc_ld h2,pc_alive h2,hg0,d1])
  refine SW.ret ?_;(try simp only [go_sem]);(first|refine qP ?_|refine qS ?_|refine qQ ?_);(try simp (maxSteps:=1000000) (disch:=(first|omega|(simp only [go_sem];try omega))) only [go_sem,Nat.reduceAdd,Nat.reduceEqDiff,Nat.reduceLeDiff,Nat.reduceMul,Nat.reduceLT,reduceIte,Int.reduceToNat,w64_id,cast_succ]);(first|(with_reducible refine GR.drop ?_ ?_;(simp only [go_sem,and_self,and_true,true_and,implies_true,qI,qO]))|refine GR.of ?_);refine ⟨?_,rfl⟩;(try with_reducible rfl)
theorem ValidMatrix_fn (p d : Int) (poly : List Int) (m : List (List Int)) (hwd : -9223372036854775808 ≤ d ∧ d ≤ 9223372036854775807) (hl : poly.length ≤ 2000000) (hm : m.length ≤ 2000000) (hm2 : ∀ x ∈ m,x.length ≤ 2000000) :
  PFn Tryz.prog f_impl_ValidMatrix [.agg [I p,I d,ilS poly],ilSS m] (Bv (fieldB p d poly && matC (p.toNat ^ d.toNat) m)):=by
 have hvf:=ValidField_fn p d poly hwd hl
 cases hf : fieldB p d poly
 ·rw [hf] at hvf
  intro H;refine ACalls.introB s_impl_ValidMatrix (by simp) ?_;intro hB hA;unfold c_impl_ValidMatrix;simp (maxSteps:=1000000) (disch:=(first|omega|(simp only [go_sem];try omega))) only [go_sem,Nat.reduceAdd,Nat.reduceEqDiff,Nat.reduceLeDiff,Nat.reduceMul,Nat.reduceLT,reduceIte,Int.reduceToNat,w64_id,cast_succ]
  repeat (first|(with_reducible first|refine SW.seq ?_|refine q8 ?_|refine SW.rowC ?_|refine SW.skip ?_|refine SW.exit ?_|refine PFn.use (hvf) ?_|refine PFn.useq (hvf) ?_|intro _|refine And.intro (by omega) ?_)|simp (maxSteps:=1000000) (disch:=(first|omega|(simp only [go_sem];try omega))) only [go_sem,Nat.reduceAdd,Nat.reduceEqDiff,Nat.reduceLeDiff,Nat.reduceMul,Nat.reduceLT,reduceIte,Int.reduceToNat,w64_id,cast_succ])
  refine wM rfl ?_
  repeat (first|(with_reducible first|refine SW.seq ?_|refine q8 ?_|refine SW.rowC ?_|refine SW.skip ?_|refine SW.exit ?_|intro _|refine And.intro (by omega) ?_)|simp (maxSteps:=1000000) (disch:=(first|omega|(simp only [go_sem];try omega))) only [go_sem,Nat.reduceAdd,Nat.reduceEqDiff,Nat.reduceLeDiff,Nat.reduceMul,Nat.reduceLT,reduceIte,Int.reduceToNat,w64_id,cast_succ])
  refine SW.ret ?_;(try simp only [go_sem]);(first|refine qP ?_|refine qS ?_|refine qQ ?_);(try simp (maxSteps:=1000000) (disch:=(first|omega|(simp only [go_sem];try omega))) only [go_sem,Nat.reduceAdd,Nat.reduceEqDiff,Nat.reduceLeDiff,Nat.reduceMul,Nat.reduceLT,reduceIte,Int.reduceToNat,w64_id,cast_succ]);(first|(with_reducible refine GR.drop ?_ ?_;(simp only [go_sem,and_self,and_true,true_and,implies_true,qI,qO]))|refine GR.of ?_);refine ⟨?_,rfl⟩;(try with_reducible rfl)
 rw [hf] at hvf
 obtain ⟨P,K,rfl,rfl,hpb,hkb,hLb,hq,-,-,-⟩:=fieldB_facts hf
 simp only [wA,Bool.true_and]
 have hfs:=fieldSize_fn P K poly (by omega) (by omega)
 rw [pwU_le (by omega) K 1 (qZ _) (by omega),yC] at hfs
 have hQ1 : P ≤ P ^ K:=yV (by omega) P
 generalize P ^ K = Q at *
 have hs1:=sizeS_fn m
 have w1:=within_fn (m.length : Int) 1 32
 by_cases h1 : 1 ≤ m.length ∧ m.length ≤ 32
 rotate_left
 ·have hmc : matC Q m = false:=by
   rw [Bool.eq_false_iff]
   intro h
   exact h1 (matC_facts h).1
  have hb : (decide (1 ≤ (m.length : Int)) && decide ((m.length : Int) ≤ 32)) = false:=by
   rw [Bool.eq_false_iff,Ne,Bool.and_eq_true,decide_eq_true_eq,decide_eq_true_eq];omega
  rw [hb] at w1
  rw [hmc]
  intro H;refine ACalls.introB s_impl_ValidMatrix (by simp) ?_;intro hB hA;unfold c_impl_ValidMatrix;simp (maxSteps:=1000000) (disch:=(first|omega|(simp only [go_sem];try omega))) only [go_sem,Nat.reduceAdd,Nat.reduceEqDiff,Nat.reduceLeDiff,Nat.reduceMul,Nat.reduceLT,reduceIte,Int.reduceToNat,w64_id,cast_succ]
  repeat (first|(with_reducible first|refine SW.seq ?_|refine q8 ?_|refine SW.rowC ?_|refine SW.skip ?_|refine SW.exit ?_|refine PFn.use (hvf) ?_|refine PFn.useq (hvf) ?_|refine PFn.use (hs1) ?_|refine PFn.useq (hs1) ?_|refine PFn.use (w1) ?_|refine PFn.useq (w1) ?_|intro _|refine And.intro (by omega) ?_)|simp (maxSteps:=1000000) (disch:=(first|omega|(simp only [go_sem];try omega))) only [go_sem,Nat.reduceAdd,Nat.reduceEqDiff,Nat.reduceLeDiff,Nat.reduceMul,Nat.reduceLT,reduceIte,Int.reduceToNat,w64_id,cast_succ])
  refine wM rfl ?_
  repeat (first|(with_reducible first|refine SW.seq ?_|refine q8 ?_|refine SW.rowC ?_|refine SW.skip ?_|refine SW.exit ?_|intro _|refine And.intro (by omega) ?_)|simp (maxSteps:=1000000) (disch:=(first|omega|(simp only [go_sem];try omega))) only [go_sem,Nat.reduceAdd,Nat.reduceEqDiff,Nat.reduceLeDiff,Nat.reduceMul,Nat.reduceLT,reduceIte,Int.reduceToNat,w64_id,cast_succ])
  refine SW.ret ?_;(try simp only [go_sem]);(first|refine qP ?_|refine qS ?_|refine qQ ?_);(try simp (maxSteps:=1000000) (disch:=(first|omega|(simp only [go_sem];try omega))) only [go_sem,Nat.reduceAdd,Nat.reduceEqDiff,Nat.reduceLeDiff,Nat.reduceMul,Nat.reduceLT,reduceIte,Int.reduceToNat,w64_id,cast_succ]);(first|(with_reducible refine GR.drop ?_ ?_;(simp only [go_sem,and_self,and_true,true_and,implies_true,qI,qO]))|refine GR.of ?_);refine ⟨?_,rfl⟩;(try with_reducible rfl)
 have hb : (decide (1 ≤ (m.length : Int)) && decide ((m.length : Int) ≤ 32)) = true:=by
  rw [Bool.and_eq_true,decide_eq_true_eq,decide_eq_true_eq];omega
 rw [hb] at w1
 have hg0 : (m.map ilS)[0]? = some (ilS (m.getD 0 [])):=by rw [qX,qE,qB (by omega)];rfl
 have hs2:=size_fn (m.getD 0 [])
 have w2:=within_fn ((m.getD 0 []).length : Int) 1 32
 have hmdef : matC Q m = ((decide (1 ≤ (m.getD 0 []).length) && decide ((m.getD 0 []).length ≤ 32)) && m.all fun r=>decide (r.length = (m.getD 0 []).length) && vecB Q r):=by
  unfold matC
  rw [decide_eq_true h1.1,decide_eq_true h1.2];simp
 rw [hmdef]
 generalize hR0 : m.getD 0 [] = R0 at *
 by_cases h2 : 1 ≤ R0.length ∧ R0.length ≤ 32
 rotate_left
 ·have hb2 : (decide (1 ≤ (R0.length : Int)) && decide ((R0.length : Int) ≤ 32)) = false:=by
   rw [Bool.eq_false_iff,Ne,Bool.and_eq_true,decide_eq_true_eq,decide_eq_true_eq];omega
  have hb3 : (decide (1 ≤ R0.length) && decide (R0.length ≤ 32)) = false:=by
   rw [Bool.eq_false_iff,Ne,Bool.and_eq_true,decide_eq_true_eq,decide_eq_true_eq];omega
  rw [hb2] at w2
  rw [hb3]
  intro H;refine ACalls.introB s_impl_ValidMatrix (by simp) ?_;intro hB hA;unfold c_impl_ValidMatrix;simp (maxSteps:=1000000) (disch:=(first|omega|(simp only [go_sem];try omega))) only [go_sem,Nat.reduceAdd,Nat.reduceEqDiff,Nat.reduceLeDiff,Nat.reduceMul,Nat.reduceLT,reduceIte,Int.reduceToNat,w64_id,cast_succ]
  repeat (first|(with_reducible first|refine SW.seq ?_|refine q8 ?_|refine SW.rowC ?_|refine SW.skip ?_|refine SW.exit ?_|refine PFn.use (hvf) ?_|refine PFn.useq (hvf) ?_|refine PFn.use (hs1) ?_|refine PFn.useq (hs1) ?_|refine PFn.use (w1) ?_|refine PFn.useq (w1) ?_|refine PFn.use (hs2) ?_|refine PFn.useq (hs2) ?_|refine PFn.use (w2) ?_|refine PFn.useq (w2) ?_|intro _|refine And.intro (by omega) ?_)|simp (maxSteps:=1000000) (disch:=(first|omega|(simp only [go_sem];try omega))) only [go_sem,Nat.reduceAdd,Nat.reduceEqDiff,Nat.reduceLeDiff,Nat.reduceMul,Nat.reduceLT,reduceIte,Int.reduceToNat,w64_id,cast_succ,hg0])
  refine wM rfl ?_
  repeat (first|(with_reducible first|refine SW.seq ?_|refine q8 ?_|refine SW.rowC ?_|refine SW.skip ?_|refine SW.exit ?_|intro _|refine And.intro (by omega) ?_)|simp (maxSteps:=1000000) (disch:=(first|omega|(simp only [go_sem];try omega))) only [go_sem,Nat.reduceAdd,Nat.reduceEqDiff,Nat.reduceLeDiff,Nat.reduceMul,Nat.reduceLT,reduceIte,Int.reduceToNat,w64_id,cast_succ])
  refine SW.ret ?_;(try simp only [go_sem]);(first|refine qP ?_|refine qS ?_|refine qQ ?_);(try simp (maxSteps:=1000000) (disch:=(first|omega|(simp only [go_sem];try omega))) only [go_sem,Nat.reduceAdd,Nat.reduceEqDiff,Nat.reduceLeDiff,Nat.reduceMul,Nat.reduceLT,reduceIte,Int.reduceToNat,w64_id,cast_succ]);(first|(with_reducible refine GR.drop ?_ ?_;(simp only [go_sem,and_self,and_true,true_and,implies_true,qI,qO]))|refine GR.of ?_);refine ⟨?_,rfl⟩;(try with_reducible rfl)
 have hb2 : (decide (1 ≤ (R0.length : Int)) && decide ((R0.length : Int) ≤ 32)) = true:=by
  rw [Bool.and_eq_true,decide_eq_true_eq,decide_eq_true_eq];omega
 have hb3 : (decide (1 ≤ R0.length) && decide (R0.length ≤ 32)) = true:=by
  rw [Bool.and_eq_true,decide_eq_true_eq,decide_eq_true_eq];omega
 rw [hb2] at w2
 rw [hb3,Bool.true_and]
 intro H;refine ACalls.introB s_impl_ValidMatrix (by simp) ?_;intro hB hA;unfold c_impl_ValidMatrix;simp (maxSteps:=1000000) (disch:=(first|omega|(simp only [go_sem];try omega))) only [go_sem,Nat.reduceAdd,Nat.reduceEqDiff,Nat.reduceLeDiff,Nat.reduceMul,Nat.reduceLT,reduceIte,Int.reduceToNat,w64_id,cast_succ]
 repeat (first|(with_reducible first|refine SW.seq ?_|refine q8 ?_|refine SW.rowC ?_|refine SW.skip ?_|refine SW.exit ?_|refine PFn.use (hvf) ?_|refine PFn.useq (hvf) ?_|refine PFn.use (hs1) ?_|refine PFn.useq (hs1) ?_|refine PFn.use (w1) ?_|refine PFn.useq (w1) ?_|refine PFn.use (hs2) ?_|refine PFn.useq (hs2) ?_|refine PFn.use (w2) ?_|refine PFn.useq (w2) ?_|intro _|refine And.intro (by omega) ?_)|simp (maxSteps:=1000000) (disch:=(first|omega|(simp only [go_sem];try omega))) only [go_sem,Nat.reduceAdd,Nat.reduceEqDiff,Nat.reduceLeDiff,Nat.reduceMul,Nat.reduceLT,reduceIte,Int.reduceToNat,w64_id,cast_succ,hg0])
 refine wE rfl ?_
 repeat (first|(with_reducible first|refine SW.seq ?_|refine q8 ?_|refine SW.rowC ?_|refine SW.skip ?_|refine SW.exit ?_|refine PFn.use (hfs) ?_|refine PFn.useq (hfs) ?_|intro _|refine And.intro (by omega) ?_)|simp (maxSteps:=1000000) (disch:=(first|omega|(simp only [go_sem];try omega))) only [go_sem,Nat.reduceAdd,Nat.reduceEqDiff,Nat.reduceLeDiff,Nat.reduceMul,Nat.reduceLT,reduceIte,Int.reduceToNat,w64_id,cast_succ])
 refine (conSS_ok ilS _ (ilSS m) m rfl f_impl_ValidMatrix_c1 _ ValidMatrix_call (fun r=>!(decide (r.length = R0.length) && vecB Q r)) (fun r hr=>ValidMatrix_c1_ok _ (H.length + 1) (H.length + 2) 25 2 Q m R0 r (by omega) (by rw [qV (by omega),yN];rfl) (by rw [qV (by omega),yN];rfl) h1.1 hR0)).mono ?_
 rintro r H' ⟨rfl,rfl⟩
 repeat (first|(with_reducible first|refine SW.seq ?_|refine q8 ?_|refine SW.rowC ?_|refine SW.skip ?_|refine SW.exit ?_|intro _|refine And.intro (by omega) ?_)|simp (maxSteps:=1000000) (disch:=(first|omega|(simp only [go_sem];try omega))) only [go_sem,Nat.reduceAdd,Nat.reduceEqDiff,Nat.reduceLeDiff,Nat.reduceMul,Nat.reduceLT,reduceIte,Int.reduceToNat,w64_id,cast_succ])
 refine SW.ret ?_;(try simp only [go_sem]);(first|refine qP ?_|refine qS ?_|refine qQ ?_);(try simp (maxSteps:=1000000) (disch:=(first|omega|(simp only [go_sem];try omega))) only [go_sem,Nat.reduceAdd,Nat.reduceEqDiff,Nat.reduceLeDiff,Nat.reduceMul,Nat.reduceLT,reduceIte,Int.reduceToNat,w64_id,cast_succ]);(first|(with_reducible refine GR.drop ?_ ?_;(simp only [go_sem,and_self,and_true,true_and,implies_true,qI,qO]))|refine GR.of ?_);refine ⟨?_,rfl⟩;(try with_reducible rfl)
 rw [List.any_eq_not_all_not]
 simp
end Go.Proofs.YtclfmfabcnbbpaaGreat
namespace Go.Proofs.YtclfmfabcnbbpaaGreat
open Go.Av
abbrev f_impl_combine : Nat:=67
def c_impl_combine : SC :=
 .seq (.reg [⟨s' 4,.box 34 (t' 0),n'⟩,⟨s' 8,.mv (.const (.int .i64 0)),n'⟩] [1,2,3,4]) (.seq (.reg [⟨s' 12,.mv (t' 1),n'⟩,⟨s' 13,.faddr 0 (t' 4),n'⟩,
 ⟨s' 14,.load 1 false (t' 13),n'⟩,⟨s' 15,.faddr 1 (t' 4),n'⟩,⟨s' 16,.load 1 false (t' 15),n'⟩,⟨s' 18,.mv (t' 2),n'⟩,⟨s' 19,.faddr 0 (t' 4),n'⟩,⟨s' 20,.load 1 false (t' 19),n'⟩,
 ⟨s' 21,.faddr 1 (t' 4),n'⟩,⟨s' 22,.load 1 false (t' 21),n'⟩,⟨s' 17,.fcall 75 [(t' 12),(t' 14),(t' 16)],n'⟩,⟨s' 23,.fcall 75 [(t' 18),(t' 20),(t' 22)],n'⟩,⟨s' 9,.mv (t' 17),n'⟩,
 ⟨s' 10,.mv (t' 23),n'⟩] [3,4,9,10]) (.seq (.seq (.reg [⟨s' 24,.mv (t' 9),n'⟩,⟨s' 25,.len (t' 24),n'⟩,⟨s' 26,.mv (.const (.int .i64 0)),n'⟩] [3,4,9,10,25,26])
 (.block 0 (.loop [3,4,9,10,25,26] (.seq (.reg [⟨s' 27,.bin .lss (t' 26) (t' 25),n'⟩] [3,4,9,10,25,26,27]) (.seq (.cond (t' 27) (.skip) (.exit 0)) (.seq (.block 1 (.seq (.reg [
 ⟨s' 28,.mv (t' 26),n'⟩,⟨s' 11,.mv (t' 28),n'⟩] [3,4,9,10,11,25,26]) (.reg [⟨s' 29,.mv (t' 9),n'⟩,⟨s' 30,.mv (t' 11),n'⟩,⟨s' 31,.mv (t' 9),n'⟩,⟨s' 32,.mv (t' 11),n'⟩,
 ⟨s' 33,.iaddr 1 (t' 31) (t' 32),n'⟩,⟨s' 34,.load 1 false (t' 33),n'⟩,⟨s' 35,.mv (t' 3),n'⟩,⟨s' 36,.mv (t' 10),n'⟩,⟨s' 37,.mv (t' 11),n'⟩,⟨s' 38,.iaddr 1 (t' 36) (t' 37),n'⟩,
 ⟨s' 39,.load 1 false (t' 38),n'⟩,⟨s' 40,.bin .mul (t' 35) (t' 39),n'⟩,⟨s' 41,.bin .add (t' 34) (t' 40),n'⟩,⟨s' 42,.faddr 0 (t' 4),n'⟩,⟨s' 43,.load 1 false (t' 42),n'⟩,
 ⟨s' 44,.bin .add (t' 41) (t' 43),n'⟩,⟨s' 45,.faddr 0 (t' 4),n'⟩,⟨s' 46,.load 1 false (t' 45),n'⟩,⟨s' 47,.bin .rem (t' 44) (t' 46),n'⟩,⟨s' 48,.iaddr 1 (t' 29) (t' 30),n'⟩,
 ⟨n',.store 1 (t' 48) (t' 47),n'⟩] [3,4,9,10,25,26]))) (.reg [⟨s' 49,.bin .add (t' 26) (.const (.int .i64 1)),n'⟩,⟨s' 26,.mv (t' 49),n'⟩] [3,4,9,10,25,26]))))))) (.seq (.reg [
 ⟨s' 50,.mv (t' 9),n'⟩,⟨s' 51,.faddr 0 (t' 4),n'⟩,⟨s' 52,.load 1 false (t' 51),n'⟩,⟨s' 53,.call 90 [(t' 50),(t' 52)],n'⟩,⟨s' 8,.mv (t' 53),n'⟩] [8]) (.ret))))
theorem s_impl_combine : stripF Tryz.prog 67 [[1,2,3,4],[3,4,9,10,1001005,1001011],[3,4,9,10,25,26],[3,4,9,10,25,26],[3,4,9,10,25,26,27],[3,4,9,10,11,25,26],[3,4,9,10,25,26],[3,4,9,10,25,26],[8]] = some (c_impl_combine,[.tmp 8],54):=by kernel_rfl
abbrev f_impl_product : Nat:=68
def c_impl_product : SC :=
 .seq (.reg [⟨s' 3,.box 34 (t' 0),n'⟩,⟨s' 6,.mv (.const (.int .i64 0)),n'⟩] [1,2,3]) (.seq (.reg [⟨s' 12,.mv (t' 1),n'⟩,⟨s' 13,.faddr 0 (t' 3),n'⟩,
 ⟨s' 14,.load 1 false (t' 13),n'⟩,⟨s' 15,.faddr 1 (t' 3),n'⟩,⟨s' 16,.load 1 false (t' 15),n'⟩,⟨s' 17,.qcall 75 [(t' 12),(t' 14),(t' 16)],n'⟩,⟨s' 18,.mv (t' 2),n'⟩,
 ⟨s' 19,.faddr 0 (t' 3),n'⟩,⟨s' 20,.load 1 false (t' 19),n'⟩,⟨s' 21,.faddr 1 (t' 3),n'⟩,⟨s' 22,.load 1 false (t' 21),n'⟩,⟨s' 23,.qcall 75 [(t' 18),(t' 20),(t' 22)],n'⟩,
 ⟨s' 7,.mv (t' 17),n'⟩,⟨s' 8,.mv (t' 23),n'⟩] [3,7,8]) (.seq (.reg [⟨s' 24,.faddr 1 (t' 3),n'⟩,⟨s' 25,.load 1 false (t' 24),n'⟩,
 ⟨s' 26,.bin .mul (.const (.int .i64 2)) (t' 25),n'⟩,⟨s' 27,.mslice 2 8 (.int .i64 0) (t' 26) (t' 26),n'⟩,⟨s' 9,.mv (t' 27),n'⟩] [3,7,8,9]) (.seq (.seq (.reg [
 ⟨s' 28,.mv (t' 7),n'⟩,⟨s' 29,.len (t' 28),n'⟩,⟨s' 30,.mv (.const (.int .i64 0)),n'⟩] [3,7,8,9,29,30]) (.block 0 (.loop [3,7,8,9,29,30] (.seq (.reg [
 ⟨s' 31,.bin .lss (t' 30) (t' 29),n'⟩] [3,7,8,9,29,30,31]) (.seq (.cond (t' 31) (.skip) (.exit 0)) (.seq (.block 1 (.seq (.reg [⟨s' 32,.mv (t' 30),n'⟩,
 ⟨s' 10,.mv (t' 32),n'⟩] [3,7,8,9,10,29,30]) (.seq (.reg [⟨s' 33,.mv (t' 8),n'⟩,⟨s' 34,.len (t' 33),n'⟩,⟨s' 35,.mv (.const (.int .i64 0)),n'⟩] [3,7,8,9,10,29,30,34,35])
 (.block 2 (.loop [3,7,8,9,10,29,30,34,35] (.seq (.reg [⟨s' 36,.bin .lss (t' 35) (t' 34),n'⟩] [3,7,8,9,10,29,30,34,35,36]) (.seq (.cond (t' 36) (.skip) (.exit 2))
 (.seq (.block 3 (.seq (.reg [⟨s' 37,.mv (t' 35),n'⟩,⟨s' 11,.mv (t' 37),n'⟩] [3,7,8,9,10,11,29,30,34,35]) (.reg [⟨s' 38,.mv (t' 9),n'⟩,⟨s' 39,.mv (t' 10),n'⟩,
 ⟨s' 40,.mv (t' 11),n'⟩,⟨s' 41,.bin .add (t' 39) (t' 40),n'⟩,⟨s' 42,.mv (t' 9),n'⟩,⟨s' 43,.mv (t' 10),n'⟩,⟨s' 44,.mv (t' 11),n'⟩,⟨s' 45,.bin .add (t' 43) (t' 44),n'⟩,
 ⟨s' 46,.iaddr 1 (t' 42) (t' 45),n'⟩,⟨s' 47,.load 1 false (t' 46),n'⟩,⟨s' 48,.mv (t' 7),n'⟩,⟨s' 49,.mv (t' 10),n'⟩,⟨s' 50,.iaddr 1 (t' 48) (t' 49),n'⟩,
 ⟨s' 51,.load 1 false (t' 50),n'⟩,⟨s' 52,.mv (t' 8),n'⟩,⟨s' 53,.mv (t' 11),n'⟩,⟨s' 54,.iaddr 1 (t' 52) (t' 53),n'⟩,⟨s' 55,.load 1 false (t' 54),n'⟩,
 ⟨s' 56,.bin .mul (t' 51) (t' 55),n'⟩,⟨s' 57,.bin .add (t' 47) (t' 56),n'⟩,⟨s' 58,.faddr 0 (t' 3),n'⟩,⟨s' 59,.load 1 false (t' 58),n'⟩,⟨s' 60,.bin .rem (t' 57) (t' 59),n'⟩,
 ⟨s' 61,.iaddr 1 (t' 38) (t' 41),n'⟩,⟨n',.store 1 (t' 61) (t' 60),n'⟩] [3,7,8,9,10,29,30,34,35]))) (.reg [⟨s' 62,.bin .add (t' 35) (.const (.int .i64 1)),n'⟩,
 ⟨s' 35,.mv (t' 62),n'⟩] [3,7,8,9,10,29,30,34,35]))))))))) (.reg [⟨s' 63,.bin .add (t' 30) (.const (.int .i64 1)),n'⟩,⟨s' 30,.mv (t' 63),n'⟩] [3,7,8,9,29,30]))))))) (.seq (.reg [
 ⟨s' 64,.mv (t' 9),n'⟩,⟨s' 65,.faddr 2 (t' 3),n'⟩,⟨s' 66,.load 1 false (t' 65),n'⟩,⟨s' 67,.faddr 0 (t' 3),n'⟩,⟨s' 68,.load 1 false (t' 67),n'⟩,
 ⟨s' 69,.qcall 91 [(t' 64),(t' 66),(t' 68)],n'⟩,⟨s' 70,.faddr 0 (t' 3),n'⟩,⟨s' 71,.load 1 false (t' 70),n'⟩,⟨s' 72,.qcall 90 [(t' 69),(t' 71)],n'⟩,⟨s' 6,.mv (t' 72),n'⟩] [6])
 (.ret)))))
theorem s_impl_product : stripF Tryz.prog 68 [[1,2,3],[3,7,8],[3,7,8,9],[3,7,8,9,29,30],[3,7,8,9,29,30],[3,7,8,9,29,30,31],[3,7,8,9,10,29,30],[3,7,8,9,10,29,30,34,35],[3,7,8,9,10,29,30,34,35],[3,7,8,9,10,29,30,34,35,36],[3,7,8,9,10,11,29,30,34,35],[3,7,8,9,10,29,30,34,35],[3,7,8,9,10,29,30,34,35],[3,7,8,9,29,30],[6]] = some (c_impl_product,[.tmp 6],73):=by kernel_rfl
theorem FcallW.rowE {P : Program} {f : FuncId} {args : List AV} {xs : List Int} {X : List Blk} {K : AV → List Blk → Prop} (h : NewD P f args xs) (hk : K (.nm X.length 0 0 xs.length) (X ++ [⟨0,2,1,xs.map I⟩])) : FcallW P f args X K :=
 (h X).mono (by rintro r H' ⟨rfl,rfl⟩;exact ⟨hk,_,rfl⟩)
theorem cmb_eq {p s x y : Int} (hp : 0 < p) (hx : 0 ≤ x ∧ x < p) (hy : 0 ≤ y ∧ y < p) (hs : s = 1 ∨ s = -1) : (x + s * y + p).tmod p = (x + (if s = 1 then 1 else p - 1) * y).tmod p:=by
 rcases hs with rfl|rfl
 ·rw [if_pos rfl,Int.one_mul,wY (by omega),wY (by omega),Int.add_emod_right]
 ·rw [if_neg (by omega)]
  have e : (p - 1) * y = p * y - y:=by rw [Int.sub_mul,Int.one_mul]
  have h1 : 0 ≤ (p - 1) * y:=xV (by omega) hy.1
  rw [wY (by omega),wY (by omega),Int.add_emod_right,e,show x + (p * y - y) = (x + -1 * y) + p * y by omega,yR]
theorem combine_fn (P K : Nat) (poly : List Int) (a b : Nat) (s : Int) (hpb : 2 ≤ P ∧ P ≤ 64) (hkb : 1 ≤ K ∧ K ≤ 6) (ha : a ≤ 1000) (hb : b ≤ 1000) (hs : s = 1 ∨ s = -1) : PFn Tryz.prog f_impl_combine [.agg [I P,I K,ilS poly],I a,I b,I s] (I (sumG P K a b (if s = 1 then 1 else P - 1))):=by
 intro H
 refine ACalls.introB s_impl_combine (by simp) ?_;intro hB hA;unfold c_impl_combine;simp (disch:=(first|omega|(simp only [go_sem];try omega))) only [go_sem,Nat.reduceAdd,Nat.reduceEqDiff,Nat.reduceLeDiff,reduceIte,w64_id,cast_succ]
 repeat (first|(with_reducible first|refine SW.seq ?_|refine q8 ?_|refine SW.rowC ?_|refine SW.skip ?_|refine SW.exit ?_|intro _|refine And.intro (by omega) ?_)|simp (disch:=(first|omega|(simp only [go_sem];try omega))) only [go_sem,Nat.reduceAdd,Nat.reduceEqDiff,Nat.reduceLeDiff,reduceIte,w64_id,cast_succ])
 refine FcallW.rowE (digitsOf_new a P K (by omega) (by omega) (by omega) (by omega)) ?_
 rw [digL_len]
 repeat (first|(with_reducible first|refine SW.seq ?_|refine q8 ?_|refine SW.rowC ?_|refine SW.skip ?_|refine SW.exit ?_|intro _|refine And.intro (by omega) ?_)|simp (disch:=(first|omega|(simp only [go_sem];try omega))) only [go_sem,Nat.reduceAdd,Nat.reduceEqDiff,Nat.reduceLeDiff,reduceIte,w64_id,cast_succ])
 refine FcallW.rowE (digitsOf_new b P K (by omega) (by omega) (by omega) (by omega)) ?_
 rw [digL_len]
 repeat (first|(with_reducible first|refine SW.seq ?_|refine q8 ?_|refine SW.rowC ?_|refine SW.skip ?_|refine SW.exit ?_|intro _|refine And.intro (by omega) ?_)|simp (disch:=(first|omega|(simp only [go_sem];try omega))) only [go_sem,Nat.reduceAdd,Nat.reduceEqDiff,Nat.reduceLeDiff,reduceIte,w64_id,cast_succ])
 have hXl:=digL_len P K a
 have hXo:=digL_ok (p:=P) (by omega) K a
 have hYl:=digL_len P K b
 have hYo:=digL_ok (p:=P) (by omega) K b
 have hV : sumG P K a b (if s = 1 then 1 else P - 1) = numL P (sumT P ((if s = 1 then 1 else P - 1 : Nat) : Int) (digL P K a) (digL P K b) K):=rfl
 rw [hV]
 clear hV
 generalize digL P K a = x at *
 generalize digL P K b = y at *
 obtain ⟨k,hk⟩ : ∃ k : Nat,k = (if s = 1 then 1 else P - 1):=⟨_,rfl⟩
 have hkI : ((k : Nat) : Int) = (if s = 1 then 1 else (P : Int) - 1):=by rw [hk];split <;> omega
 have hk64 : k ≤ 64:=by rw [hk];split <;> omega
 rw [← hk]
 have hP0 : ¬ ((P : Nat) : Int) = 0:=by omega
 have hSl:=fun i (h : i ≤ K)=>sumT_len P (k : Int) x y (i:=i) (by omega)
 have hSo:=fun i=>sumT_ok (p:=(P : Int)) (k:=(k : Int)) (by omega) (by omega) hXo hYo i
 have hnum:=numberOf_fn P (sumT P k x y K) (by omega) (by omega) (hSo _) (by rw [hSl _ (by omega)];omega)
 refine wJ (fun E0 H0 m E' H'=>∃ i : Nat,i ≤ K ∧ m = K - i ∧ E' = aput E0 26 (I i) ∧ H' = H ++ [⟨0,tyFd,1,[I P,I K,ilS poly]⟩,⟨0,2,1,(sumT P k x y i).map I⟩,⟨0,2,1,y.map I⟩]) K ⟨0,by omega,by omega,rfl,by simp [sumT]⟩ ?_
 rintro m E' H' ⟨i,hi,rfl,rfl,rfl⟩
 have htx : ((sumT P k x y i).map I).take K = (sumT P k x y i).map I:=qW (by rw [w8,hSl i hi];omega)
 have hty : (y.map I).take K = y.map I:=qW (by rw [w8];omega)
 have hsl:=hSl i hi
 simp (disch:=(first|omega|(simp only [go_sem];try omega))) only [go_sem,Nat.reduceAdd,Nat.reduceEqDiff,Nat.reduceLeDiff,reduceIte,w64_id,cast_succ]
 repeat (first|(with_reducible first|refine SW.seq ?_|refine q8 ?_|refine SW.rowC ?_|refine SW.skip ?_|refine SW.exit ?_|intro _|refine And.intro (by omega) ?_)|simp (disch:=(first|omega|(simp only [go_sem];try omega))) only [go_sem,Nat.reduceAdd,Nat.reduceEqDiff,Nat.reduceLeDiff,reduceIte,w64_id,cast_succ,htx,hty])
 (first|refine wK rfl (fun h2=>?_) (fun h2=>?_)|refine wL rfl (fun h2=>?_) (fun h2=>?_)|refine wF rfl (fun h2=>?_) (fun h2=>?_)|refine wH rfl (fun h2=>?_) (fun h2=>?_))
 ·have hiK : i < K:=by omega
  have hg:=sumT_get P (k : Int) x y (i:=i) (by omega)
  have hst:=sumT_set P (k : Int) x y (i:=i) (by omega)
  have hx1:=hXo.getD (show (0 : Int) < P by omega) i
  have hy1:=hYo.getD (show (0 : Int) < P by omega) i
  have hce:=cmb_eq (p:=(P : Int)) (s:=s) (by omega) hx1 hy1 hs
  rw [← hkI] at hce
  obtain ⟨d1,d2,d3,d4⟩:=sumX_bd (p:=(P : Int)) (k:=(k : Int)) (by omega) (by omega) hXo hYo i
  have hsy : -64 ≤ s * y.getD i 0 ∧ s * y.getD i 0 ≤ 64:=by rcases hs with rfl|rfl <;> omega
  unfold sumX at hst d3 d4
  rw [← hce] at hst
  generalize hxi : x.getD i 0 = xi at *
  generalize hyi : y.getD i 0 = yi at *
  generalize hpr : s * yi = pr at *
  repeat (first|(with_reducible first|refine SW.seq ?_|refine q8 ?_|refine SW.rowC ?_|refine SW.skip ?_|refine SW.exit ?_|intro _|refine And.intro (by omega) ?_)|simp (disch:=(first|omega|(simp only [go_sem];try omega))) only [go_sem,Nat.reduceAdd,Nat.reduceEqDiff,Nat.reduceLeDiff,reduceIte,w64_id,cast_succ,htx,hty,hg,hyi,hpr])
  exact wB (K - (i + 1)) (by omega) ⟨i + 1,by omega,rfl,by simp [go_sem],by rw [← hst]⟩
 ·have hiK : i = K:=by omega
  subst hiK
  have hfb:=froz_rowI (H:=H ++ [⟨0,tyFd,1,[I P,I i,ilS poly]⟩,⟨0,2,1,(sumT P k x y i).map I⟩,(⟨0,2,1,y.map I⟩ : Blk)]) (b:=0) (r:=H.length + 1) (ver:=0) (ty:=2) (xs:=sumT P k x y i) (x4 _) (by simp)
  rw [hsl,hXl] at hfb
  repeat (first|(with_reducible first|refine SW.seq ?_|refine q8 ?_|refine SW.rowC ?_|refine SW.skip ?_|refine SW.exit ?_|intro _|refine And.intro (by omega) ?_)|simp (disch:=(first|omega|(simp only [go_sem];try omega))) only [go_sem,Nat.reduceAdd,Nat.reduceEqDiff,Nat.reduceLeDiff,reduceIte,w64_id,cast_succ])
  refine ACalls.fn (hnum.lend (.cons hfb (.cons (froz_I' _) .nil))) ?_
  repeat (first|(with_reducible first|refine SW.seq ?_|refine q8 ?_|refine SW.rowC ?_|refine SW.skip ?_|refine SW.exit ?_|intro _|refine And.intro (by omega) ?_)|simp (disch:=(first|omega|(simp only [go_sem];try omega))) only [go_sem,Nat.reduceAdd,Nat.reduceEqDiff,Nat.reduceLeDiff,reduceIte,w64_id,cast_succ])
  refine SW.ret ?_;(try simp only [go_sem]);(first|refine qP ?_|refine qS ?_|refine qQ ?_);(try simp (disch:=(first|omega|(simp only [go_sem];try omega))) only [go_sem,Nat.reduceAdd,Nat.reduceEqDiff,Nat.reduceLeDiff,reduceIte,w64_id,cast_succ]);(first|(with_reducible refine GR.drop ?_ ?_;(simp only [go_sem,and_self,and_true,true_and,implies_true,qI,qO]))|refine GR.of ?_);refine ⟨?_,rfl⟩;(try with_reducible rfl)
theorem NewD.pfn {P : Program} {f : FuncId} {args : List AV} {xs : List Int} (h : NewD P f args xs) : PFn P f args (ilS xs):=by
 intro H
 refine (h H).gr ?_
 rintro r H' ⟨rfl,rfl⟩
 exact GR.froz (froz_rowI (H:=H ++ [⟨0,2,1,xs.map I⟩]) (b:=H.length) (r:=H.length) (ver:=0) (ty:=2) (qZ _) (by simp)) ⟨rfl,rfl⟩
theorem getD_app {z w : List Int} {i : Nat} (h : i < z.length) : (z ++ w).getD i 0 = z.getD i 0:=by
 rw [qE,List.getElem?_append_left h,qE]
theorem mulI_app {p c : Int} {y w : List Int} {i : Nat} : ∀ (m : Nat) (z : List Int),m ≤ y.length → i + y.length ≤ z.length → mulI p c y i m (z ++ w) = mulI p c y i m z ++ w
 | 0,z,_,_=>rfl
 | m + 1,z,hm,hz=>by
  have hi : i + (y.length - (m + 1)) < z.length:=by omega
  rw [mulI,mulI,getD_app hi,List.set_append_left _ _ hi]
  exact mulI_app m _ (by omega) (by rw [w6];exact hz)
theorem mulI_length {p c : Int} {y : List Int} {i : Nat} : ∀ (m : Nat) (z : List Int),(mulI p c y i m z).length = z.length
 | 0,_=>rfl
 | m + 1,z=>by rw [mulI,mulI_length m,w6]
theorem mulO_app {p : Int} {x y w : List Int} : ∀ (m : Nat) (z : List Int),m ≤ x.length → x.length + y.length ≤ z.length + 1 → mulO p x y m (z ++ w) = mulO p x y m z ++ w
 | 0,z,_,_=>rfl
 | m + 1,z,hm,hz=>by
  rw [mulO,mulO,mulI_app y.length z (qZ _) (by omega)]
  exact mulO_app m _ (by omega) (by rw [mulI_length];exact hz)
theorem rstI_app {p c : Int} {by' w : List Int} {a : Nat} : ∀ (m : Nat) (z : List Int),m ≤ by'.length → a + by'.length ≤ z.length → rstI p by' a c m (z ++ w) = rstI p by' a c m z ++ w
 | 0,z,_,_=>rfl
 | m + 1,z,hm,hz=>by
  have hi : a + (by'.length - (m + 1)) < z.length:=by omega
  rw [rstI,rstI,getD_app hi,List.set_append_left _ _ hi]
  exact rstI_app m _ (by omega) (by rw [w6];exact hz)
theorem rstI_length {p c : Int} {by' : List Int} {a : Nat} : ∀ (m : Nat) (z : List Int),(rstI p by' a c m z).length = z.length
 | 0,_=>rfl
 | m + 1,z=>by rw [rstI,rstI_length m,w6]
theorem rstO_app {p : Int} {by' w : List Int} (hb : 1 ≤ by'.length) : ∀ (f : Nat) (z : List Int),f + (by'.length - 1) ≤ z.length → rstO p by' f (z ++ w) = rstO p by' f z ++ w
 | 0,z,_=>rfl
 | f + 1,z,hz=>by
  rw [rstO,rstO,getD_app (by omega),rstI_app by'.length z (qZ _) (by omega)]
  exact rstO_app hb f _ (by rw [rstI_length];omega)
theorem rstI_zero {p : Int} {by' : List Int} {a : Nat} (hp : 0 < p) (hb : OkD p by') : ∀ (m : Nat) (z : List Int),OkD p z → rstI p by' a 0 m z = z
 | 0,z,_=>rfl
 | m + 1,z,hz=>by
  have h1:=hz.getD hp (a + (by'.length - (m + 1)))
  have h2:=hb.getD hp (by'.length - (m + 1))
  have h3 : 0 ≤ (p - 0) * by'.getD (by'.length - (m + 1)) 0:=xV (by omega) h2.1
  have e : (z.getD (a + (by'.length - (m + 1))) 0 + (p - 0) * by'.getD (by'.length - (m + 1)) 0).tmod p = z.getD (a + (by'.length - (m + 1))) 0:=by
   rw [wY (by omega),Int.sub_zero,yR,Int.emod_eq_of_lt h1.1 h1.2]
  rw [rstI,e]
  have e2 : z.set (a + (by'.length - (m + 1))) (z.getD (a + (by'.length - (m + 1))) 0) = z:=by
   refine List.ext_getElem? fun i=>?_
   rw [List.getElem?_set]
   split
   ·rename_i h;subst h
    split
    ·rename_i h;rw [qE,qB h];rfl
    ·rename_i h;rw [List.getElem?_eq_none (by omega)]
   ·rfl
  rw [e2]
  exact rstI_zero hp hb m z hz
theorem restL_app0 {p : Int} {z by' : List Int} (hp : 0 < p) (hb : OkD p by') (hb1 : 1 ≤ by'.length) (hz : OkD p z) (hl : by'.length ≤ z.length + 1) : restL (z ++ [0]) by' p = restL z by' p:=by
 unfold restL
 have hz0 : OkD p (z ++ [0]):=fun u hu=>by
  rcases xA.1 hu with h|h
  ·exact hz u h
  ·rw [xE.1 h];omega
 have hg : (z ++ [0]).getD (z.length + 1 - by'.length + (by'.length - 1)) 0 = 0:=by
  rw [qE,qV (by omega),show z.length + 1 - by'.length + (by'.length - 1) - z.length = 0 by omega];rfl
 rw [List.length_append,List.length_singleton,show z.length + 1 + 1 - by'.length = (z.length + 1 - by'.length) + 1 by omega,rstO,hg,rstI_zero hp hb _ _ hz0,rstO_app hb1 _ _ (by omega)]
 have hlen : ∀ (f : Nat) (o : List Int),(rstO p by' f o).length = o.length:=by
  intro f
  induction f with
  | zero=>exact fun _=>rfl
  | succ f ih=>intro o;rw [rstO,ih,rstI_length]
 rw [List.take_append_of_le_length (by rw [hlen];omega)]
theorem product_fn (P K : Nat) (poly : List Int) (a b : Nat) (hpb : 2 ≤ P ∧ P ≤ 64) (hkb : 1 ≤ K ∧ K ≤ 6) (hLb : OkD P poly ∧ poly.length = K + 1) (ha : a ≤ 1000) (hb : b ≤ 1000) : PFn Tryz.prog f_impl_product [.agg [I P,I K,ilS poly],I a,I b] (I (mulG P K poly a b)):=by
 intro H
 have hd1:=(digitsOf_new a P K (by omega) (by omega) (by omega) (by omega)).pfn
 have hd2:=(digitsOf_new b P K (by omega) (by omega) (by omega) (by omega)).pfn
 refine ACalls.introB s_impl_product (by simp) ?_;intro hB hA;unfold c_impl_product;simp (disch:=(first|omega|(simp only [go_sem];try omega))) only [go_sem,Nat.reduceAdd,Nat.reduceEqDiff,Nat.reduceLeDiff,reduceIte,w64_id,cast_succ]
 repeat (first|(with_reducible first|refine SW.seq ?_|refine q8 ?_|refine SW.rowC ?_|refine SW.skip ?_|refine SW.exit ?_|refine PFn.use (hd1) ?_|refine PFn.useq (hd1) ?_|refine PFn.use (hd2) ?_|refine PFn.useq (hd2) ?_|intro _|refine And.intro (by omega) ?_)|simp (disch:=(first|omega|(simp only [go_sem];try omega))) only [go_sem,Nat.reduceAdd,Nat.reduceEqDiff,Nat.reduceLeDiff,reduceIte,w64_id,cast_succ])
 have hXl:=digL_len P K a
 have hXo:=digL_ok (p:=P) (by omega) K a
 have hYl:=digL_len P K b
 have hYo:=digL_ok (p:=P) (by omega) K b
 have hV : mulG P K poly a b = numL P (restL (mulO P (digL P K a) (digL P K b) K (qT (2 * K - 1) 0)) poly P):=rfl
 rw [hV]
 clear hV hd1 hd2
 generalize digL P K a = x at *
 generalize digL P K b = y at *
 have hP0 : ¬ ((P : Nat) : Int) = 0:=by omega
 have e0 : (2 * (K : Int)).toNat = 2 * K:=by omega
 rw [e0,hXl]
 have hZ1:=rep_ok (p:=(P : Int)) (by omega) (2 * K - 1)
 have hM1:=mulO_ok (p:=(P : Int)) (by omega) hXo hYo K (qT (2 * K - 1) 0) hZ1
 rw [xT] at hM1
 have hrep : qT (2 * K) (0 : Int) = qT (2 * K - 1) 0 ++ [0]:=by
  rw [show 2 * K = (2 * K - 1) + 1 by omega,List.replicate_succ',show 2 * K - 1 + 1 - 1 = 2 * K - 1 by omega]
 have hMa:=mulO_app (p:=(P : Int)) (x:=x) (y:=y) (w:=[0]) K (qT (2 * K - 1) 0) (by omega) (by rw [xT];omega)
 rw [← hrep] at hMa
 have hra:=restL_app0 (p:=(P : Int)) (by omega) hLb.1 (by omega) hM1.1 (by omega)
 rw [← hra,← hMa]
 clear hra hMa hM1 hZ1 hrep
 have hZ0:=rep_ok (p:=(P : Int)) (by omega) (2 * K)
 have hMk:=mulO_ok (p:=(P : Int)) (by omega) hXo hYo K (qT (2 * K) 0) hZ0
 rw [xT] at hMk
 generalize hM : mulO P x y K (qT (2 * K) 0) = M at *
 have hrst:=restL_ok (p:=(P : Int)) (by omega) (by omega) hLb.1 hMk.1
 have hnum:=numberOf_fn P (restL M poly P) (by omega) (by omega) hrst.1 (by omega)
 refine wJ (fun E0 H0 m E' H'=>∃ (i : Nat) (z : List Int),i ≤ K ∧ m = K - i ∧ OkD P z ∧ z.length = 2 * K ∧ M = mulO P x y (K - i) z ∧ E' = aput E0 30 (I i) ∧ H' = H ++ [⟨0,tyFd,1,[I P,I K,ilS poly]⟩,⟨0,2,1,z.map I⟩]) K ⟨0,qT (2 * K) 0,by omega,by omega,hZ0,by simp,hM.symm,rfl,rfl⟩ ?_
 rintro m E' H' ⟨i,z,hi,rfl,hzo,hzl,hMz,rfl,rfl⟩
 simp (disch:=(first|omega|(simp only [go_sem];try omega))) only [go_sem,Nat.reduceAdd,Nat.reduceEqDiff,Nat.reduceLeDiff,reduceIte,w64_id,cast_succ]
 repeat (first|(with_reducible first|refine SW.seq ?_|refine q8 ?_|refine SW.rowC ?_|refine SW.skip ?_|refine SW.exit ?_|intro _|refine And.intro (by omega) ?_)|simp (disch:=(first|omega|(simp only [go_sem];try omega))) only [go_sem,Nat.reduceAdd,Nat.reduceEqDiff,Nat.reduceLeDiff,reduceIte,w64_id,cast_succ])
 (first|refine wK rfl (fun h2=>?_) (fun h2=>?_)|refine wL rfl (fun h2=>?_) (fun h2=>?_)|refine wF rfl (fun h2=>?_) (fun h2=>?_)|refine wH rfl (fun h2=>?_) (fun h2=>?_))
 ·have hiK : i < K:=by omega
  rw [show K - i = (K - (i + 1)) + 1 by omega,mulO,show x.length - (K - (i + 1) + 1) = i by omega] at hMz
  have hxi:=hXo.getD (show (0 : Int) < P by omega) i
  generalize hc : x.getD i 0 = c at *
  generalize hS : mulI P c y i y.length z = S at *
  repeat (first|(with_reducible first|refine SW.seq ?_|refine q8 ?_|refine SW.rowC ?_|refine SW.skip ?_|refine SW.exit ?_|intro _|refine And.intro (by omega) ?_)|simp (disch:=(first|omega|(simp only [go_sem];try omega))) only [go_sem,Nat.reduceAdd,Nat.reduceEqDiff,Nat.reduceLeDiff,reduceIte,w64_id,cast_succ,hYl])
  refine wJ (fun E0 H0 m E' H'=>∃ (k : Nat) (o : List Int),k ≤ K ∧ m = K - k ∧ OkD P o ∧ o.length = 2 * K ∧ S = mulI P c y i (K - k) o ∧ E' = aput E0 35 (I k) ∧ H' = H ++ [⟨0,tyFd,1,[I P,I K,ilS poly]⟩,⟨0,2,1,o.map I⟩]) K ⟨0,z,by omega,by omega,hzo,hzl,by rw [← hS,hYl];rfl,rfl,rfl⟩ ?_
  rintro m E' H' ⟨k,o,hk,rfl,hoo,hol,hSo,rfl,rfl⟩
  have hto : (o.map I).take (2 * K) = o.map I:=qW (by rw [w8];omega)
  simp (disch:=(first|omega|(simp only [go_sem];try omega))) only [go_sem,Nat.reduceAdd,Nat.reduceEqDiff,Nat.reduceLeDiff,reduceIte,w64_id,cast_succ]
  repeat (first|(with_reducible first|refine SW.seq ?_|refine q8 ?_|refine SW.rowC ?_|refine SW.skip ?_|refine SW.exit ?_|intro _|refine And.intro (by omega) ?_)|simp (disch:=(first|omega|(simp only [go_sem];try omega))) only [go_sem,Nat.reduceAdd,Nat.reduceEqDiff,Nat.reduceLeDiff,reduceIte,w64_id,cast_succ])
  (first|refine wK rfl (fun h3=>?_) (fun h3=>?_)|refine wL rfl (fun h3=>?_) (fun h3=>?_)|refine wF rfl (fun h3=>?_) (fun h3=>?_)|refine wH rfl (fun h3=>?_) (fun h3=>?_))
  ·have hkK : k < K:=by omega
   rw [show K - k = (K - (k + 1)) + 1 by omega,mulI,show y.length - (K - (k + 1) + 1) = k by omega] at hSo
   have hyk:=hYo.getD (show (0 : Int) < P by omega) k
   have hok:=hoo.getD (show (0 : Int) < P by omega) (i + k)
   obtain ⟨d1,d2,d3⟩:=mul_bd (p:=(P : Int)) (by omega) hxi hyk hok
   have ho':=hoo.set (i + k) d3
   generalize hyk0 : y.getD k 0 = yk at *
   generalize hok0 : o.getD (i + k) 0 = ok at *
   generalize hpr : c * yk = pr at *
   have e1 : (i : Int) + (k : Int) = ((i + k : Nat) : Int):=by omega
   repeat (first|(with_reducible first|refine SW.seq ?_|refine q8 ?_|refine SW.rowC ?_|refine SW.skip ?_|refine SW.exit ?_|intro _|refine And.intro (by omega) ?_)|simp (disch:=(first|omega|(simp only [go_sem];try omega))) only [go_sem,Nat.reduceAdd,Nat.reduceEqDiff,Nat.reduceLeDiff,reduceIte,w64_id,cast_succ,hto,e1,hyk0,hok0,hpr,hc])
   exact wB (K - (k + 1)) (by omega) ⟨k + 1,_,by omega,rfl,ho',by rw [w6];exact hol,hSo,by simp [go_sem],rfl⟩
  ·have hkK : k = K:=by omega
   rw [hkK,Nat.sub_self,mulI] at hSo
   subst hSo
   repeat (first|(with_reducible first|refine SW.seq ?_|refine q8 ?_|refine SW.rowC ?_|refine SW.skip ?_|refine SW.exit ?_|intro _|refine And.intro (by omega) ?_)|simp (disch:=(first|omega|(simp only [go_sem];try omega))) only [go_sem,Nat.reduceAdd,Nat.reduceEqDiff,Nat.reduceLeDiff,reduceIte,w64_id,cast_succ])
   exact wB (K - (i + 1)) (by omega) ⟨i + 1,S,by omega,rfl,hoo,hol,hMz,by simp [go_sem],rfl⟩
 ·have hiK : K - i = 0:=by omega
  rw [hiK,mulO] at hMz
  subst hMz
  have hfb:=froz_rowI (H:=H ++ [⟨0,tyFd,1,[I P,I K,ilS poly]⟩,(⟨0,2,1,M.map I⟩ : Blk)]) (b:=0) (r:=H.length + 1) (ver:=0) (ty:=2) (xs:=M) (x4 _) (by simp)
  rw [hzl] at hfb
  repeat (first|(with_reducible first|refine SW.seq ?_|refine q8 ?_|refine SW.rowC ?_|refine SW.skip ?_|refine SW.exit ?_|intro _|refine And.intro (by omega) ?_)|simp (disch:=(first|omega|(simp only [go_sem];try omega))) only [go_sem,Nat.reduceAdd,Nat.reduceEqDiff,Nat.reduceLeDiff,reduceIte,w64_id,cast_succ])
  refine QcallW.of ((remainder_new P M poly (by omega) (by omega) hMk.1 hLb.1 (by omega) (by omega) (by omega)).lendq (.cons hfb (.cons (.old _ (by rw [Bel_ilS];trivial)) (.cons (froz_I' _) .nil)))) ?_
  repeat (first|(with_reducible first|refine SW.seq ?_|refine q8 ?_|refine SW.rowC ?_|refine SW.skip ?_|refine SW.exit ?_|refine PFn.use (hnum) ?_|refine PFn.useq (hnum) ?_|intro _|refine And.intro (by omega) ?_)|simp (disch:=(first|omega|(simp only [go_sem];try omega))) only [go_sem,Nat.reduceAdd,Nat.reduceEqDiff,Nat.reduceLeDiff,reduceIte,w64_id,cast_succ])
  refine SW.ret ?_;(try simp only [go_sem]);(first|refine qP ?_|refine qS ?_|refine qQ ?_);(try simp (disch:=(first|omega|(simp only [go_sem];try omega))) only [go_sem,Nat.reduceAdd,Nat.reduceEqDiff,Nat.reduceLeDiff,reduceIte,w64_id,cast_succ]);(first|(with_reducible refine GR.drop ?_ ?_;(simp only [go_sem,and_self,and_true,true_and,implies_true,qI,qO]))|refine GR.of ?_);refine ⟨?_,rfl⟩;(try with_reducible rfl)
end Go.Proofs.YtclfmfabcnbbpaaGreat