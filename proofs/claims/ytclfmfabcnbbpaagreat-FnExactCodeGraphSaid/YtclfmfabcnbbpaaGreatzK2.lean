/- Functions that look. -/
import Derived.Test.YtclfmfabcnbbpaaGreatProg
import Derived.KernelRfl
import Derived.Test.YtclfmfabcnbbpaaGreatzK1
import Derived.Test.YtclfmfabcnbbpaaGreatzL2
set_option linter.unusedSimpArgs false
set_option linter.unusedVariables false
set_option maxHeartbeats 4000000
set_option maxRecDepth 100000
open Go.Operand renaming tmp→t'
open Option renaming none→n',some→s'
open Go.Av.SW renaming block→q8,condD→wK,condN→wL,condNB→wF,condB→wH
open Go.Av.FunPost renaming one→qP,two→qS,three→qQ
open List renaming take_succ_cons→qI,take_zero→qO
namespace Go.Proofs.YtclfmfabcnbbpaaGreat
open Go.Av
abbrev f_slices_ContainsFunc_LLint64_Lint64 : Nat:=64
def c_slices_ContainsFunc_LLint64_Lint64 : SC :=
 .seq (.reg [⟨s' 4,.mv (.const (.bool false)),n'⟩] [0,1]) (.seq (.reg [⟨s' 5,.mv (t' 0),n'⟩,⟨s' 6,.mv (t' 1),n'⟩,⟨s' 7,.call 70 [(t' 5),(t' 6)],n'⟩,
 ⟨s' 8,.bin .geq (t' 7) (.const (.int .i64 0)),n'⟩,⟨s' 4,.mv (t' 8),n'⟩] [4]) (.ret))
theorem s_slices_ContainsFunc_LLint64_Lint64 : stripF Tryz.prog 64 [[0,1],[4]] = some (c_slices_ContainsFunc_LLint64_Lint64,[.tmp 4],9):=by kernel_rfl
abbrev f_slices_IndexFunc_LLint64_Lint64 : Nat:=70
def c_slices_IndexFunc_LLint64_Lint64 : SC :=
 .seq (.reg [⟨s' 4,.mv (.const (.int .i64 0)),n'⟩] [0,1]) (.seq (.seq (.reg [⟨s' 6,.mv (t' 0),n'⟩,⟨s' 7,.len (t' 6),n'⟩,⟨s' 8,.mv (.const (.int .i64 0)),n'⟩] [0,1,7,8])
 (.block 0 (.loop [0,1,7,8] (.seq (.reg [⟨s' 9,.bin .lss (t' 8) (t' 7),n'⟩] [0,1,7,8,9]) (.seq (.cond (t' 9) (.skip) (.exit 0)) (.seq (.block 1 (.seq (.reg [⟨s' 10,.mv (t' 8),n'⟩,
 ⟨s' 5,.mv (t' 10),n'⟩] [0,1,5,7,8]) (.seq (.reg [⟨s' 11,.mv (t' 1),n'⟩,⟨s' 12,.mv (t' 0),n'⟩,⟨s' 13,.mv (t' 5),n'⟩,⟨s' 14,.iaddr 1 (t' 12) (t' 13),n'⟩,
 ⟨s' 15,.load 1 false (t' 14),n'⟩,⟨s' 16,.callv (t' 11) [(t' 15)],n'⟩] [0,1,5,7,8,16]) (.cond (t' 16) (.seq (.reg [⟨s' 17,.mv (t' 5),n'⟩,⟨s' 4,.mv (t' 17),n'⟩] [4]) (.ret))
 (.skip))))) (.reg [⟨s' 18,.bin .add (t' 8) (.const (.int .i64 1)),n'⟩,⟨s' 8,.mv (t' 18),n'⟩] [0,1,7,8]))))))) (.seq (.reg [⟨s' 4,.mv (.const (.int .i64 (-1))),n'⟩] [4]) (.ret)))
theorem s_slices_IndexFunc_LLint64_Lint64 : stripF Tryz.prog 70 [[0,1],[0,1,7,8],[0,1,7,8],[0,1,7,8,9],[0,1,5,7,8],[0,1,5,7,8,16],[4],[0,1,7,8],[4]] = some (c_slices_IndexFunc_LLint64_Lint64,[.tmp 4],19):=by kernel_rfl
theorem within_fn (n lo hi : Int) : PFn Tryz.prog f_impl_within [I n,I lo,I hi] (Bv (decide (lo ≤ n) && decide (n ≤ hi))):=fun H=>within_ok H n lo hi
theorem l00In_fn (n lo hi : Int) : PFn Tryz.prog f_spec_l00In [I n,I lo,I hi] (Bv (decide (lo ≤ n) && decide (n ≤ hi))):=fun H=>l00In_ok H n lo hi
def asc (lo hi : Int) : List Int → Bool
 | []=>true
 | x :: r=>decide (lo ≤ x) && decide (x ≤ hi) && asc (x + 1) hi r
theorem idxSS_ok {f : Nat} {anns : List (List Nat)} (hs : stripF Tryz.prog f anns = some (c_slices_IndexFunc_LLint64_Lint64,[.tmp 4],19)) {α : Type} (enc : α → AV) (H : List Blk) (a : AV) (xs : List α) (ha : aview H a = some (xs.length,xs.map enc))
  (g : Nat) (cs : List AV) (hg : callable Tryz.prog g = true) (p : α → Bool) (hp : ∀ x ∈ xs,ACalls Tryz.prog g (enc x :: cs) H (fun r H'=>r = Bv (p x) ∧ H' = H)) :
  ACalls Tryz.prog f [a,.fn g cs] H (fun r H'=>(∃ i : Int,r = I i ∧ (0 ≤ i ↔ xs.any p = true)) ∧ H' = H):=by
 refine ACalls.introB hs (by simp) ?_;intro hB hA;unfold c_slices_IndexFunc_LLint64_Lint64;simp (disch:=(first|omega|(simp only [go_sem];try omega))) only [go_sem,Nat.reduceAdd,Nat.reduceEqDiff,Nat.reduceLeDiff,reduceIte,w64_id,cast_succ]
 repeat (first|(with_reducible first|refine SW.seq ?_|refine q8 ?_|refine SW.rowC ?_|refine SW.skip ?_|refine SW.exit ?_|intro _|refine And.intro (by omega) ?_)|simp (disch:=(first|omega|(simp only [go_sem];try omega))) only [go_sem,Nat.reduceAdd,Nat.reduceEqDiff,Nat.reduceLeDiff,reduceIte,w64_id,cast_succ,ha])
 refine SW.loopE (fun E0 H0 q E' H'=>∃ (pre post : List α),xs = pre ++ post ∧ q = post.length ∧ E' = aput E0 8 (I pre.length) ∧ H' = H0 ∧ ∀ x ∈ pre,p x = false) xs.length ⟨[],xs,rfl,rfl,rfl,rfl,by simp⟩ ?_
 rintro q E' H' ⟨pre,post,hpp,rfl,rfl,rfl,hn⟩
 simp (disch:=(first|omega|(simp only [go_sem];try omega))) only [go_sem,Nat.reduceAdd,Nat.reduceEqDiff,Nat.reduceLeDiff,reduceIte,w64_id,cast_succ]
 repeat (first|(with_reducible first|refine SW.seq ?_|refine q8 ?_|refine SW.rowC ?_|refine SW.skip ?_|refine SW.exit ?_|intro _|refine And.intro (by omega) ?_)|simp (disch:=(first|omega|(simp only [go_sem];try omega))) only [go_sem,Nat.reduceAdd,Nat.reduceEqDiff,Nat.reduceLeDiff,reduceIte,w64_id,cast_succ])
 (first|refine wK rfl (fun h=>?_) (fun h=>?_)|refine wL rfl (fun h=>?_) (fun h=>?_)|refine wF rfl (fun h=>?_) (fun h=>?_)|refine wH rfl (fun h=>?_) (fun h=>?_))
 ·cases post with
  | nil=>exfalso;simp at hpp;subst hpp;omega
  | cons x post =>
   have hgx : (xs.map enc)[pre.length]? = some (enc x):=by subst hpp;simp
   repeat (first|(with_reducible first|refine SW.seq ?_|refine q8 ?_|refine SW.rowC ?_|refine SW.skip ?_|refine SW.exit ?_|intro _|refine And.intro (by omega) ?_)|simp (disch:=(first|omega|(simp only [go_sem];try omega))) only [go_sem,Nat.reduceAdd,Nat.reduceEqDiff,Nat.reduceLeDiff,reduceIte,w64_id,cast_succ,ha,hgx,hg])
   refine ACalls.fn (hp x (by subst hpp;simp)) ?_
   repeat (first|(with_reducible first|refine SW.seq ?_|refine q8 ?_|refine SW.rowC ?_|refine SW.skip ?_|refine SW.exit ?_|intro _|refine And.intro (by omega) ?_)|simp (disch:=(first|omega|(simp only [go_sem];try omega))) only [go_sem,Nat.reduceAdd,Nat.reduceEqDiff,Nat.reduceLeDiff,reduceIte,w64_id,cast_succ])
   (first|refine wK rfl (fun h2=>?_) (fun h2=>?_)|refine wL rfl (fun h2=>?_) (fun h2=>?_)|refine wF rfl (fun h2=>?_) (fun h2=>?_)|refine wH rfl (fun h2=>?_) (fun h2=>?_))
   ·repeat (first|(with_reducible first|refine SW.seq ?_|refine q8 ?_|refine SW.rowC ?_|refine SW.skip ?_|refine SW.exit ?_|intro _|refine And.intro (by omega) ?_)|simp (disch:=(first|omega|(simp only [go_sem];try omega))) only [go_sem,Nat.reduceAdd,Nat.reduceEqDiff,Nat.reduceLeDiff,reduceIte,w64_id,cast_succ])
    refine SW.ret ?_;(try simp only [go_sem]);(first|refine qP ?_|refine qS ?_|refine qQ ?_);(try simp (disch:=(first|omega|(simp only [go_sem];try omega))) only [go_sem,Nat.reduceAdd,Nat.reduceEqDiff,Nat.reduceLeDiff,reduceIte,w64_id,cast_succ]);(first|(with_reducible refine GR.drop ?_ ?_;(simp only [go_sem,and_self,and_true,true_and,implies_true,qI,qO]))|refine GR.of ?_);refine ⟨?_,rfl⟩;(try with_reducible rfl)
    exact ⟨_,rfl,by subst hpp;simp [h2]⟩
   ·repeat (first|(with_reducible first|refine SW.seq ?_|refine q8 ?_|refine SW.rowC ?_|refine SW.skip ?_|refine SW.exit ?_|intro _|refine And.intro (by omega) ?_)|simp (disch:=(first|omega|(simp only [go_sem];try omega))) only [go_sem,Nat.reduceAdd,Nat.reduceEqDiff,Nat.reduceLeDiff,reduceIte,w64_id,cast_succ])
    refine SLoop.next post.length (by simp) ⟨pre ++ [x],post,by simp [hpp],rfl,?_,rfl,?_⟩
    ·simp [go_sem]
    ·intro y hy
     rcases List.mem_append.1 hy with hy|hy
     ·exact hn y hy
     ·simp at hy;subst hy;exact h2
 ·repeat (first|(with_reducible first|refine SW.seq ?_|refine q8 ?_|refine SW.rowC ?_|refine SW.skip ?_|refine SW.exit ?_|intro _|refine And.intro (by omega) ?_)|simp (disch:=(first|omega|(simp only [go_sem];try omega))) only [go_sem,Nat.reduceAdd,Nat.reduceEqDiff,Nat.reduceLeDiff,reduceIte,w64_id,cast_succ])
  refine SW.ret ?_;(try simp only [go_sem]);(first|refine qP ?_|refine qS ?_|refine qQ ?_);(try simp (disch:=(first|omega|(simp only [go_sem];try omega))) only [go_sem,Nat.reduceAdd,Nat.reduceEqDiff,Nat.reduceLeDiff,reduceIte,w64_id,cast_succ]);(first|(with_reducible refine GR.drop ?_ ?_;(simp only [go_sem,and_self,and_true,true_and,implies_true,qI,qO]))|refine GR.of ?_);refine ⟨?_,rfl⟩;(try with_reducible rfl)
  have : post = []:=by cases post with
   | nil=>rfl
   | cons x post=>exfalso;subst hpp;simp at h;omega
  subst this
  refine ⟨-1,rfl,?_⟩
  simp at hpp;subst hpp
  simp;intro x hx;exact hn x hx
theorem conSS_ok {α : Type} (enc : α → AV) (H : List Blk) (a : AV) (xs : List α) (ha : aview H a = some (xs.length,xs.map enc))
  (g : Nat) (cs : List AV) (hg : callable Tryz.prog g = true) (p : α → Bool) (hp : ∀ x ∈ xs,ACalls Tryz.prog g (enc x :: cs) H (fun r H'=>r = Bv (p x) ∧ H' = H)) :
  ACalls Tryz.prog f_slices_ContainsFunc_LLint64_Lint64 [a,.fn g cs] H (fun r H'=>r = Bv (xs.any p) ∧ H' = H):=by
 refine ACalls.introB s_slices_ContainsFunc_LLint64_Lint64 (by simp) ?_;intro hB hA;unfold c_slices_ContainsFunc_LLint64_Lint64;simp (disch:=(first|omega|(simp only [go_sem];try omega))) only [go_sem,Nat.reduceAdd,Nat.reduceEqDiff,Nat.reduceLeDiff,reduceIte,w64_id,cast_succ]
 repeat (first|(with_reducible first|refine SW.seq ?_|refine q8 ?_|refine SW.rowC ?_|refine SW.skip ?_|refine SW.exit ?_|intro _|refine And.intro (by omega) ?_)|simp (disch:=(first|omega|(simp only [go_sem];try omega))) only [go_sem,Nat.reduceAdd,Nat.reduceEqDiff,Nat.reduceLeDiff,reduceIte,w64_id,cast_succ])
 refine (idxSS_ok s_slices_IndexFunc_LLint64_Lint64 enc H a xs ha g cs hg p hp).mono ?_
 rintro r H' ⟨⟨i,rfl,hi⟩,rfl⟩
 simp (disch:=(first|omega|(simp only [go_sem];try omega))) only [go_sem,Nat.reduceAdd,Nat.reduceEqDiff,Nat.reduceLeDiff,reduceIte,w64_id,cast_succ]
 repeat (first|(with_reducible first|refine SW.seq ?_|refine q8 ?_|refine SW.rowC ?_|refine SW.skip ?_|refine SW.exit ?_|intro _|refine And.intro (by omega) ?_)|simp (disch:=(first|omega|(simp only [go_sem];try omega))) only [go_sem,Nat.reduceAdd,Nat.reduceEqDiff,Nat.reduceLeDiff,reduceIte,w64_id,cast_succ])
 refine SW.ret ?_;(try simp only [go_sem]);(first|refine qP ?_|refine qS ?_|refine qQ ?_);(try simp (disch:=(first|omega|(simp only [go_sem];try omega))) only [go_sem,Nat.reduceAdd,Nat.reduceEqDiff,Nat.reduceLeDiff,reduceIte,w64_id,cast_succ]);(first|(with_reducible refine GR.drop ?_ ?_;(simp only [go_sem,and_self,and_true,true_and,implies_true,qI,qO]))|refine GR.of ?_);refine ⟨?_,rfl⟩;(try with_reducible rfl)
 refine congrArg Bv ?_
 rw [Bool.eq_iff_iff,decide_eq_true_eq,hi]
end Go.Proofs.YtclfmfabcnbbpaaGreat
namespace Go.Proofs.YtclfmfabcnbbpaaGreat
open Go.Av
abbrev f_cmp_Compare_int64 : Nat:=106
def c_cmp_Compare_int64 : SC :=
 .seq (.reg [⟨s' 4,.mv (.const (.int .i64 0)),n'⟩] [0,1]) (.seq (.reg [⟨s' 7,.mv (t' 0),n'⟩,⟨s' 8,.call 118 [(t' 7)],n'⟩,⟨s' 5,.mv (t' 8),n'⟩] [0,1,5]) (.seq (.reg [
 ⟨s' 9,.mv (t' 1),n'⟩,⟨s' 10,.call 118 [(t' 9)],n'⟩,⟨s' 6,.mv (t' 10),n'⟩] [0,1,5,6]) (.seq (.seq (.reg [⟨s' 11,.mv (t' 5),n'⟩] [0,1,6,11]) (.cond (t' 11) (.seq (.seq (.reg [
 ⟨s' 12,.mv (t' 6),n'⟩] [12]) (.cond (t' 12) (.seq (.reg [⟨s' 4,.mv (.const (.int .i64 0)),n'⟩] [4]) (.ret)) (.skip))) (.seq (.reg [⟨s' 4,.mv (.const (.int .i64 (-1))),n'⟩] [4])
 (.ret))) (.skip))) (.seq (.seq (.reg [⟨s' 13,.mv (t' 6),n'⟩] [0,1,13]) (.cond (t' 13) (.seq (.reg [⟨s' 4,.mv (.const (.int .i64 1)),n'⟩] [4]) (.ret)) (.skip))) (.seq (.seq (.reg [
 ⟨s' 14,.mv (t' 0),n'⟩,⟨s' 15,.mv (t' 1),n'⟩,⟨s' 16,.bin .lss (t' 14) (t' 15),n'⟩] [0,1,16]) (.cond (t' 16) (.seq (.reg [⟨s' 4,.mv (.const (.int .i64 (-1))),n'⟩] [4]) (.ret))
 (.skip))) (.seq (.seq (.reg [⟨s' 17,.mv (t' 0),n'⟩,⟨s' 18,.mv (t' 1),n'⟩,⟨s' 19,.bin .gtr (t' 17) (t' 18),n'⟩] [19]) (.cond (t' 19) (.seq (.reg [
 ⟨s' 4,.mv (.const (.int .i64 1)),n'⟩] [4]) (.ret)) (.skip))) (.seq (.reg [⟨s' 4,.mv (.const (.int .i64 0)),n'⟩] [4]) (.ret))))))))
theorem s_cmp_Compare_int64 : stripF Tryz.prog 106 [[0,1],[0,1,5],[0,1,5,6],[0,1,6,11],[12],[4],[4],[0,1,13],[4],[0,1,16],[4],[19],[4],[4]] = some (c_cmp_Compare_int64,[.tmp 4],20):=by kernel_rfl
abbrev f_cmp_isNaN_int64 : Nat:=118
def c_cmp_isNaN_int64 : SC :=
 .seq (.reg [⟨s' 2,.mv (.const (.bool false)),n'⟩] [0]) (.seq (.reg [⟨s' 3,.mv (t' 0),n'⟩,⟨s' 4,.mv (t' 0),n'⟩,⟨s' 5,.bin .neq (t' 3) (t' 4),n'⟩,⟨s' 2,.mv (t' 5),n'⟩] [2]) (.ret))
theorem s_cmp_isNaN_int64 : stripF Tryz.prog 118 [[0],[2]] = some (c_cmp_isNaN_int64,[.tmp 2],6):=by kernel_rfl
theorem isNaN_fn (x : Int) : PFn Tryz.prog f_cmp_isNaN_int64 [I x] (Bv false):=by
 intro H;refine ACalls.introB s_cmp_isNaN_int64 (by simp) ?_;intro hB hA;unfold c_cmp_isNaN_int64;simp (disch:=(first|omega|(simp only [go_sem];try omega))) only [go_sem,Nat.reduceAdd,Nat.reduceEqDiff,Nat.reduceLeDiff,reduceIte,w64_id,cast_succ]
 repeat (first|(with_reducible first|refine SW.seq ?_|refine q8 ?_|refine SW.rowC ?_|refine SW.skip ?_|refine SW.exit ?_|intro _|refine And.intro (by omega) ?_)|simp (disch:=(first|omega|(simp only [go_sem];try omega))) only [go_sem,Nat.reduceAdd,Nat.reduceEqDiff,Nat.reduceLeDiff,reduceIte,w64_id,cast_succ])
 refine SW.ret ?_;(try simp only [go_sem]);(first|refine qP ?_|refine qS ?_|refine qQ ?_);(try simp (disch:=(first|omega|(simp only [go_sem];try omega))) only [go_sem,Nat.reduceAdd,Nat.reduceEqDiff,Nat.reduceLeDiff,reduceIte,w64_id,cast_succ]);(first|(with_reducible refine GR.drop ?_ ?_;(simp only [go_sem,and_self,and_true,true_and,implies_true,qI,qO]))|refine GR.of ?_);refine ⟨?_,rfl⟩;(try with_reducible rfl)
def cmpI (x y : Int) : Int:=if x < y then -1 else if y < x then 1 else 0
theorem cmpCompare_fn (x y : Int) : PFn Tryz.prog f_cmp_Compare_int64 [I x,I y] (I (cmpI x y)):=by
 intro H;refine ACalls.introB s_cmp_Compare_int64 (by simp) ?_;intro hB hA;unfold c_cmp_Compare_int64;simp (disch:=(first|omega|(simp only [go_sem];try omega))) only [go_sem,Nat.reduceAdd,Nat.reduceEqDiff,Nat.reduceLeDiff,reduceIte,w64_id,cast_succ]
 repeat (first|(with_reducible first|refine SW.seq ?_|refine q8 ?_|refine SW.rowC ?_|refine SW.skip ?_|refine SW.exit ?_|refine PFn.use (isNaN_fn _) ?_|refine PFn.useq (isNaN_fn _) ?_|intro _|refine And.intro (by omega) ?_)|simp (disch:=(first|omega|(simp only [go_sem];try omega))) only [go_sem,Nat.reduceAdd,Nat.reduceEqDiff,Nat.reduceLeDiff,reduceIte,w64_id,cast_succ])
 refine SW.condF rfl ?_
 repeat (first|(with_reducible first|refine SW.seq ?_|refine q8 ?_|refine SW.rowC ?_|refine SW.skip ?_|refine SW.exit ?_|intro _|refine And.intro (by omega) ?_)|simp (disch:=(first|omega|(simp only [go_sem];try omega))) only [go_sem,Nat.reduceAdd,Nat.reduceEqDiff,Nat.reduceLeDiff,reduceIte,w64_id,cast_succ])
 refine SW.condF rfl ?_
 repeat (first|(with_reducible first|refine SW.seq ?_|refine q8 ?_|refine SW.rowC ?_|refine SW.skip ?_|refine SW.exit ?_|intro _|refine And.intro (by omega) ?_)|simp (disch:=(first|omega|(simp only [go_sem];try omega))) only [go_sem,Nat.reduceAdd,Nat.reduceEqDiff,Nat.reduceLeDiff,reduceIte,w64_id,cast_succ])
 (first|refine wK rfl (fun h=>?_) (fun h=>?_)|refine wL rfl (fun h=>?_) (fun h=>?_)|refine wF rfl (fun h=>?_) (fun h=>?_)|refine wH rfl (fun h=>?_) (fun h=>?_))
 ·repeat (first|(with_reducible first|refine SW.seq ?_|refine q8 ?_|refine SW.rowC ?_|refine SW.skip ?_|refine SW.exit ?_|intro _|refine And.intro (by omega) ?_)|simp (disch:=(first|omega|(simp only [go_sem];try omega))) only [go_sem,Nat.reduceAdd,Nat.reduceEqDiff,Nat.reduceLeDiff,reduceIte,w64_id,cast_succ])
  refine SW.ret ?_;(try simp only [go_sem]);(first|refine qP ?_|refine qS ?_|refine qQ ?_);(try simp (disch:=(first|omega|(simp only [go_sem];try omega))) only [go_sem,Nat.reduceAdd,Nat.reduceEqDiff,Nat.reduceLeDiff,reduceIte,w64_id,cast_succ]);(first|(with_reducible refine GR.drop ?_ ?_;(simp only [go_sem,and_self,and_true,true_and,implies_true,qI,qO]))|refine GR.of ?_);refine ⟨?_,rfl⟩;(try with_reducible rfl)
  rw [cmpI,if_pos h]
 ·repeat (first|(with_reducible first|refine SW.seq ?_|refine q8 ?_|refine SW.rowC ?_|refine SW.skip ?_|refine SW.exit ?_|intro _|refine And.intro (by omega) ?_)|simp (disch:=(first|omega|(simp only [go_sem];try omega))) only [go_sem,Nat.reduceAdd,Nat.reduceEqDiff,Nat.reduceLeDiff,reduceIte,w64_id,cast_succ])
  (first|refine wK rfl (fun h2=>?_) (fun h2=>?_)|refine wL rfl (fun h2=>?_) (fun h2=>?_)|refine wF rfl (fun h2=>?_) (fun h2=>?_)|refine wH rfl (fun h2=>?_) (fun h2=>?_))
  ·repeat (first|(with_reducible first|refine SW.seq ?_|refine q8 ?_|refine SW.rowC ?_|refine SW.skip ?_|refine SW.exit ?_|intro _|refine And.intro (by omega) ?_)|simp (disch:=(first|omega|(simp only [go_sem];try omega))) only [go_sem,Nat.reduceAdd,Nat.reduceEqDiff,Nat.reduceLeDiff,reduceIte,w64_id,cast_succ])
   refine SW.ret ?_;(try simp only [go_sem]);(first|refine qP ?_|refine qS ?_|refine qQ ?_);(try simp (disch:=(first|omega|(simp only [go_sem];try omega))) only [go_sem,Nat.reduceAdd,Nat.reduceEqDiff,Nat.reduceLeDiff,reduceIte,w64_id,cast_succ]);(first|(with_reducible refine GR.drop ?_ ?_;(simp only [go_sem,and_self,and_true,true_and,implies_true,qI,qO]))|refine GR.of ?_);refine ⟨?_,rfl⟩;(try with_reducible rfl)
   rw [cmpI,if_neg h,if_pos h2]
  ·repeat (first|(with_reducible first|refine SW.seq ?_|refine q8 ?_|refine SW.rowC ?_|refine SW.skip ?_|refine SW.exit ?_|intro _|refine And.intro (by omega) ?_)|simp (disch:=(first|omega|(simp only [go_sem];try omega))) only [go_sem,Nat.reduceAdd,Nat.reduceEqDiff,Nat.reduceLeDiff,reduceIte,w64_id,cast_succ])
   refine SW.ret ?_;(try simp only [go_sem]);(first|refine qP ?_|refine qS ?_|refine qQ ?_);(try simp (disch:=(first|omega|(simp only [go_sem];try omega))) only [go_sem,Nat.reduceAdd,Nat.reduceEqDiff,Nat.reduceLeDiff,reduceIte,w64_id,cast_succ]);(first|(with_reducible refine GR.drop ?_ ?_;(simp only [go_sem,and_self,and_true,true_and,implies_true,qI,qO]))|refine GR.of ?_);refine ⟨?_,rfl⟩;(try with_reducible rfl)
   rw [cmpI,if_neg h,if_neg h2]
end Go.Proofs.YtclfmfabcnbbpaaGreat