/- Choices of orbits. -/
import Derived.Test.YtclfmfabcnbbpaaGreatProg
import Derived.KernelRfl
import Derived.Test.YtclfmfabcnbbpaaGreatzK2
import Derived.Test.YtclfmfabcnbbpaaGreatzK4
set_option linter.unusedSimpArgs false
set_option linter.unusedVariables false
set_option maxHeartbeats 4000000
set_option maxRecDepth 100000
open Go.Operand renaming tmp→t'
open Option renaming none→n',some→s'
open Go.Av.SW renaming block→q8
open Go.Av.FunPost renaming one→qP,two→qS,three→qQ
open List renaming take_succ_cons→qI,take_zero→qO
namespace Go.Proofs.YtclfmfabcnbbpaaGreat
open Go.Av
abbrev f_impl_size_Lint64 : Nat:=45
def c_impl_size_Lint64 : SC :=
 .seq (.reg [⟨s' 2,.mv (.const (.int .i64 0)),n'⟩] [0]) (.seq (.reg [⟨s' 3,.mv (t' 0),n'⟩,⟨s' 4,.len (t' 3),n'⟩,⟨s' 2,.mv (t' 4),n'⟩] [2]) (.ret))
theorem s_impl_size_Lint64 : stripF Tryz.prog 45 [[0],[2]] = some (c_impl_size_Lint64,[.tmp 2],5):=by kernel_rfl
abbrev f_impl_size_int64 : Nat:=53
def c_impl_size_int64 : SC :=
 .seq (.reg [⟨s' 2,.mv (.const (.int .i64 0)),n'⟩] [0]) (.seq (.reg [⟨s' 3,.mv (t' 0),n'⟩,⟨s' 4,.len (t' 3),n'⟩,⟨s' 2,.mv (t' 4),n'⟩] [2]) (.ret))
theorem s_impl_size_int64 : stripF Tryz.prog 53 [[0],[2]] = some (c_impl_size_int64,[.tmp 2],5):=by kernel_rfl
abbrev f_impl_areIn : Nat:=66
def c_impl_areIn : SC :=
 .seq (.reg [⟨s' 2,.box 2 (t' 0),n'⟩,⟨s' 4,.mv (.const (.bool false)),n'⟩] [1,2]) (.seq (.reg [⟨s' 5,.mv (t' 1),n'⟩,⟨s' 6,.mkf 89 [(t' 2)],n'⟩,⟨s' 7,.call 88 [(t' 5),(t' 6)],n'⟩,
 ⟨s' 8,.un .not (t' 7),n'⟩,⟨s' 4,.mv (t' 8),n'⟩] [4]) (.ret))
theorem s_impl_areIn : stripF Tryz.prog 66 [[1,2],[4]] = some (c_impl_areIn,[.tmp 4],9):=by kernel_rfl
abbrev f_slices_ContainsFunc_Lint64_int64 : Nat:=88
def c_slices_ContainsFunc_Lint64_int64 : SC :=
 .seq (.reg [⟨s' 4,.mv (.const (.bool false)),n'⟩] [0,1]) (.seq (.reg [⟨s' 5,.mv (t' 0),n'⟩,⟨s' 6,.mv (t' 1),n'⟩,⟨s' 7,.call 102 [(t' 5),(t' 6)],n'⟩,
 ⟨s' 8,.bin .geq (t' 7) (.const (.int .i64 0)),n'⟩,⟨s' 4,.mv (t' 8),n'⟩] [4]) (.ret))
theorem s_slices_ContainsFunc_Lint64_int64 : stripF Tryz.prog 88 [[0,1],[4]] = some (c_slices_ContainsFunc_Lint64_int64,[.tmp 4],9):=by kernel_rfl
abbrev f_impl_areIn_c1 : Nat:=89
def c_impl_areIn_c1 : SC :=
 .seq (.reg [⟨s' 3,.mv (.const (.bool false)),n'⟩] [0,1]) (.seq (.reg [⟨s' 4,.mv (t' 0),n'⟩,⟨s' 5,.load 1 false (t' 1),n'⟩,⟨s' 6,.bin .sub (t' 5) (.const (.int .i64 1)),n'⟩,
 ⟨s' 7,.call 63 [(t' 4),(.const (.int .i64 0)),(t' 6)],n'⟩,⟨s' 8,.un .not (t' 7),n'⟩,⟨s' 3,.mv (t' 8),n'⟩] [3]) (.ret))
theorem s_impl_areIn_c1 : stripF Tryz.prog 89 [[0,1],[3]] = some (c_impl_areIn_c1,[.tmp 3],9):=by kernel_rfl
def c_slices_IndexFunc_Lint64_int64 : SC :=
 .seq (.reg [⟨s' 4,.mv (.const (.int .i64 0)),n'⟩] [0,1]) (.seq (.seq (.reg [⟨s' 6,.mv (t' 0),n'⟩,⟨s' 7,.len (t' 6),n'⟩,⟨s' 8,.mv (.const (.int .i64 0)),n'⟩] [0,1,7,8])
 (.block 0 (.loop [0,1,7,8] (.seq (.reg [⟨s' 9,.bin .lss (t' 8) (t' 7),n'⟩] [0,1,7,8,9]) (.seq (.cond (t' 9) (.skip) (.exit 0)) (.seq (.block 1 (.seq (.reg [⟨s' 10,.mv (t' 8),n'⟩,
 ⟨s' 5,.mv (t' 10),n'⟩] [0,1,5,7,8]) (.seq (.reg [⟨s' 11,.mv (t' 1),n'⟩,⟨s' 12,.mv (t' 0),n'⟩,⟨s' 13,.mv (t' 5),n'⟩,⟨s' 14,.iaddr 1 (t' 12) (t' 13),n'⟩,
 ⟨s' 15,.load 1 false (t' 14),n'⟩,⟨s' 16,.callv (t' 11) [(t' 15)],n'⟩] [0,1,5,7,8,16]) (.cond (t' 16) (.seq (.reg [⟨s' 17,.mv (t' 5),n'⟩,⟨s' 4,.mv (t' 17),n'⟩] [4]) (.ret))
 (.skip))))) (.reg [⟨s' 18,.bin .add (t' 8) (.const (.int .i64 1)),n'⟩,⟨s' 8,.mv (t' 18),n'⟩] [0,1,7,8]))))))) (.seq (.reg [⟨s' 4,.mv (.const (.int .i64 (-1))),n'⟩] [4]) (.ret)))
theorem s_slices_IndexFunc_Lint64_int64 : stripF Tryz.prog 102 [[0,1],[0,1,7,8],[0,1,7,8],[0,1,7,8,9],[0,1,5,7,8],[0,1,5,7,8,16],[4],[0,1,7,8],[4]] = some (c_slices_IndexFunc_Lint64_int64,[.tmp 4],19):=by kernel_rfl
theorem asc_mem : ∀ {xs : List Int} {lo hi : Int},asc lo hi xs = true → ∀ x ∈ xs,lo ≤ x ∧ x ≤ hi
 | [],_,_,_,x,h=>by simp at h
 | y :: r,lo,hi,h,x,hx=>by
  simp only [asc,Bool.and_eq_true,decide_eq_true_eq] at h
  rcases List.mem_cons.1 hx with rfl|hx
  ·exact h.1
  ·have:=asc_mem h.2 x hx;omega
theorem asc_len : ∀ {xs : List Int} {lo hi : Int},asc lo hi xs = true → xs = [] ∨ lo + xs.length ≤ hi + 1
 | [],_,_,_=>.inl rfl
 | y :: r,lo,hi,h=>by
  simp only [asc,Bool.and_eq_true,decide_eq_true_eq] at h
  rcases asc_len h.2 with rfl|h2
  ·right;simp;omega
  ·right;simp;omega
theorem size_fn (xs : List Int) : PFn Tryz.prog f_impl_size_int64 [ilS xs] (I xs.length):=by
 intro H;refine ACalls.introB s_impl_size_int64 (by simp) ?_;intro hB hA;unfold c_impl_size_int64;simp (disch:=(first|omega|(simp only [go_sem];try omega))) only [go_sem,Nat.reduceAdd,Nat.reduceEqDiff,Nat.reduceLeDiff,reduceIte,w64_id,cast_succ]
 repeat (first|(with_reducible first|refine SW.seq ?_|refine q8 ?_|refine SW.rowC ?_|refine SW.skip ?_|refine SW.exit ?_|intro _|refine And.intro (by omega) ?_)|simp (disch:=(first|omega|(simp only [go_sem];try omega))) only [go_sem,Nat.reduceAdd,Nat.reduceEqDiff,Nat.reduceLeDiff,reduceIte,w64_id,cast_succ])
 refine SW.ret ?_;(try simp only [go_sem]);(first|refine qP ?_|refine qS ?_|refine qQ ?_);(try simp (disch:=(first|omega|(simp only [go_sem];try omega))) only [go_sem,Nat.reduceAdd,Nat.reduceEqDiff,Nat.reduceLeDiff,reduceIte,w64_id,cast_succ]);(first|(with_reducible refine GR.drop ?_ ?_;(simp only [go_sem,and_self,and_true,true_and,implies_true,qI,qO]))|refine GR.of ?_);refine ⟨?_,rfl⟩;(try with_reducible rfl)
theorem sizeS_fn (xs : List (List Int)) : PFn Tryz.prog f_impl_size_Lint64 [ilSS xs] (I xs.length):=by
 intro H;refine ACalls.introB s_impl_size_Lint64 (by simp) ?_;intro hB hA;unfold c_impl_size_Lint64;simp (disch:=(first|omega|(simp only [go_sem];try omega))) only [go_sem,Nat.reduceAdd,Nat.reduceEqDiff,Nat.reduceLeDiff,reduceIte,w64_id,cast_succ]
 repeat (first|(with_reducible first|refine SW.seq ?_|refine q8 ?_|refine SW.rowC ?_|refine SW.skip ?_|refine SW.exit ?_|intro _|refine And.intro (by omega) ?_)|simp (disch:=(first|omega|(simp only [go_sem];try omega))) only [go_sem,Nat.reduceAdd,Nat.reduceEqDiff,Nat.reduceLeDiff,reduceIte,w64_id,cast_succ])
 refine SW.ret ?_;(try simp only [go_sem]);(first|refine qP ?_|refine qS ?_|refine qQ ?_);(try simp (disch:=(first|omega|(simp only [go_sem];try omega))) only [go_sem,Nat.reduceAdd,Nat.reduceEqDiff,Nat.reduceLeDiff,reduceIte,w64_id,cast_succ]);(first|(with_reducible refine GR.drop ?_ ?_;(simp only [go_sem,and_self,and_true,true_and,implies_true,qI,qO]))|refine GR.of ?_);refine ⟨?_,rfl⟩;(try with_reducible rfl)
theorem conS_ok {α : Type} (enc : α → AV) (H : List Blk) (a : AV) (xs : List α) (ha : aview H a = some (xs.length,xs.map enc))
  (g : Nat) (cs : List AV) (hg : callable Tryz.prog g = true) (p : α → Bool) (hp : ∀ x ∈ xs,ACalls Tryz.prog g (enc x :: cs) H (fun r H'=>r = Bv (p x) ∧ H' = H)) :
  ACalls Tryz.prog f_slices_ContainsFunc_Lint64_int64 [a,.fn g cs] H (fun r H'=>r = Bv (xs.any p) ∧ H' = H):=by
 refine ACalls.introB s_slices_ContainsFunc_Lint64_int64 (by simp) ?_;intro hB hA;unfold c_slices_ContainsFunc_Lint64_int64;simp (disch:=(first|omega|(simp only [go_sem];try omega))) only [go_sem,Nat.reduceAdd,Nat.reduceEqDiff,Nat.reduceLeDiff,reduceIte,w64_id,cast_succ]
 repeat (first|(with_reducible first|refine SW.seq ?_|refine q8 ?_|refine SW.rowC ?_|refine SW.skip ?_|refine SW.exit ?_|intro _|refine And.intro (by omega) ?_)|simp (disch:=(first|omega|(simp only [go_sem];try omega))) only [go_sem,Nat.reduceAdd,Nat.reduceEqDiff,Nat.reduceLeDiff,reduceIte,w64_id,cast_succ])
 refine (idxSS_ok s_slices_IndexFunc_Lint64_int64 enc H a xs ha g cs hg p hp).mono ?_
 rintro r H' ⟨⟨i,rfl,hi⟩,rfl⟩
 repeat (first|(with_reducible first|refine SW.seq ?_|refine q8 ?_|refine SW.rowC ?_|refine SW.skip ?_|refine SW.exit ?_|intro _|refine And.intro (by omega) ?_)|simp (disch:=(first|omega|(simp only [go_sem];try omega))) only [go_sem,Nat.reduceAdd,Nat.reduceEqDiff,Nat.reduceLeDiff,reduceIte,w64_id,cast_succ])
 refine SW.ret ?_;(try simp only [go_sem]);(first|refine qP ?_|refine qS ?_|refine qQ ?_);(try simp (disch:=(first|omega|(simp only [go_sem];try omega))) only [go_sem,Nat.reduceAdd,Nat.reduceEqDiff,Nat.reduceLeDiff,reduceIte,w64_id,cast_succ]);(first|(with_reducible refine GR.drop ?_ ?_;(simp only [go_sem,and_self,and_true,true_and,implies_true,qI,qO]))|refine GR.of ?_);refine ⟨?_,rfl⟩;(try with_reducible rfl)
 refine congrArg Bv ?_
 rw [Bool.eq_iff_iff,decide_eq_true_eq,hi]
theorem areIn_c1_ok (H : List Blk) (p ty : Nat) (x q : Int) (hq : -9223372036854775807 ≤ q ∧ q ≤ 9223372036854775807) (hp : H[p]? = some ⟨0,ty,1,[I q]⟩) : ACalls Tryz.prog f_impl_areIn_c1 [I x,.pc p 0 0] H (fun r H'=>r = Bv (!(decide (0 ≤ x) && decide (x ≤ q - 1))) ∧ H' = H):=by
 refine ACalls.introB s_impl_areIn_c1 (by simp) ?_;intro hB hA;unfold c_impl_areIn_c1;simp (disch:=(first|omega|(simp only [go_sem];try omega))) only [go_sem,Nat.reduceAdd,Nat.reduceEqDiff,Nat.reduceLeDiff,reduceIte,w64_id,cast_succ]
 repeat (first|(with_reducible first|refine SW.seq ?_|refine q8 ?_|refine SW.rowC ?_|refine SW.skip ?_|refine SW.exit ?_|refine PFn.use (within_fn _ _ _) ?_|refine PFn.useq (within_fn _ _ _) ?_|intro _|refine And.intro (by omega) ?_)|simp (disch:=(first|omega|(simp only [go_sem];try omega))) only [go_sem,Nat.reduceAdd,Nat.reduceEqDiff,Nat.reduceLeDiff,reduceIte,w64_id,cast_succ,pc_ld hp])
 refine SW.ret ?_;(try simp only [go_sem]);(first|refine qP ?_|refine qS ?_|refine qQ ?_);(try simp (disch:=(first|omega|(simp only [go_sem];try omega))) only [go_sem,Nat.reduceAdd,Nat.reduceEqDiff,Nat.reduceLeDiff,reduceIte,w64_id,cast_succ]);(first|(with_reducible refine GR.drop ?_ ?_;(simp only [go_sem,and_self,and_true,true_and,implies_true,qI,qO]))|refine GR.of ?_);refine ⟨?_,rfl⟩;(try with_reducible rfl)
theorem areIn_fn (q : Int) (xs : List Int) (hq : -9223372036854775807 ≤ q ∧ q ≤ 9223372036854775807) : PFn Tryz.prog f_impl_areIn [I q,ilS xs] (Bv (xs.all fun x=>decide (0 ≤ x) && decide (x ≤ q - 1))):=by
 intro H;refine ACalls.introB s_impl_areIn (by simp) ?_;intro hB hA;unfold c_impl_areIn;simp (disch:=(first|omega|(simp only [go_sem];try omega))) only [go_sem,Nat.reduceAdd,Nat.reduceEqDiff,Nat.reduceLeDiff,reduceIte,w64_id,cast_succ]
 repeat (first|(with_reducible first|refine SW.seq ?_|refine q8 ?_|refine SW.rowC ?_|refine SW.skip ?_|refine SW.exit ?_|intro _|refine And.intro (by omega) ?_)|simp (disch:=(first|omega|(simp only [go_sem];try omega))) only [go_sem,Nat.reduceAdd,Nat.reduceEqDiff,Nat.reduceLeDiff,reduceIte,w64_id,cast_succ])
 refine (conS_ok I _ _ xs rfl _ _ (by kernel_rfl) (fun x=>!(decide (0 ≤ x) && decide (x ≤ q - 1))) (fun x hx=>areIn_c1_ok _ H.length _ x q hq (by simp;rfl))).mono ?_
 rintro r H' ⟨rfl,rfl⟩
 repeat (first|(with_reducible first|refine SW.seq ?_|refine q8 ?_|refine SW.rowC ?_|refine SW.skip ?_|refine SW.exit ?_|intro _|refine And.intro (by omega) ?_)|simp (disch:=(first|omega|(simp only [go_sem];try omega))) only [go_sem,Nat.reduceAdd,Nat.reduceEqDiff,Nat.reduceLeDiff,reduceIte,w64_id,cast_succ])
 refine SW.ret ?_;(try simp only [go_sem]);(first|refine qP ?_|refine qS ?_|refine qQ ?_);(try simp (disch:=(first|omega|(simp only [go_sem];try omega))) only [go_sem,Nat.reduceAdd,Nat.reduceEqDiff,Nat.reduceLeDiff,reduceIte,w64_id,cast_succ]);(first|(with_reducible refine GR.drop ?_ ?_;(simp only [go_sem,and_self,and_true,true_and,implies_true,qI,qO]))|refine GR.of ?_);refine ⟨?_,rfl⟩;(try with_reducible rfl)
 simp [List.any_eq_not_all_not]
end Go.Proofs.YtclfmfabcnbbpaaGreat