/- Lists copied. -/
import Derived.Test.YtclfmfabcnbbpaaGreatProg
import Derived.KernelRfl
import Derived.Test.YtclfmfabcnbbpaaGreatzG1
import Derived.Test.YtclfmfabcnbbpaaGreatzOW
import Derived.Test.YtclfmfabcnbbpaaGreatzU1
import Derived.Test.YtclfmfabcnbbpaaGreatzK8
import Derived.Test.YtclfmfabcnbbpaaGreatzM2
set_option linter.unusedSimpArgs false
set_option linter.unusedVariables false
set_option maxHeartbeats 4000000
set_option maxRecDepth 100000
open Go.Operand renaming tmp→t'
open Option renaming none→n',some→s'
open Go.Av.SW renaming block→q8
open List renaming getElem?_append_left→qN
namespace Go.Proofs.YtclfmfabcnbbpaaGreat
open Go.Av
abbrev f_impl_copyLists : Nat:=69
def c_impl_copyLists : SC :=
 .seq (.reg [⟨s' 2,.mv (.const (.slice none 0 0)),n'⟩] [0]) (.seq (.reg [⟨s' 3,.mv (.const (.slice none 0 0)),n'⟩] [0,3]) (.seq (.seq (.reg [⟨s' 6,.mv (t' 0),n'⟩,
 ⟨s' 7,.len (t' 6),n'⟩,⟨s' 8,.mv (.const (.int .i64 0)),n'⟩] [3,6,7,8]) (.block 0 (.loop [3,6,7,8] (.seq (.reg [⟨s' 9,.bin .lss (t' 8) (t' 7),n'⟩] [3,6,7,8,9]) (.seq (.cond (t' 9)
 (.skip) (.exit 0)) (.seq (.block 1 (.seq (.reg [⟨s' 10,.iaddr 1 (t' 6) (t' 8),n'⟩,⟨s' 11,.load 1 false (t' 10),n'⟩,⟨s' 5,.mv (t' 11),n'⟩] [3,5,6,7,8]) (.reg [
 ⟨s' 12,.mv (t' 3),n'⟩,⟨s' 13,.mv (t' 5),n'⟩,⟨s' 14,.call 92 [(t' 13)],n'⟩,⟨s' 15,.bslice 22 1 1 [(.slice none 0 0)] [(0,(t' 14))],n'⟩,⟨s' 16,.app 22 1 24 (t' 12) (t' 15),n'⟩,
 ⟨s' 3,.mv (t' 16),n'⟩] [3,6,7,8]))) (.reg [⟨s' 17,.bin .add (t' 8) (.const (.int .i64 1)),n'⟩,⟨s' 8,.mv (t' 17),n'⟩] [3,6,7,8]))))))) (.seq (.reg [⟨s' 18,.mv (t' 3),n'⟩,
 ⟨s' 2,.mv (t' 18),n'⟩] [2]) (.ret))))
theorem s_impl_copyLists : stripF Tryz.prog 69 [[0],[0,3],[3,6,7,8],[3,6,7,8],[3,6,7,8,9],[3,5,6,7,8],[3,6,7,8],[3,6,7,8],[2]] = some (c_impl_copyLists,[.tmp 2],19):=by kernel_rfl
theorem copyLists_grow (H : List Blk) (xss : List (List Int)) (hl : xss.length ≤ 2000000) (hr : ∀ x ∈ xss,x.length ≤ 2000000) : ACalls Tryz.prog f_impl_copyLists [ilSS xss] H (fun r H'=>∃ ext,H' = H ++ ext ∧ GrowSS H' H.length tyLL r xss):=by
 refine ACalls.introB s_impl_copyLists (by simp) ?_;intro hB hA;unfold c_impl_copyLists;simp (disch:=(first|omega|(simp only [go_sem];try omega))) only [go_sem,Nat.reduceAdd,Nat.reduceEqDiff,Nat.reduceLeDiff,reduceIte,w64_id,cast_succ]
 repeat (first|(with_reducible first|refine SW.seq ?_|refine q8 ?_|refine SW.rowC ?_|refine SW.skip ?_|refine SW.exit ?_|intro _|refine And.intro (by omega) ?_)|simp (disch:=(first|omega|(simp only [go_sem];try omega))) only [go_sem,Nat.reduceAdd,Nat.reduceEqDiff,Nat.reduceLeDiff,reduceIte,w64_id,cast_succ])
 refine SW.loopE (fun E0 H0 q E' H'=>∃ (pre post : List (List Int)) (v : AV),xss = pre ++ post ∧ q = post.length ∧ E' = aput (aput E0 8 (I pre.length)) 3 v ∧ GrowSS H' H.length tyLL v pre ∧ H.length ≤ H'.length ∧ ∀ j,j < H.length → H'[j]? = H[j]?) xss.length ⟨[],xss,nilS,rfl,rfl,rfl,.inl ⟨rfl,rfl⟩,by simp,fun _ _=>rfl⟩ ?_
 rintro q E' H1 ⟨pre,post,v,hpp,rfl,rfl,b2,b3,b4⟩
 have hpl : pre.length ≤ 2000000:=by rw [hpp] at hl;simp at hl;omega
 simp (disch:=(first|omega|(simp only [go_sem];try omega))) only [go_sem,Nat.reduceAdd,Nat.reduceEqDiff,Nat.reduceLeDiff,reduceIte,w64_id,cast_succ]
 repeat (first|(with_reducible first|refine SW.seq ?_|refine q8 ?_|refine SW.rowC ?_|refine SW.skip ?_|refine SW.exit ?_|intro _|refine And.intro (by omega) ?_)|simp (disch:=(first|omega|(simp only [go_sem];try omega))) only [go_sem,Nat.reduceAdd,Nat.reduceEqDiff,Nat.reduceLeDiff,reduceIte,w64_id,cast_succ])
 (first|refine SW.condD rfl (fun h=>?_) (fun h=>?_)|refine SW.condN rfl (fun h=>?_) (fun h=>?_)|refine SW.condNB rfl (fun h=>?_) (fun h=>?_)|refine SW.condB rfl (fun h=>?_) (fun h=>?_))
 ·obtain ⟨y,post,rfl,hg,-⟩:=consOf (d:=[]) hpp (by omega)
  have hyl:=hr y (by rw [hpp];simp)
  repeat (first|(with_reducible first|refine SW.seq ?_|refine q8 ?_|refine SW.rowC ?_|refine SW.skip ?_|refine SW.exit ?_|intro _|refine And.intro (by omega) ?_)|simp (disch:=(first|omega|(simp only [go_sem];try omega))) only [go_sem,Nat.reduceAdd,Nat.reduceEqDiff,Nat.reduceLeDiff,reduceIte,w64_id,cast_succ,hg])
  refine (clone_ok _ (ilS y) y (rd_ilS _ _) (by omega)).mono ?_
  rintro r H2 ⟨ver,rfl,rfl⟩
  repeat (first|(with_reducible first|refine SW.seq ?_|refine q8 ?_|refine SW.rowC ?_|refine SW.skip ?_|refine SW.exit ?_|intro _|refine And.intro (by omega) ?_)|simp (disch:=(first|omega|(simp only [go_sem];try omega))) only [go_sem,Nat.reduceAdd,Nat.reduceEqDiff,Nat.reduceLeDiff,reduceIte,w64_id,cast_succ])
  refine GrowSS.appG (H1:=H1) (r:=H1.length) (rv:=ver) (rty:=2) (xs:=y) rfl b2 b3 (Nat.le_refl _) (by omega) (fun j b _ hb=>by rw [qN (List.getElem?_eq_some_iff.1 hb).1];exact hb) (by rw [hget0];rfl) ?_
  intro v3 H3 d1 d2 d3
  have d4 : H1.length ≤ H3.length:=by simp at d2;omega
  have hcell:=d1.cell1
  repeat (first|(with_reducible first|refine SW.seq ?_|refine q8 ?_|refine SW.rowC ?_|refine SW.skip ?_|refine SW.exit ?_|intro _|refine And.intro (by omega) ?_)|simp (disch:=(first|omega|(simp only [go_sem];try omega))) only [go_sem,Nat.reduceAdd,Nat.reduceEqDiff,Nat.reduceLeDiff,reduceIte,w64_id,cast_succ,hcell])
  refine SLoop.next post.length (by simp) ⟨pre ++ [y],post,v3,by simp [hpp],rfl,by simp [go_sem],d1,by omega,fun j hj=>?_⟩
  rw [d3 j hj,qN (by omega)];exact b4 j hj
 ·obtain ⟨rfl,rfl⟩:=nilOf hpp (by omega)
  repeat (first|(with_reducible first|refine SW.seq ?_|refine q8 ?_|refine SW.rowC ?_|refine SW.skip ?_|refine SW.exit ?_|intro _|refine And.intro (by omega) ?_)|simp (disch:=(first|omega|(simp only [go_sem];try omega))) only [go_sem,Nat.reduceAdd,Nat.reduceEqDiff,Nat.reduceLeDiff,reduceIte,w64_id,cast_succ])
  refine SW.ret ?_;(try simp only [go_sem]);(first|refine FunPost.one ?_|refine FunPost.two ?_|refine FunPost.three ?_);(try simp (disch:=(first|omega|(simp only [go_sem];try omega))) only [go_sem,Nat.reduceAdd,Nat.reduceEqDiff,Nat.reduceLeDiff,reduceIte,w64_id,cast_succ])
  obtain ⟨ext,he⟩:=prefix_of b3 b4
  exact GR.of ⟨ext,he,b2⟩
end Go.Proofs.YtclfmfabcnbbpaaGreat