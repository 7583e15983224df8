/- Copies of lists, frozen. -/
import Derived.Test.YtclfmfabcnbbpaaGreatProg
import Derived.KernelRfl
import Derived.Test.YtclfmfabcnbbpaaGreatzU1
import Derived.Test.YtclfmfabcnbbpaaGreatzM2
set_option linter.unusedSimpArgs false
set_option linter.unusedVariables false
set_option maxHeartbeats 4000000
set_option maxRecDepth 100000
open Go.Operand renaming tmp→t'
open Option renaming none→n',some→s'
namespace Go.Av
end Go.Av
namespace Go.Proofs.YtclfmfabcnbbpaaGreat
open Go.Av
abbrev f_spec_l00Own : Nat:=99
def c_spec_l00Own : SC :=
 .seq (.reg [⟨s' 2,.mv (.const (.slice none 0 0)),n'⟩] [0]) (.seq (.reg [⟨s' 3,.bslice 2 1 0 [] [],n'⟩,⟨s' 4,.mv (t' 0),n'⟩,⟨s' 5,.app 2 1 8 (t' 3) (t' 4),n'⟩,
 ⟨s' 2,.mv (t' 5),n'⟩] [2]) (.ret))
theorem s_spec_l00Own : stripF Tryz.prog 99 [[0],[2]] = some (c_spec_l00Own,[.tmp 2],6):=by kernel_rfl
abbrev tyLL : Nat:=22
theorem l00OwnB_ok (H : List Blk) (xs : List Int) (hl : xs.length ≤ 2000000) : ACalls Tryz.prog f_spec_l00Own [ilS xs] H (fun r H'=>r = .nm H.length 1 0 xs.length ∧ H' = H ++ [⟨1,2,1,xs.map I⟩]):=by
 refine ACalls.introB s_spec_l00Own (by simp) ?_;intro hB hA;unfold c_spec_l00Own;simp (disch:=(first|omega|(simp only [go_sem];try omega))) only [go_sem,Nat.reduceAdd,Nat.reduceEqDiff,Nat.reduceLeDiff,reduceIte,w64_id,cast_succ]
 repeat (first|(with_reducible first|refine SW.seq ?_|refine SW.block ?_|refine SW.rowC ?_|refine SW.skip ?_|refine SW.exit ?_|intro _|refine And.intro (by omega) ?_)|simp (disch:=(first|omega|(simp only [go_sem];try omega))) only [go_sem,Nat.reduceAdd,Nat.reduceEqDiff,Nat.reduceLeDiff,reduceIte,w64_id,cast_succ])
 refine SW.ret ?_;(try simp only [go_sem]);(first|refine FunPost.one ?_|refine FunPost.two ?_|refine FunPost.three ?_);(try simp (disch:=(first|omega|(simp only [go_sem];try omega))) only [go_sem,Nat.reduceAdd,Nat.reduceEqDiff,Nat.reduceLeDiff,reduceIte,w64_id,cast_succ])
 exact GR.of ⟨rfl,rfl⟩
end Go.Proofs.YtclfmfabcnbbpaaGreat