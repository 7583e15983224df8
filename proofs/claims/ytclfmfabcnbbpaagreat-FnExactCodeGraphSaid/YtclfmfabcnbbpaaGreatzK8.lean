/- Subsets in order: ranks, the next one, all of them. -/
import Derived.Test.YtclfmfabcnbbpaaGreatProg
import Derived.KernelRfl
import Derived.Test.YtclfmfabcnbbpaaGreatzK6
set_option linter.unusedSimpArgs false
set_option linter.unusedVariables false
set_option maxHeartbeats 4000000
set_option maxRecDepth 100000
open Go.Operand renaming tmp→t'
open Option renaming none→n',some→s'
open List renaming ext_getElem→xW
open Go.Av.FunPost renaming three→qQ
namespace Go.Proofs.YtclfmfabcnbbpaaGreat
open Go.Av
abbrev f_slices_Clone_Lint64_int64 : Nat:=92
def c_slices_Clone_Lint64_int64 : SC :=
 .seq (.reg [⟨s' 2,.mv (.const (.slice none 0 0)),n'⟩] [0]) (.seq (.seq (.reg [⟨s' 3,.mv (t' 0),n'⟩,⟨s' 4,.isnil false (t' 3),n'⟩] [0,4]) (.cond (t' 4) (.seq (.reg [
 ⟨s' 2,.mv (.const (.slice none 0 0)),n'⟩] [2]) (.ret)) (.skip))) (.seq (.reg [⟨s' 5,.bslice 2 1 0 [] [],n'⟩,⟨s' 6,.mv (t' 0),n'⟩,⟨s' 7,.app 2 1 8 (t' 5) (t' 6),n'⟩,
 ⟨s' 2,.mv (t' 7),n'⟩] [2]) (.ret)))
theorem s_slices_Clone_Lint64_int64 : stripF Tryz.prog 92 [[0],[0,4],[2],[2]] = some (c_slices_Clone_Lint64_int64,[.tmp 2],8):=by kernel_rfl
def tab (n : Nat) (f : Nat → Int) : List Int:=(List.range n).map f
theorem tab_length (n : Nat) (f : Nat → Int) : (tab n f).length = n:=by simp [tab]
theorem tab_set (n : Nat) (f : Nat → Int) (i : Nat) (v : Int) : (tab n f).set i v = tab n (fun j=>if j = i then v else f j):=by
 unfold tab
 apply xW
 ·simp
 ·intro j h1 h2
  simp only [List.getElem_set,List.getElem_map,List.getElem_range]
  by_cases h : i = j
  ·simp [h]
  ·simp [h,Ne.symm h]
theorem tab_congr {n : Nat} {f g : Nat → Int} (h : ∀ j,j < n → f j = g j) : tab n f = tab n g:=by
 unfold tab
 exact List.map_congr_left fun j hj=>h j (List.mem_range.1 hj)
theorem tab_rep (n : Nat) (v : Int) : List.replicate n v = tab n fun _=>v:=by
 unfold tab
 apply xW <;> simp
theorem take_tab (n : Nat) (f : Nat → Int) : ((tab n f).map I).take n = (tab n f).map I:=List.take_of_length_le (by simp [tab_length])
theorem clone_ok (H : List Blk) (a : AV) (xs : List Int) (ha : RdS H a xs) (hl : xs.length ≤ 1073741824) :
  ACalls Tryz.prog f_slices_Clone_Lint64_int64 [a] H (fun r H'=>∃ ver,r = .nm H.length ver 0 xs.length ∧ H' = H ++ [⟨ver,2,1,xs.map I⟩]):=by
 refine ACalls.introB s_slices_Clone_Lint64_int64 (by simp) ?_;intro hB hA;unfold c_slices_Clone_Lint64_int64;simp (disch:=(first|omega|(simp only [go_sem];try omega))) only [go_sem,Nat.reduceAdd,Nat.reduceEqDiff,Nat.reduceLeDiff,reduceIte,w64_id,cast_succ]
 have h2:=aview_append ha [⟨0,2,1,[]⟩]
 refine SW.seq ?_;refine SW.rowC ?_;simp (disch:=(first|omega|(simp only [go_sem];try omega))) only [go_sem,Nat.reduceAdd,Nat.reduceEqDiff,Nat.reduceLeDiff,reduceIte,w64_id,cast_succ]
 refine SW.seq ?_
 refine SW.seq ?_;refine SW.rowC ?_;simp (disch:=(first|omega|(simp only [go_sem];try omega))) only [go_sem,Nat.reduceAdd,Nat.reduceEqDiff,Nat.reduceLeDiff,reduceIte,w64_id,cast_succ,ha]
 intro b hb
 refine SW.condB rfl (fun h=>?_) (fun h=>?_)
 ·have : xs = []:=List.eq_nil_of_length_eq_zero (hb h)
  subst this
  repeat (first|(with_reducible first|refine SW.seq ?_|refine SW.block ?_|refine SW.rowC ?_|refine SW.skip ?_|refine SW.exit ?_|intro _|refine And.intro (by omega) ?_)|simp (disch:=(first|omega|(simp only [go_sem];try omega))) only [go_sem,Nat.reduceAdd,Nat.reduceEqDiff,Nat.reduceLeDiff,reduceIte,w64_id,cast_succ])
  refine SW.ret ?_;(try simp only [go_sem]);(first|refine FunPost.one ?_|refine FunPost.two ?_|refine qQ ?_);(try simp (disch:=(first|omega|(simp only [go_sem];try omega))) only [go_sem,Nat.reduceAdd,Nat.reduceEqDiff,Nat.reduceLeDiff,reduceIte,w64_id,cast_succ])
  refine GR.name 2 1 (GR.of ?_)
  exact ⟨0,rfl,rfl⟩
 ·repeat (first|(with_reducible first|refine SW.seq ?_|refine SW.block ?_|refine SW.rowC ?_|refine SW.skip ?_|refine SW.exit ?_|intro _|refine And.intro (by omega) ?_)|simp (disch:=(first|omega|(simp only [go_sem];try omega))) only [go_sem,Nat.reduceAdd,Nat.reduceEqDiff,Nat.reduceLeDiff,reduceIte,w64_id,cast_succ,ha,h2])
  refine SW.ret ?_;(try simp only [go_sem]);(first|refine FunPost.one ?_|refine FunPost.two ?_|refine qQ ?_);(try simp (disch:=(first|omega|(simp only [go_sem];try omega))) only [go_sem,Nat.reduceAdd,Nat.reduceEqDiff,Nat.reduceLeDiff,reduceIte,w64_id,cast_succ])
  exact GR.of ⟨1,rfl,rfl⟩
end Go.Proofs.YtclfmfabcnbbpaaGreat