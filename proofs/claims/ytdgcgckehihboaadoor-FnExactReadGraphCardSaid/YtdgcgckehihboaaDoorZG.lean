/- Graphs read: the program. -/
import Derived.Test.YtdgcgckehihboaaDoorProg
import Derived.KernelRfl
import Derived.Test.YtdgcgckehihboaaDoorZF
set_option linter.unusedSimpArgs false
set_option linter.unusedVariables false
set_option maxHeartbeats 4000000
set_option maxRecDepth 100000
namespace Go.Proofs.YtdgcgckehihboaaDoor
open Go.Av

/-! The abstract code of functions, printed by program and tied to the program by the kernel. -/
/-- loop.example/g00920/impl.ReadList -/
abbrev f_impl_ReadList : Nat := 14
def c_impl_ReadList : SC :=
 .seq (.reg [
     ⟨(some 2), .mv (.const (.slice none 0 0)), none⟩,
     ⟨(some 3), .mv (.const (.bool false)), none⟩] [0])
 (.seq (.seq (.reg [
     ⟨(some 9), .mv (.tmp 0), none⟩,
     ⟨(some 10), .sop (.eql false) [(.tmp 9), (.const (.string ⟨#[45]⟩))], none⟩] [0, 10])
 (.cond (.tmp 10)
  (.seq (.reg [
      ⟨(some 2), .mv (.const (.slice none 0 0)), none⟩,
      ⟨(some 3), .mv (.const (.bool true)), none⟩] [2, 3])
  (.ret))
  (.skip)))
 (.seq (.reg [
     ⟨(some 4), .mv (.const (.slice none 0 0)), none⟩] [0, 4])
 (.seq (.seq (.reg [
     ⟨(some 11), .mv (.tmp 0), none⟩,
     ⟨(some 12), .call 15 [(.tmp 11), (.const (.string ⟨#[44]⟩))], none⟩,
     ⟨(some 13), .len (.tmp 12), none⟩,
     ⟨(some 14), .mv (.const (.int .i64 0)), none⟩] [0, 4, 12, 13, 14])
 (.block 0 (.loop [0, 4, 12, 13, 14]
   (.seq (.reg [
       ⟨(some 15), .bin .lss (.tmp 14) (.tmp 13), none⟩] [0, 4, 12, 13, 14, 15])
   (.seq (.cond (.tmp 15)
    (.skip)
    (.exit 0))
   (.seq (.block 1 (.seq (.reg [
        ⟨(some 16), .iaddr 1 (.tmp 12) (.tmp 14), none⟩,
        ⟨(some 17), .load 1 false (.tmp 16), none⟩,
        ⟨(some 6), .mv (.tmp 17), none⟩] [0, 4, 6, 12, 13, 14])
    (.seq (.reg [
        ⟨(some 19), .mv (.tmp 6), none⟩,
        ⟨(some 20), .call 16 [(.tmp 19)], none⟩,
        ⟨(some 18), .mv (.tmp 20), none⟩,
        ⟨(some 21), .ext (.tmp 18) 0, none⟩,
        ⟨(some 22), .ext (.tmp 18) 1, none⟩,
        ⟨(some 7), .mv (.tmp 21), none⟩,
        ⟨(some 8), .mv (.tmp 22), none⟩] [0, 4, 7, 12, 13, 14])
    (.reg [
        ⟨(some 23), .mv (.tmp 4), none⟩,
        ⟨(some 24), .mv (.tmp 7), none⟩,
        ⟨(some 25), .bslice 2 1 1 [(.int .i64 0)] [(0, (.tmp 24))], none⟩,
        ⟨(some 26), .app 2 1 8 (.tmp 23) (.tmp 25), none⟩,
        ⟨(some 4), .mv (.tmp 26), none⟩] [0, 4, 12, 13, 14]))))
   (.reg [
       ⟨(some 27), .bin .add (.tmp 14) (.const (.int .i64 1)), none⟩,
       ⟨(some 14), .mv (.tmp 27), none⟩] [0, 4, 12, 13, 14])))))))
 (.seq (.seq (.reg [
     ⟨(some 28), .mv (.tmp 4), none⟩,
     ⟨(some 29), .call 31 [(.tmp 28)], none⟩,
     ⟨(some 30), .mv (.tmp 0), none⟩,
     ⟨(some 31), .sop (.eql true) [(.tmp 29), (.tmp 30)], none⟩] [4, 31])
 (.cond (.tmp 31)
  (.seq (.reg [
      ⟨(some 2), .mv (.const (.slice none 0 0)), none⟩,
      ⟨(some 3), .mv (.const (.bool false)), none⟩] [2, 3])
  (.ret))
  (.skip)))
 (.seq (.reg [
     ⟨(some 32), .mv (.tmp 4), none⟩,
     ⟨(some 2), .mv (.tmp 32), none⟩,
     ⟨(some 3), .mv (.const (.bool true)), none⟩] [2, 3])
 (.ret))))))
theorem s_impl_ReadList : stripF Tryd.prog 14 [[0], [0, 10], [2, 3], [0, 4], [0, 4, 12, 13, 14], [0, 4, 12, 13, 14], [0, 4, 12, 13, 14, 15], [0, 4, 6, 12, 13, 14], [0, 4, 7, 12, 13, 14], [0, 4, 12, 13, 14], [0, 4, 12, 13, 14], [4, 31], [2, 3], [2, 3]] = some (c_impl_ReadList, [.tmp 2, .tmp 3], 33) := by kernel_rfl

/-- loop.example/g00920/impl.GraphText -/
abbrev f_impl_GraphText : Nat := 18
def c_impl_GraphText : SC :=
 .seq (.reg [
     ⟨(some 1), .box 25 (.tmp 0), none⟩,
     ⟨(some 2), .mv (.const (.string ByteArray.empty)), none⟩] [1])
 (.seq (.seq (.reg [
     ⟨(some 6), .load 2 true (.tmp 1), none⟩,
     ⟨(some 7), .call 17 [(.tmp 6)], none⟩,
     ⟨(some 8), .un .not (.tmp 7), none⟩] [1, 8])
 (.cond (.tmp 8)
  (.seq (.reg [
      ⟨(some 2), .mv (.const (.string ByteArray.empty)), none⟩] [2])
  (.ret))
  (.skip)))
 (.seq (.reg [
     ⟨(some 3), .mv (.const (.slice none 0 0)), none⟩] [1, 3])
 (.seq (.seq (.reg [
     ⟨(some 9), .faddr 1 (.tmp 1), none⟩,
     ⟨(some 10), .load 1 false (.tmp 9), none⟩,
     ⟨(some 11), .len (.tmp 10), none⟩,
     ⟨(some 12), .mv (.const (.int .i64 0)), none⟩] [1, 3, 10, 11, 12])
 (.block 0 (.loop [1, 3, 10, 11, 12]
   (.seq (.reg [
       ⟨(some 13), .bin .lss (.tmp 12) (.tmp 11), none⟩] [1, 3, 10, 11, 12, 13])
   (.seq (.cond (.tmp 13)
    (.skip)
    (.exit 0))
   (.seq (.block 1 (.seq (.reg [
        ⟨(some 14), .iaddr 2 (.tmp 10) (.tmp 12), none⟩,
        ⟨(some 15), .load 2 true (.tmp 14), none⟩,
        ⟨(some 5), .alloc 38 [(.int .i64 0), (.int .i64 0)], none⟩,
        ⟨none, .store 2 (.tmp 5) (.tmp 15), none⟩] [1, 3, 5, 10, 11, 12])
    (.reg [
        ⟨(some 16), .mv (.tmp 3), none⟩,
        ⟨(some 17), .faddr 0 (.tmp 5), none⟩,
        ⟨(some 18), .load 1 false (.tmp 17), none⟩,
        ⟨(some 19), .qcall 35 [(.tmp 18)], none⟩,
        ⟨(some 20), .sop .add [(.tmp 19), (.const (.string ⟨#[45]⟩))], none⟩,
        ⟨(some 21), .faddr 1 (.tmp 5), none⟩,
        ⟨(some 22), .load 1 false (.tmp 21), none⟩,
        ⟨(some 23), .qcall 35 [(.tmp 22)], none⟩,
        ⟨(some 24), .sop .add [(.tmp 20), (.tmp 23)], none⟩,
        ⟨(some 25), .bslice 9 1 1 [(.string ByteArray.empty)] [(0, (.tmp 24))], none⟩,
        ⟨(some 26), .app 9 1 16 (.tmp 16) (.tmp 25), none⟩,
        ⟨(some 3), .mv (.tmp 26), none⟩] [1, 3, 10, 11, 12])))
   (.reg [
       ⟨(some 27), .bin .add (.tmp 12) (.const (.int .i64 1)), none⟩,
       ⟨(some 12), .mv (.tmp 27), none⟩] [1, 3, 10, 11, 12])))))))
 (.seq (.reg [
     ⟨(some 28), .faddr 0 (.tmp 1), none⟩,
     ⟨(some 29), .load 1 false (.tmp 28), none⟩,
     ⟨(some 30), .call 31 [(.tmp 29)], none⟩,
     ⟨(some 31), .sop .add [(.tmp 30), (.const (.string ⟨#[59]⟩))], none⟩,
     ⟨(some 32), .mv (.tmp 3), none⟩,
     ⟨(some 33), .call 39 [(.tmp 32), (.const (.string ⟨#[44]⟩))], none⟩,
     ⟨(some 34), .sop .add [(.tmp 31), (.tmp 33)], none⟩,
     ⟨(some 2), .mv (.tmp 34), none⟩] [2])
 (.ret)))))
theorem s_impl_GraphText : stripF Tryd.prog 18 [[1], [1, 8], [2], [1, 3], [1, 3, 10, 11, 12], [1, 3, 10, 11, 12], [1, 3, 10, 11, 12, 13], [1, 3, 5, 10, 11, 12], [1, 3, 10, 11, 12], [1, 3, 10, 11, 12], [2]] = some (c_impl_GraphText, [.tmp 2], 35) := by kernel_rfl


/-- The call's result keeps older memory, the list is own memory. -/
def LsR (H : List Blk) (l : List Int) (r : AV) (H' : List Blk) : Prop := ∃ v b, r = .tup [v, Bv b] ∧ GrowF H' H.length 2 1 v l.length (l.map I) ∧ H.length ≤ H'.length ∧ ∀ j, j < H.length → H'[j]? = H[j]?
theorem implReadList_ok (H : List Blk) (s : List UInt8) (hs : s.length ≤ 1100000) : ACalls Tryd.prog f_impl_ReadList [Tx s] H (LsR H (rdP s)) := by
  unfold rdP
  have hsp := split_fn s [44] (by omega) (by simp)
  rw [split_is] at hsp
  have hnum := spl_num 44 s
  have hmem : ∀ p ∈ spl 44 s, p.length ≤ 2000000 := fun p hp => Nat.le_trans (spl_len hp) (by omega)
  generalize spl 44 s = ps at *
  have hbe := fun k => Bel_ilT k ps
  refine ACalls.introB s_impl_ReadList (by simp) ?_; intro hB hA; unfold c_impl_ReadList; simp (config := { maxSteps := 1000000 }) (disch := (first | omega | (simp only [go_sem]; try omega))) only [go_sem, Nat.reduceAdd, Nat.reduceEqDiff, Nat.reduceLeDiff, Nat.reduceMul, Nat.reduceLT, reduceIte, Int.reduceToNat, w64_id, cast_succ]
  repeat (first | (with_reducible first | refine SW.seq ?_ | refine SW.block ?_ | refine SW.rowC ?_ | refine SW.skip ?_ | refine SW.exit ?_ | intro _ | refine And.intro (by omega) ?_) | simp (config := { maxSteps := 1000000 }) (disch := (first | omega | (simp only [go_sem]; try omega))) only [go_sem, Nat.reduceAdd, Nat.reduceEqDiff, Nat.reduceLeDiff, Nat.reduceMul, Nat.reduceLT, reduceIte, Int.reduceToNat, w64_id, cast_succ])
  by_cases h45 : s = [45]
  · have d1 : decide (s = [45]) = true := decide_eq_true h45
    rw [if_pos h45]
    repeat (first | (with_reducible first | refine SW.seq ?_ | refine SW.block ?_ | refine SW.rowC ?_ | refine SW.skip ?_ | refine SW.exit ?_ | intro _ | refine And.intro (by omega) ?_) | simp (config := { maxSteps := 1000000 }) (disch := (first | omega | (simp only [go_sem]; try omega))) only [go_sem, Nat.reduceAdd, Nat.reduceEqDiff, Nat.reduceLeDiff, Nat.reduceMul, Nat.reduceLT, reduceIte, Int.reduceToNat, w64_id, cast_succ, d1])
    refine SW.condT rfl ?_
    repeat (first | (with_reducible first | refine SW.seq ?_ | refine SW.block ?_ | refine SW.rowC ?_ | refine SW.skip ?_ | refine SW.exit ?_ | intro _ | refine And.intro (by omega) ?_) | simp (config := { maxSteps := 1000000 }) (disch := (first | omega | (simp only [go_sem]; try omega))) only [go_sem, Nat.reduceAdd, Nat.reduceEqDiff, Nat.reduceLeDiff, Nat.reduceMul, Nat.reduceLT, reduceIte, Int.reduceToNat, w64_id, cast_succ])
    refine SW.ret ⟨_, rfl, ?_⟩
    exact GR.of ⟨_, _, rfl, .inl ⟨rfl, rfl, rfl⟩, Nat.le_refl _, fun _ _ => rfl⟩
  · rw [if_neg h45]
    have d1 : decide (s = [45]) = false := decide_eq_false h45
    repeat (first | (with_reducible first | refine SW.seq ?_ | refine SW.block ?_ | refine SW.rowC ?_ | refine SW.skip ?_ | refine SW.exit ?_ | intro _ | refine And.intro (by omega) ?_) | simp (config := { maxSteps := 1000000 }) (disch := (first | omega | (simp only [go_sem]; try omega))) only [go_sem, Nat.reduceAdd, Nat.reduceEqDiff, Nat.reduceLeDiff, Nat.reduceMul, Nat.reduceLT, reduceIte, Int.reduceToNat, w64_id, cast_succ, d1])
    refine SW.condF rfl ?_
    repeat (first | (with_reducible first | refine SW.seq ?_ | refine SW.block ?_ | refine SW.rowC ?_ | refine SW.skip ?_ | refine SW.exit ?_ | refine PFn.use (hsp) ?_ | refine PFn.useq (hsp) ?_ | intro _ | refine And.intro (by omega) ?_) | simp (config := { maxSteps := 1000000 }) (disch := (first | omega | (simp only [go_sem]; try omega))) only [go_sem, Nat.reduceAdd, Nat.reduceEqDiff, Nat.reduceLeDiff, Nat.reduceMul, Nat.reduceLT, reduceIte, Int.reduceToNat, w64_id, cast_succ])
    refine SW.loopE (fun E0 H0 q E' H1 => ∃ (pre post : List (List UInt8)) (v : AV), ps = pre ++ post ∧ q = post.length ∧ E' = aput (aput E0 4 v) 14 (I pre.length) ∧ GrowF H1 H.length 2 1 v pre.length ((pre.map fun w => (rdD w).getD 0).map I) ∧ H.length ≤ H1.length ∧ ∀ j, j < H.length → H1[j]? = H[j]?) ps.length ⟨[], ps, nilS, rfl, rfl, rfl, .inl ⟨rfl, rfl, rfl⟩, Nat.le_refl _, fun _ _ => rfl⟩ ?_
    rintro q E' H1 ⟨pre, post, v, hq, rfl, rfl, hg, hl1, hk1⟩
    have hpl : pre.length ≤ 1100001 := by have := congrArg List.length hq; simp at this; omega
    simp (config := { maxSteps := 1000000 }) (disch := (first | omega | (simp only [go_sem]; try omega))) only [go_sem, Nat.reduceAdd, Nat.reduceEqDiff, Nat.reduceLeDiff, Nat.reduceMul, Nat.reduceLT, reduceIte, Int.reduceToNat, w64_id, cast_succ]
    repeat (first | (with_reducible first | refine SW.seq ?_ | refine SW.block ?_ | refine SW.rowC ?_ | refine SW.skip ?_ | refine SW.exit ?_ | intro _ | refine And.intro (by omega) ?_) | simp (config := { maxSteps := 1000000 }) (disch := (first | omega | (simp only [go_sem]; try omega))) only [go_sem, Nat.reduceAdd, Nat.reduceEqDiff, Nat.reduceLeDiff, Nat.reduceMul, Nat.reduceLT, reduceIte, Int.reduceToNat, w64_id, cast_succ])
    (first | refine SW.condD rfl (fun h2 => ?_) (fun h2 => ?_) | refine SW.condN rfl (fun h2 => ?_) (fun h2 => ?_) | refine SW.condNB rfl (fun h2 => ?_) (fun h2 => ?_) | refine SW.condB rfl (fun h2 => ?_) (fun h2 => ?_))
    · obtain ⟨x, post, rfl, hgx, -⟩ := consOf (d := []) hq (by omega)
      have hpl2 : pre.length + 1 ≤ 1100001 := by have := congrArg List.length hq; simp at this; omega
      have hd := readDecimal_fn x (hmem x (by rw [hq]; simp))
      repeat (first | (with_reducible first | refine SW.seq ?_ | refine SW.block ?_ | refine SW.rowC ?_ | refine SW.skip ?_ | refine SW.exit ?_ | refine PFn.use (hd) ?_ | refine PFn.useq (hd) ?_ | intro _ | refine And.intro (by omega) ?_) | simp (config := { maxSteps := 1000000 }) (disch := (first | omega | (simp only [go_sem]; try omega))) only [go_sem, Nat.reduceAdd, Nat.reduceEqDiff, Nat.reduceLeDiff, Nat.reduceMul, Nat.reduceLT, reduceIte, Int.reduceToNat, w64_id, cast_succ, hgx])
      refine GrowF.appX hg hl1 rfl (by simp; rfl) (by omega) (by omega) ?_
      intro v3 H3 d1 d2 d3
      repeat (first | (with_reducible first | refine SW.seq ?_ | refine SW.block ?_ | refine SW.rowC ?_ | refine SW.skip ?_ | refine SW.exit ?_ | intro _ | refine And.intro (by omega) ?_) | simp (config := { maxSteps := 1000000 }) (disch := (first | omega | (simp only [go_sem]; try omega))) only [go_sem, Nat.reduceAdd, Nat.reduceEqDiff, Nat.reduceLeDiff, Nat.reduceMul, Nat.reduceLT, reduceIte, Int.reduceToNat, w64_id, cast_succ, d1.one.1, d1.one.2])
      refine SLoop.next post.length (by simp) ⟨pre ++ [x], post, v3, by rw [hq]; simp, rfl, ?_, ?_, by omega, fun j hj => (d3 j hj).trans (hk1 j hj)⟩
      · simp only [List.length_append, List.length_singleton]; rfl
      · rw [List.map_append, List.map_append, List.length_append]; exact d1
    · obtain ⟨rfl, rfl⟩ := nilOf hq (by omega)
      have hlen : pre.length = (pre.map fun w => (rdD w).getD 0).length := by simp
      rw [hlen] at hg
      generalize (pre.map fun w => (rdD w).getD 0) = l at *
      have hlt := (listText_fn l).lend (H := H1) (.cons (hg.frozI (Nat.zero_le _)) .nil)
      repeat (first | (with_reducible first | refine SW.seq ?_ | refine SW.block ?_ | refine SW.rowC ?_ | refine SW.skip ?_ | refine SW.exit ?_ | intro _ | refine And.intro (by omega) ?_) | simp (config := { maxSteps := 1000000 }) (disch := (first | omega | (simp only [go_sem]; try omega))) only [go_sem, Nat.reduceAdd, Nat.reduceEqDiff, Nat.reduceLeDiff, Nat.reduceMul, Nat.reduceLT, reduceIte, Int.reduceToNat, w64_id, cast_succ])
      refine ACalls.fn hlt ?_
      by_cases hls : lText l = s
      · have d5 : decide (lText l = s) = true := decide_eq_true hls
        rw [if_pos hls]
        repeat (first | (with_reducible first | refine SW.seq ?_ | refine SW.block ?_ | refine SW.rowC ?_ | refine SW.skip ?_ | refine SW.exit ?_ | intro _ | refine And.intro (by omega) ?_) | simp (config := { maxSteps := 1000000 }) (disch := (first | omega | (simp only [go_sem]; try omega))) only [go_sem, Nat.reduceAdd, Nat.reduceEqDiff, Nat.reduceLeDiff, Nat.reduceMul, Nat.reduceLT, reduceIte, Int.reduceToNat, w64_id, cast_succ, d5, Bool.not_true])
        refine SW.condF rfl ?_
        repeat (first | (with_reducible first | refine SW.seq ?_ | refine SW.block ?_ | refine SW.rowC ?_ | refine SW.skip ?_ | refine SW.exit ?_ | intro _ | refine And.intro (by omega) ?_) | simp (config := { maxSteps := 1000000 }) (disch := (first | omega | (simp only [go_sem]; try omega))) only [go_sem, Nat.reduceAdd, Nat.reduceEqDiff, Nat.reduceLeDiff, Nat.reduceMul, Nat.reduceLT, reduceIte, Int.reduceToNat, w64_id, cast_succ])
        refine SW.ret ⟨_, rfl, ?_⟩
        exact GR.of ⟨_, _, rfl, hg, hl1, hk1⟩
      · have d5 : decide (lText l = s) = false := decide_eq_false hls
        rw [if_neg hls]
        repeat (first | (with_reducible first | refine SW.seq ?_ | refine SW.block ?_ | refine SW.rowC ?_ | refine SW.skip ?_ | refine SW.exit ?_ | intro _ | refine And.intro (by omega) ?_) | simp (config := { maxSteps := 1000000 }) (disch := (first | omega | (simp only [go_sem]; try omega))) only [go_sem, Nat.reduceAdd, Nat.reduceEqDiff, Nat.reduceLeDiff, Nat.reduceMul, Nat.reduceLT, reduceIte, Int.reduceToNat, w64_id, cast_succ, d5, Bool.not_false])
        refine SW.condT rfl ?_
        repeat (first | (with_reducible first | refine SW.seq ?_ | refine SW.block ?_ | refine SW.rowC ?_ | refine SW.skip ?_ | refine SW.exit ?_ | intro _ | refine And.intro (by omega) ?_) | simp (config := { maxSteps := 1000000 }) (disch := (first | omega | (simp only [go_sem]; try omega))) only [go_sem, Nat.reduceAdd, Nat.reduceEqDiff, Nat.reduceLeDiff, Nat.reduceMul, Nat.reduceLT, reduceIte, Int.reduceToNat, w64_id, cast_succ])
        refine SW.ret ⟨_, rfl, ?_⟩
        exact GR.of ⟨_, _, rfl, .inl ⟨rfl, rfl, rfl⟩, hl1, hk1⟩
theorem etx_len {e : Int × Int} (h1 : 0 ≤ e.1 ∧ e.1 < 64) (h2 : 0 ≤ e.2 ∧ e.2 < 64) : (etx e).length ≤ 40 := by
  have a1 := itoa_len (n := e.1) (by omega)
  have a2 := itoa_len (n := e.2) (by omega)
  unfold etx
  rw [List.length_append, List.length_cons]; omega
theorem graphText_fn (cols : List Int) (es : List (Int × Int)) : PFn Tryd.prog f_impl_GraphText [.agg [ilS cols, ilE es]] (Tx (if grB cols es = true then gtx cols es else [])) := by
  have hv := ValidGraphI_fn cols es
  intro H
  refine ACalls.introB s_impl_GraphText (by simp) ?_; intro hB hA; unfold c_impl_GraphText; simp (config := { maxSteps := 1000000 }) (disch := (first | omega | (simp only [go_sem]; try omega))) only [go_sem, Nat.reduceAdd, Nat.reduceEqDiff, Nat.reduceLeDiff, Nat.reduceMul, Nat.reduceLT, reduceIte, Int.reduceToNat, w64_id, cast_succ]
  repeat (first | (with_reducible first | refine SW.seq ?_ | refine SW.block ?_ | refine SW.rowC ?_ | refine SW.skip ?_ | refine SW.exit ?_ | refine PFn.use (hv) ?_ | refine PFn.useq (hv) ?_ | intro _ | refine And.intro (by omega) ?_) | simp (config := { maxSteps := 1000000 }) (disch := (first | omega | (simp only [go_sem]; try omega))) only [go_sem, Nat.reduceAdd, Nat.reduceEqDiff, Nat.reduceLeDiff, Nat.reduceMul, Nat.reduceLT, reduceIte, Int.reduceToNat, w64_id, cast_succ])
  cases hgb : grB cols es
  · rw [if_neg (by simp)]
    refine SW.condT rfl ?_
    repeat (first | (with_reducible first | refine SW.seq ?_ | refine SW.block ?_ | refine SW.rowC ?_ | refine SW.skip ?_ | refine SW.exit ?_ | intro _ | refine And.intro (by omega) ?_) | simp (config := { maxSteps := 1000000 }) (disch := (first | omega | (simp only [go_sem]; try omega))) only [go_sem, Nat.reduceAdd, Nat.reduceEqDiff, Nat.reduceLeDiff, Nat.reduceMul, Nat.reduceLT, reduceIte, Int.reduceToNat, w64_id, cast_succ])
    refine SW.ret ?_; (try simp only [go_sem]); (first | refine FunPost.one ?_ | refine FunPost.two ?_ | refine FunPost.three ?_); (try simp (config := { maxSteps := 1000000 }) (disch := (first | omega | (simp only [go_sem]; try omega))) only [go_sem, Nat.reduceAdd, Nat.reduceEqDiff, Nat.reduceLeDiff, Nat.reduceMul, Nat.reduceLT, reduceIte, Int.reduceToNat, w64_id, cast_succ]); (first | (with_reducible refine GR.drop ?_ ?_; (simp only [go_sem, and_self, and_true, true_and, implies_true, List.take_succ_cons, List.take_zero])) | refine GR.of ?_); refine ⟨?_, rfl⟩; (try with_reducible rfl)
  · rw [if_pos rfl]
    obtain ⟨b1, b2, b3, b4⟩ := grB_facts hgb
    have hlt := listText_fn cols
    have hlt2 : lText cols = ltx cols := by unfold lText; rw [if_pos (inL_of b1 b2)]
    rw [hlt2] at hlt
    have hll : (ltx cols).length ≤ 5000 := by
      unfold ltx
      split
      · simp
      · have := join_len (m := 19) (sep := 44) (xs := cols.map Lib.itoa) (fun p hp => by obtain ⟨n, hn, rfl⟩ := List.mem_map.1 hp; have := b2 n hn; exact itoa_len (by omega))
        rw [List.length_map] at this
        omega
    refine SW.condF rfl ?_
    repeat (first | (with_reducible first | refine SW.seq ?_ | refine SW.block ?_ | refine SW.rowC ?_ | refine SW.skip ?_ | refine SW.exit ?_ | intro _ | refine And.intro (by omega) ?_) | simp (config := { maxSteps := 1000000 }) (disch := (first | omega | (simp only [go_sem]; try omega))) only [go_sem, Nat.reduceAdd, Nat.reduceEqDiff, Nat.reduceLeDiff, Nat.reduceMul, Nat.reduceLT, reduceIte, Int.reduceToNat, w64_id, cast_succ])
    refine SW.loopE (fun E0 H0 q E' H1 => ∃ (pre post : List (Int × Int)) (v : AV), es = pre ++ post ∧ q = post.length ∧ E' = aput (aput E0 3 v) 12 (I pre.length) ∧ H1[H.length]? = some ⟨0, tyGr, 1, [ilS cols, ilE es]⟩ ∧ GrowF H1 (H.length + 1) 9 1 v pre.length ((pre.map etx).map Tx) ∧ H.length + 1 ≤ H1.length ∧ ∀ j, j < H.length → H1[j]? = H[j]?) es.length ⟨[], es, nilS, rfl, rfl, rfl, by simp, .inl ⟨rfl, rfl, rfl⟩, by simp, fun j hj => List.getElem?_append_left hj⟩ ?_
    rintro q E' H1 ⟨pre, post, v, hq, rfl, rfl, hbx, hg, hl1, hk1⟩
    have hpl : pre.length ≤ 512 := by rw [hq] at b3; simp at b3; omega
    simp (config := { maxSteps := 1000000 }) (disch := (first | omega | (simp only [go_sem]; try omega))) only [go_sem, Nat.reduceAdd, Nat.reduceEqDiff, Nat.reduceLeDiff, Nat.reduceMul, Nat.reduceLT, reduceIte, Int.reduceToNat, w64_id, cast_succ]
    repeat (first | (with_reducible first | refine SW.seq ?_ | refine SW.block ?_ | refine SW.rowC ?_ | refine SW.skip ?_ | refine SW.exit ?_ | intro _ | refine And.intro (by omega) ?_) | simp (config := { maxSteps := 1000000 }) (disch := (first | omega | (simp only [go_sem]; try omega))) only [go_sem, Nat.reduceAdd, Nat.reduceEqDiff, Nat.reduceLeDiff, Nat.reduceMul, Nat.reduceLT, reduceIte, Int.reduceToNat, w64_id, cast_succ])
    (first | refine SW.condD rfl (fun h2 => ?_) (fun h2 => ?_) | refine SW.condN rfl (fun h2 => ?_) (fun h2 => ?_) | refine SW.condNB rfl (fun h2 => ?_) (fun h2 => ?_) | refine SW.condB rfl (fun h2 => ?_) (fun h2 => ?_))
    · obtain ⟨x, post, rfl, hgx, -⟩ := consOf (d := (0, 0)) hq (by omega)
      have hx := b4 x (by rw [hq]; simp)
      have l1 : ∀ H, acells H 2 (.el (ilE es) (pre.length * 2)) = some [I x.1, I x.2] := fun H => by
        have := (rd_ilE H es).ld (j := pre.length) (by omega)
        rwa [hgx] at this
      have hd1 := decimal_fn x.1 (by omega) (by omega)
      have hd2 := decimal_fn x.2 (by omega) (by omega)
      have hi1 := itoa_len (n := x.1) (by omega)
      have hi2 := itoa_len (n := x.2) (by omega)
      have hs1 : sopV .add [Tx (Lib.itoa x.1), Tx [45]] = some (Tx (Lib.itoa x.1 ++ [45])) := sopV_add _ _ (by simp; omega)
      have hs2 : sopV .add [Tx (Lib.itoa x.1 ++ [45]), Tx (Lib.itoa x.2)] = some (Tx (etx x)) := (sopV_add _ _ (by simp; omega)).trans (by unfold etx; simp)
      repeat (first | (with_reducible first | refine SW.seq ?_ | refine SW.block ?_ | refine SW.rowC ?_ | refine SW.skip ?_ | refine SW.exit ?_ | refine PFn.use (hd1) ?_ | refine PFn.useq (hd1) ?_ | refine PFn.use (hd2) ?_ | refine PFn.useq (hd2) ?_ | intro _ | refine And.intro (by omega) ?_) | simp (config := { maxSteps := 1000000 }) (disch := (first | omega | (simp only [go_sem]; try omega))) only [go_sem, Nat.reduceAdd, Nat.reduceEqDiff, Nat.reduceLeDiff, Nat.reduceMul, Nat.reduceLT, reduceIte, Int.reduceToNat, w64_id, cast_succ, l1, hs1, hs2])
      have hg2 := hg.same (H' := H1 ++ [⟨0, 38, 1, [I x.1, I x.2]⟩]) (fun j b _ h => by rw [List.getElem?_append_left (List.getElem?_eq_some_iff.1 h).1]; exact h)
      rw [show H1 ++ [(⟨0, 38, 1, [I x.1, I x.2]⟩ : Blk), ⟨0, 9, 1, [Tx (etx x)]⟩] = (H1 ++ [⟨0, 38, 1, [I x.1, I x.2]⟩]) ++ [⟨0, 9, 1, [Tx (etx x)]⟩] by simp]
      refine GrowF.appX hg2 (by simp; omega) rfl (by simp; rfl) (by omega) (by omega) ?_
      intro v3 H3 d1 d2 d3
      rw [List.length_append, List.length_singleton] at d2
      have hkp : ∀ j, j < H.length + 1 → H3[j]? = H1[j]? := fun j hj => (d3 j hj).trans (List.getElem?_append_left (by omega))
      repeat (first | (with_reducible first | refine SW.seq ?_ | refine SW.block ?_ | refine SW.rowC ?_ | refine SW.skip ?_ | refine SW.exit ?_ | intro _ | refine And.intro (by omega) ?_) | simp (config := { maxSteps := 1000000 }) (disch := (first | omega | (simp only [go_sem]; try omega))) only [go_sem, Nat.reduceAdd, Nat.reduceEqDiff, Nat.reduceLeDiff, Nat.reduceMul, Nat.reduceLT, reduceIte, Int.reduceToNat, w64_id, cast_succ, d1.one.1, d1.one.2])
      refine SLoop.next post.length (by simp) ⟨pre ++ [x], post, v3, by rw [hq]; simp, rfl, ?_, by rw [hkp _ (by omega)]; exact hbx, ?_, by omega, fun j hj => (hkp j (by omega)).trans (hk1 j hj)⟩
      · simp only [List.length_append, List.length_singleton]; rfl
      · rw [List.map_append, List.map_append, List.length_append]; exact d1
    · obtain ⟨rfl, rfl⟩ := nilOf hq (by omega)
      have hjb := join_len (m := 40) (sep := 44) (xs := pre.map etx) (fun p hp => by obtain ⟨e, he, rfl⟩ := List.mem_map.1 hp; have := b4 e he; exact etx_len (by omega) (by omega))
      rw [List.length_map] at hjb
      have hj := (join_fn (pre.map etx) [44] (by simp; omega) (by omega)).lend (H := H1) (.cons (hg.frozT (Nat.zero_le _)) (.cons (.old _ (.lit _)) .nil))
      have hs1 : sopV .add [Tx (ltx cols), Tx [59]] = some (Tx (ltx cols ++ [59])) := sopV_add _ _ (by simp; omega)
      have hs2 : sopV .add [Tx (ltx cols ++ [59]), Tx (Lib.join (pre.map etx) [44])] = some (Tx (gtx cols pre)) := (sopV_add _ _ (by simp; omega)).trans (by unfold gtx; simp)
      repeat (first | (with_reducible first | refine SW.seq ?_ | refine SW.block ?_ | refine SW.rowC ?_ | refine SW.skip ?_ | refine SW.exit ?_ | refine PFn.use (hlt) ?_ | refine PFn.useq (hlt) ?_ | intro _ | refine And.intro (by omega) ?_) | simp (config := { maxSteps := 1000000 }) (disch := (first | omega | (simp only [go_sem]; try omega))) only [go_sem, Nat.reduceAdd, Nat.reduceEqDiff, Nat.reduceLeDiff, Nat.reduceMul, Nat.reduceLT, reduceIte, Int.reduceToNat, w64_id, cast_succ, pc_alive hbx, pc_ld hbx, hs1])
      refine ACalls.fn hj ?_
      repeat (first | (with_reducible first | refine SW.seq ?_ | refine SW.block ?_ | refine SW.rowC ?_ | refine SW.skip ?_ | refine SW.exit ?_ | intro _ | refine And.intro (by omega) ?_) | simp (config := { maxSteps := 1000000 }) (disch := (first | omega | (simp only [go_sem]; try omega))) only [go_sem, Nat.reduceAdd, Nat.reduceEqDiff, Nat.reduceLeDiff, Nat.reduceMul, Nat.reduceLT, reduceIte, Int.reduceToNat, w64_id, cast_succ, hs2])
      refine SW.ret ⟨_, rfl, ?_⟩
      exact GR.frozP (prefix_of (by omega) hk1) (.old _ (.lit _)) ⟨rfl, rfl⟩
end Go.Proofs.YtdgcgckehihboaaDoor
