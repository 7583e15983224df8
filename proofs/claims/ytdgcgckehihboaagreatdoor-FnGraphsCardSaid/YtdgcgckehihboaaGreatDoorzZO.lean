/- Graphs told by other vertices: the program's RelabelGraph. -/
import Derived.Test.YtdgcgckehihboaaGreatDoorProg
import Derived.KernelRfl
import Derived.Test.YtdgcgckehihboaaGreatDoorzR3
import Derived.Test.YtdgcgckehihboaaGreatDoorzIX
set_option linter.unusedSimpArgs false
set_option linter.unusedVariables false
set_option linter.unusedSectionVars false
set_option maxHeartbeats 4000000
set_option maxRecDepth 100000
namespace Go.Proofs.YtdgcgckehihboaaGreatDoor
variable [Go.Av.DoorC]
open Go.Av
abbrev f_impl_RelabelGraph : Nat := 11
def c_impl_RelabelGraph : SC :=
 .seq (.reg [
     ⟨(some 2), .box 27 (.tmp 0), none⟩,
     ⟨(some 4), .alloc 27 [(.slice none 0 0), (.slice none 0 0)], none⟩,
     ⟨(some 5), .mv (.const (.int .i64 0)), none⟩] [1, 2, 4])
 (.seq (.seq (.reg [
     ⟨(some 6), .load 2 true (.tmp 2), none⟩,
     ⟨(some 7), .call 12 [(.tmp 6)], none⟩,
     ⟨(some 8), .un .not (.tmp 7), none⟩] [1, 2, 4, 8])
 (.cond (.tmp 8)
  (.seq (.reg [
      ⟨(some 9), .build [(.slice none 0 0), (.slice none 0 0)] [], none⟩,
      ⟨none, .store 2 (.tmp 4) (.tmp 9), none⟩,
      ⟨(some 5), .mv (.const (.int .i64 1)), none⟩] [4, 5])
  (.ret))
  (.skip)))
 (.seq (.seq (.reg [
     ⟨(some 10), .mv (.tmp 1), none⟩,
     ⟨(some 11), .faddr 0 (.tmp 2), none⟩,
     ⟨(some 12), .load 1 false (.tmp 11), none⟩,
     ⟨(some 13), .call 28 [(.tmp 12)], none⟩,
     ⟨(some 14), .call 27 [(.tmp 10), (.tmp 13)], none⟩,
     ⟨(some 15), .un .not (.tmp 14), none⟩] [1, 2, 4, 15])
 (.cond (.tmp 15)
  (.seq (.reg [
      ⟨(some 16), .build [(.slice none 0 0), (.slice none 0 0)] [], none⟩,
      ⟨none, .store 2 (.tmp 4) (.tmp 16), none⟩,
      ⟨(some 5), .mv (.const (.int .i64 2)), none⟩] [4, 5])
  (.ret))
  (.skip)))
 (.seq (.reg [
     ⟨(some 17), .load 2 true (.tmp 2), none⟩,
     ⟨(some 18), .mv (.tmp 1), none⟩,
     ⟨(some 19), .call 29 [(.tmp 17), (.tmp 18)], none⟩,
     ⟨none, .store 2 (.tmp 4) (.tmp 19), none⟩,
     ⟨(some 5), .mv (.const (.int .i64 0)), none⟩] [4, 5])
 (.ret))))
theorem s_impl_RelabelGraph : stripF Tryz.prog 11 [[1, 2, 4], [1, 2, 4, 8], [4, 5], [1, 2, 4, 15], [4, 5], [4, 5]] = some (c_impl_RelabelGraph, [.cell 4 2, .tmp 5], 20) := by kernel_rfl
theorem RelabelGraph_fn (cols p : List Int) (es : List (Int × Int)) (hg : grB cols es = true) (hp : ordB cols.length p = true) : PFn Tryz.prog f_impl_RelabelGraph [.agg [ilS cols, ilE es], ilS p] (.tup [.agg [ilS (relC cols p cols.length), ilE (relL p es)], I 0]) := by
  have hr := relabeledGraph_fn cols p es hg hp
  have e : sortU cmpE (es.map fun e => ordE (relE p e)) = relL p es := by unfold relL; rw [List.map_map]; rfl
  rw [e] at hr
  have hv := ValidGraphI_fn cols es
  rw [hg] at hv
  have hsz := size_fn cols
  have hgf : cols.length ≤ 64 := by
    unfold grB colsB at hg
    simp only [Bool.and_eq_true, decide_eq_true_eq] at hg
    exact hg.2.1.1
  have hpl : p.length = cols.length := by
    unfold ordB at hp
    rw [decide_eq_true_eq] at hp
    exact hp.1
  have ho := isOrder_fn p cols.length (by omega) (by omega)
  rw [hp] at ho
  have hbe := fun b => Bel_ilE b es
  have hbe2 := fun b => Bel_ilE b (relL p es)
  intro H; refine ACalls.introB s_impl_RelabelGraph (by simp) ?_; intro hB hA; unfold c_impl_RelabelGraph; simp (config := { maxSteps := 1000000 }) (disch := (first | omega | (simp only [go_sem]; try omega))) only [go_sem, Nat.reduceAdd, Nat.reduceEqDiff, Nat.reduceLeDiff, Nat.reduceMul, Nat.reduceLT, reduceIte, Int.reduceToNat, w64_id, cast_succ]
  repeat (first | (with_reducible first | refine SW.seq ?_ | refine SW.block ?_ | refine SW.rowC ?_ | refine SW.skip ?_ | refine SW.exit ?_ | refine PFn.use (hv) ?_ | refine PFn.useq (hv) ?_ | intro _ | refine And.intro (by omega) ?_) | simp (config := { maxSteps := 1000000 }) (disch := (first | omega | (simp only [go_sem]; try omega))) only [go_sem, Nat.reduceAdd, Nat.reduceEqDiff, Nat.reduceLeDiff, Nat.reduceMul, Nat.reduceLT, reduceIte, Int.reduceToNat, w64_id, cast_succ])
  refine SW.condF rfl ?_
  repeat (first | (with_reducible first | refine SW.seq ?_ | refine SW.block ?_ | refine SW.rowC ?_ | refine SW.skip ?_ | refine SW.exit ?_ | refine PFn.use (hsz) ?_ | refine PFn.useq (hsz) ?_ | refine PFn.use (ho) ?_ | refine PFn.useq (ho) ?_ | intro _ | refine And.intro (by omega) ?_) | simp (config := { maxSteps := 1000000 }) (disch := (first | omega | (simp only [go_sem]; try omega))) only [go_sem, Nat.reduceAdd, Nat.reduceEqDiff, Nat.reduceLeDiff, Nat.reduceMul, Nat.reduceLT, reduceIte, Int.reduceToNat, w64_id, cast_succ])
  refine SW.condF rfl ?_
  repeat (first | (with_reducible first | refine SW.seq ?_ | refine SW.block ?_ | refine SW.rowC ?_ | refine SW.skip ?_ | refine SW.exit ?_ | refine PFn.use (hr) ?_ | refine PFn.useq (hr) ?_ | intro _ | refine And.intro (by omega) ?_) | simp (config := { maxSteps := 1000000 }) (disch := (first | omega | (simp only [go_sem]; try omega))) only [go_sem, Nat.reduceAdd, Nat.reduceEqDiff, Nat.reduceLeDiff, Nat.reduceMul, Nat.reduceLT, reduceIte, Int.reduceToNat, w64_id, cast_succ])
  refine SW.ret ?_
  refine FunPost.cell_tmp (cs := [ilS (relC cols p cols.length), ilE (relL p es)]) (by simp (config := { maxSteps := 1000000 }) (disch := (first | omega | (simp only [go_sem]; try omega))) only [go_sem, Nat.reduceAdd, Nat.reduceEqDiff, Nat.reduceLeDiff, Nat.reduceMul, Nat.reduceLT, reduceIte, Int.reduceToNat, w64_id, cast_succ]) ?_
  exact GR.froz (froz_tup2 (froz_agg2 (.old _ (by rw [Bel_ilS]; trivial)) (.old _ (hbe2 _))) (froz_I' _)) ⟨rfl, rfl⟩
end Go.Proofs.YtdgcgckehihboaaGreatDoor
