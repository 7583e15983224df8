/- Graphs: what the law calls. DOORT -/
import Derived.Test.YtdgcgckehihboaaGreatDoorProg
import Derived.KernelRfl
import Derived.Test.YtdgcgckehihboaaGreatDoorzZS
import Derived.Test.YtdgcgckehihboaaGreatDoorzZH
import Derived.Test.YtdgcgckehihboaaGreatDoorzR3
set_option linter.unusedSimpArgs false
set_option linter.unusedVariables false
set_option linter.unusedSectionVars false
set_option maxHeartbeats 4000000
set_option maxRecDepth 100000
namespace Go.Proofs.YtdgcgckehihboaaGreatDoor
variable [Go.Av.DoorC] [Go.Proofs.YtdgcgckehihboaaGreatDoor.DoorT]
open Go.Av
abbrev f_spec_DrawComplementGraph : Nat := 5
def c_spec_DrawComplementGraph : SC :=
 .seq (.reg [
     ⟨(some 2), .alloc 27 [(.slice none 0 0), (.slice none 0 0)], none⟩] [0, 2])
 (.seq (.reg [
     ⟨(some 4), .mv (.tmp 0), none⟩,
     ⟨(some 5), .call 14 [(.tmp 4)], none⟩,
     ⟨(some 3), .mv (.tmp 5), none⟩] [2, 3])
 (.seq (.reg [
     ⟨(some 6), .mv (.tmp 3), none⟩,
     ⟨(some 7), .call 15 [(.tmp 6)], none⟩,
     ⟨none, .store 2 (.tmp 2) (.tmp 7), none⟩] [2])
 (.ret)))
theorem s_spec_DrawComplementGraph : stripF Tryz.prog 5 [[0, 2], [2, 3], [2]] = some (c_spec_DrawComplementGraph, [.cell 2 2], 8) := by kernel_rfl
abbrev f_spec_ValidGraph : Nat := 8
def c_spec_ValidGraph : SC :=
 .seq (.reg [
     ⟨(some 1), .box 27 (.tmp 0), none⟩,
     ⟨(some 2), .mv (.const (.bool false)), none⟩] [1])
 (.seq (.reg [
     ⟨(some 3), .load 2 true (.tmp 1), none⟩,
     ⟨(some 4), .call 23 [(.tmp 3)], none⟩,
     ⟨(some 2), .mv (.tmp 4), none⟩] [2])
 (.ret))
theorem s_spec_ValidGraph : stripF Tryz.prog 8 [[1], [2]] = some (c_spec_ValidGraph, [.tmp 2], 5) := by kernel_rfl
theorem drawCompl_ok (H : List Blk) (ns : List Int) (hz : ∀ z ∈ ns, 0 ≤ z ∧ z < 256) (hl : ns.length ≤ 2000000) : ACalls Tryz.prog f_spec_DrawComplementGraph [ilY ns] H (fun r H' => H' = H ∧ ∃ (cols : List Int) (es : List (Int × Int)), r = .agg [ilS cols, ilE es] ∧ cols.length ≤ 1000 ∧ es.length ≤ 1000) := by
  refine ACalls.introB s_spec_DrawComplementGraph (by simp) ?_; intro hB hA; unfold c_spec_DrawComplementGraph; simp (config := { maxSteps := 1000000 }) (disch := (first | omega | (simp only [go_sem]; try omega))) only [go_sem, Nat.reduceAdd, Nat.reduceEqDiff, Nat.reduceLeDiff, Nat.reduceMul, Nat.reduceLT, reduceIte, Int.reduceToNat, w64_id, cast_succ]
  repeat (first | (with_reducible first | refine SW.seq ?_ | refine SW.block ?_ | refine SW.rowC ?_ | refine SW.skip ?_ | refine SW.exit ?_ | intro _ | refine And.intro (by omega) ?_) | simp (config := { maxSteps := 1000000 }) (disch := (first | omega | (simp only [go_sem]; try omega))) only [go_sem, Nat.reduceAdd, Nat.reduceEqDiff, Nat.reduceLeDiff, Nat.reduceMul, Nat.reduceLT, reduceIte, Int.reduceToNat, w64_id, cast_succ])
  refine (l00From_ok _ ns).mono ?_
  rintro r H1 ⟨rfl, rfl⟩
  repeat (first | (with_reducible first | refine SW.seq ?_ | refine SW.block ?_ | refine SW.rowC ?_ | refine SW.skip ?_ | refine SW.exit ?_ | intro _ | refine And.intro (by omega) ?_) | simp (config := { maxSteps := 1000000 }) (disch := (first | omega | (simp only [go_sem]; try omega))) only [go_sem, Nat.reduceAdd, Nat.reduceEqDiff, Nat.reduceLeDiff, Nat.reduceMul, Nat.reduceLT, reduceIte, Int.reduceToNat, w64_id, cast_succ])
  refine (l21Draw_ok _ (H.length + 1) (ilY ns) ns 0 0 (by simp) (codeOk_ilY hz hl) (fun k => Bel_ilY k ns) (by omega)).mono ?_
  rintro r H1 ⟨u', t', cols, es, rfl, rfl, h1, h2⟩
  have e : (H ++ [(⟨0, tyGr, 1, [nilS, nilS]⟩ : Blk), srcB (ilY ns) 0 0]).set (H.length + 1) (srcB (ilY ns) t' u') = H ++ [⟨0, tyGr, 1, [nilS, nilS]⟩, srcB (ilY ns) t' u'] := by
    rw [List.set_append_right _ _ (by omega), show H.length + 1 - H.length = 1 by omega]; rfl
  rw [e]
  have hcE : (ilE es).cell1 = true := rfl
  have hpE : partsOf (ilE es) = [ilE es] := rfl
  repeat (first | (with_reducible first | refine SW.seq ?_ | refine SW.block ?_ | refine SW.rowC ?_ | refine SW.skip ?_ | refine SW.exit ?_ | intro _ | refine And.intro (by omega) ?_) | simp (config := { maxSteps := 1000000 }) (disch := (first | omega | (simp only [go_sem]; try omega))) only [go_sem, Nat.reduceAdd, Nat.reduceEqDiff, Nat.reduceLeDiff, Nat.reduceMul, Nat.reduceLT, reduceIte, Int.reduceToNat, w64_id, cast_succ, hcE, hpE])
  refine SW.ret ?_
  refine FunPost.cell (cs := [ilS cols, ilE es]) (by simp (config := { maxSteps := 1000000 }) (disch := (first | omega | (simp only [go_sem]; try omega))) only [go_sem, Nat.reduceAdd, Nat.reduceEqDiff, Nat.reduceLeDiff, Nat.reduceMul, Nat.reduceLT, reduceIte, Int.reduceToNat, w64_id, cast_succ]) ?_
  exact GR.froz (r' := .agg [ilS cols, ilE es]) (froz_agg2 (.old _ (by rw [Bel_ilS]; trivial)) (.old _ (Bel_ilE _ es))) ⟨rfl, cols, es, rfl, h1, h2⟩
theorem implReadGraph_fn (s : List UInt8) (hs : s.length ≤ 1100000) : PFn Tryz.prog f_impl_ReadGraph [Tx s] (rgV (rgP s)) := by
  intro H
  refine (implReadGraph_ok H s hs).gr ?_
  rintro r H1 ⟨ext, v, u, q, rfl, rfl, h1, h2, h3, h4⟩
  exact GR.froz (froz_tup2 (froz_agg2 (OwnS.froz h3 (fun r hr => hr.1)) (h4.frozR fun r hr => by have := hr.1; omega)) (froz_B' _)) ⟨rfl, rfl⟩
theorem specValidGraph_fn (cols : List Int) (es : List (Int × Int)) : PFn Tryz.prog f_spec_ValidGraph [.agg [ilS cols, ilE es]] (Bv (grB cols es)) := by
  intro H; refine ACalls.introB s_spec_ValidGraph (by simp) ?_; intro hB hA; unfold c_spec_ValidGraph; simp (config := { maxSteps := 1000000 }) (disch := (first | omega | (simp only [go_sem]; try omega))) only [go_sem, Nat.reduceAdd, Nat.reduceEqDiff, Nat.reduceLeDiff, Nat.reduceMul, Nat.reduceLT, reduceIte, Int.reduceToNat, w64_id, cast_succ]
  repeat (first | (with_reducible first | refine SW.seq ?_ | refine SW.block ?_ | refine SW.rowC ?_ | refine SW.skip ?_ | refine SW.exit ?_ | refine PFn.use (l21Ok_fn cols es) ?_ | refine PFn.useq (l21Ok_fn cols es) ?_ | intro _ | refine And.intro (by omega) ?_) | simp (config := { maxSteps := 1000000 }) (disch := (first | omega | (simp only [go_sem]; try omega))) only [go_sem, Nat.reduceAdd, Nat.reduceEqDiff, Nat.reduceLeDiff, Nat.reduceMul, Nat.reduceLT, reduceIte, Int.reduceToNat, w64_id, cast_succ])
  refine SW.ret ?_; (try simp only [go_sem]); (first | refine FunPost.one ?_ | refine FunPost.two ?_ | refine FunPost.three ?_); (try simp (config := { maxSteps := 1000000 }) (disch := (first | omega | (simp only [go_sem]; try omega))) only [go_sem, Nat.reduceAdd, Nat.reduceEqDiff, Nat.reduceLeDiff, Nat.reduceMul, Nat.reduceLT, reduceIte, Int.reduceToNat, w64_id, cast_succ]); (first | (with_reducible refine GR.drop ?_ ?_; (simp only [go_sem, and_self, and_true, true_and, implies_true, List.take_succ_cons, List.take_zero])) | refine GR.of ?_); refine ⟨?_, rfl⟩; (try with_reducible rfl)
end Go.Proofs.YtdgcgckehihboaaGreatDoor
