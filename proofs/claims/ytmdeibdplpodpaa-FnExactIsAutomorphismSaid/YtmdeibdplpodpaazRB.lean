/- The law of IsAutomorphism. -/
import Derived.Test.YtmdeibdplpodpaaProg
import Derived.KernelRfl
import Derived.Test.YtmdeibdplpodpaazRA
import Derived.ChangeSame
set_option linter.unusedSimpArgs false
set_option linter.unusedVariables false
set_option maxHeartbeats 4000000
set_option maxRecDepth 100000
namespace Go.Proofs.Ytmdeibdplpodpaa
open Go.Av
abbrev f_laws_FnExactIsAutomorphism : Nat := 3
def c_laws_FnExactIsAutomorphism : SC :=
 .seq (.reg [
     ⟨(some 2), .box 25 (.tmp 0), none⟩,
     ⟨(some 4), .mv (.const (.bool false)), none⟩] [1, 2])
 (.seq (.seq (.reg [
     ⟨(some 10), .mv (.tmp 1), none⟩,
     ⟨(some 11), .len (.tmp 10), none⟩,
     ⟨(some 12), .bin .gtr (.tmp 11) (.const (.int .i64 1048576)), none⟩] [1, 2, 12])
 (.cond (.tmp 12)
  (.seq (.reg [
      ⟨(some 4), .mv (.const (.bool true)), none⟩] [4])
  (.ret))
  (.skip)))
 (.seq (.reg [
     ⟨(some 5), .mv (.const (.int .i64 1048576)), none⟩] [1, 2, 5])
 (.seq (.reg [
     ⟨(some 13), .load 2 true (.tmp 2), none⟩,
     ⟨(some 14), .mv (.tmp 5), none⟩,
     ⟨(some 15), .call 6 [(.tmp 13), (.tmp 14)], none⟩,
     ⟨(some 5), .mv (.tmp 15), none⟩] [1, 2, 5])
 (.seq (.seq (.reg [
     ⟨(some 16), .mv (.tmp 5), none⟩,
     ⟨(some 17), .bin .lss (.tmp 16) (.const (.int .i64 0)), none⟩] [1, 2, 17])
 (.cond (.tmp 17)
  (.seq (.reg [
      ⟨(some 4), .mv (.const (.bool true)), none⟩] [4])
  (.ret))
  (.skip)))
 (.seq (.reg [
     ⟨(some 18), .load 2 true (.tmp 2), none⟩,
     ⟨(some 19), .call 8 [(.tmp 18)], none⟩,
     ⟨(some 20), .mv (.tmp 1), none⟩,
     ⟨(some 21), .call 9 [(.tmp 20)], none⟩,
     ⟨(some 22), .call 7 [(.tmp 19), (.tmp 21)], none⟩,
     ⟨(some 6), .mv (.tmp 22), none⟩] [1, 2, 6])
 (.seq (.reg [
     ⟨(some 23), .load 2 true (.tmp 2), none⟩,
     ⟨(some 24), .call 8 [(.tmp 23)], none⟩,
     ⟨(some 7), .alloc 30 [(.slice none 0 0), (.slice none 0 0)], none⟩,
     ⟨none, .store 2 (.tmp 7) (.tmp 24), none⟩] [1, 2, 6, 7])
 (.seq (.reg [
     ⟨(some 25), .mv (.tmp 1), none⟩,
     ⟨(some 26), .call 9 [(.tmp 25)], none⟩,
     ⟨(some 8), .mv (.tmp 26), none⟩] [1, 2, 6, 7, 8])
 (.seq (.reg [
     ⟨(some 27), .load 2 true (.tmp 7), none⟩,
     ⟨(some 28), .mv (.tmp 8), none⟩,
     ⟨(some 29), .call 10 [(.tmp 27), (.tmp 28)], none⟩,
     ⟨(some 9), .mv (.tmp 29), none⟩] [1, 2, 6, 7, 8, 9])
 (.seq (.seq (.reg [
     ⟨(some 30), .mv (.tmp 9), none⟩,
     ⟨(some 31), .mv (.tmp 6), none⟩,
     ⟨(some 32), .binb true (.tmp 30) (.tmp 31), none⟩] [1, 2, 7, 8, 32])
 (.cond (.tmp 32)
  (.seq (.reg [
      ⟨(some 4), .mv (.const (.bool false)), none⟩] [4])
  (.ret))
  (.skip)))
 (.seq (.seq (.reg [
     ⟨(some 33), .load 2 true (.tmp 7), none⟩,
     ⟨(some 34), .load 2 true (.tmp 2), none⟩,
     ⟨(some 35), .qcall 8 [(.tmp 34)], none⟩,
     ⟨(some 36), .qcall 11 [(.tmp 33), (.tmp 35)], none⟩,
     ⟨(some 37), .un .not (.tmp 36), none⟩] [1, 8, 37])
 (.cond (.tmp 37)
  (.seq (.reg [
      ⟨(some 4), .mv (.const (.bool false)), none⟩] [4])
  (.ret))
  (.skip)))
 (.seq (.seq (.reg [
     ⟨(some 38), .mv (.tmp 8), none⟩,
     ⟨(some 39), .mv (.tmp 1), none⟩,
     ⟨(some 40), .call 9 [(.tmp 39)], none⟩,
     ⟨(some 41), .call 12 [(.tmp 38), (.tmp 40)], none⟩,
     ⟨(some 42), .un .not (.tmp 41), none⟩] [42])
 (.cond (.tmp 42)
  (.seq (.reg [
      ⟨(some 4), .mv (.const (.bool false)), none⟩] [4])
  (.ret))
  (.skip)))
 (.seq (.reg [
     ⟨(some 4), .mv (.const (.bool true)), none⟩] [4])
 (.ret)))))))))))))
theorem s_laws_FnExactIsAutomorphism : stripF Try.prog 3 [[1, 2], [1, 2, 12], [4], [1, 2, 5], [1, 2, 5], [1, 2, 17], [4], [1, 2, 6], [1, 2, 6, 7], [1, 2, 6, 7, 8], [1, 2, 6, 7, 8, 9], [1, 2, 7, 8, 32], [4], [1, 8, 37], [4], [42], [4], [4]] = some (c_laws_FnExactIsAutomorphism, [.tmp 4], 43) := by kernel_rfl
theorem eqGraph_fn (cols : List Int) (es : List (Int × Int)) (hl : es.length ≤ 2000000) : PFn Try.prog f_laws_eqGraph [.agg [ilS cols, ilE es], .agg [ilS cols, ilE es]] (Bv true) := fun H =>
  (eqGraph_ok H (ilS cols) (ilS cols) (ilE es) (ilE es) cols cols es es rfl rfl rfl rfl (rd_ilS _ _) (rd_ilS _ _) (rd_ilE _ _) (rd_ilE _ _) hl).mono (fun r H' h => by
    obtain ⟨rfl, rfl⟩ := h
    exact ⟨by simp, rfl⟩)
theorem eqInts_fn (xs : List Int) : PFn Try.prog f_laws_eqInt64S [ilS xs, ilS xs] (Bv true) := fun H =>
  (eqInt64S_ok H _ _ xs xs (rd_ilS _ _) (rd_ilS _ _)).mono (fun r H' h => by
    obtain ⟨rfl, rfl⟩ := h
    exact ⟨by simp, rfl⟩)
theorem reads_edges {H : Type} {enc : TypeId × Value → H} {P : Program} {w : World} {held : Bool} {t e i : TypeId} {f0 f1 : Field} {fuel : Nat} {cs : List Value} {x : DataW H × List MemPlace} (ht : P.underlying t = some (.slice e)) (hc : 0 < P.cellsOf e) (he : P.underlying e = some (.struct #[f0, f1])) (hi : P.underlying i = some (.int .i64))
    (e0 : f0.type = i) (e1 : f1.type = i) (o0 : f0.offset = 0) (o1 : f1.offset = P.cellsOf i) (h2 : P.cellsOf e = P.cellsOf i + P.cellsOf i) (h : DataW.trod enc P w 0 (fun _ => true) held fuel t cs = some x) :
    ∃ es : List (Int × Int), Reads w [ilE es] cs ∧ ∀ e ∈ es, (Lit.int .i64 e.1).wf = true ∧ (Lit.int .i64 e.2).wf = true := by
  subst e0
  obtain ⟨ys, k1, k2⟩ := reads_slice (g := fun y : Int × Int => [I y.1, I y.2]) (Q := fun n => (Lit.int .i64 n.1).wf = true ∧ (Lit.int .i64 n.2).wf = true) ht hc (fun fu cs x h => by
    obtain ⟨z0, z1, n, _, hl, h0, h1⟩ := Go.ChangeShapes.trod_struct2 he h
    obtain ⟨a, r0, g0⟩ := reads_int hi h0
    obtain ⟨b, r1, g1⟩ := reads_int (e1 ▸ hi) h1
    exact ⟨(a, b), reads_struct2 hl o0 o1 (e1.symm ▸ h2) r0 r1, g0, g1⟩) h
  exact ⟨ys, k1, k2⟩
theorem lawIsAutomorphism_ok (H : List Blk) (cols : List Int) (es : List (Int × Int)) (p : List Int) : ACalls Try.prog f_laws_FnExactIsAutomorphism [.agg [ilS cols, ilE es], ilS p] H (fun r _ => r = Bv true) := by
  refine ACalls.introB s_laws_FnExactIsAutomorphism (by simp) ?_; intro hB hA; unfold c_laws_FnExactIsAutomorphism; simp (config := { maxSteps := 1000000 }) (disch := (first | omega | (simp only [go_sem]; try omega))) only [go_sem, Nat.reduceAdd, Nat.reduceEqDiff, Nat.reduceLeDiff, Nat.reduceMul, Nat.reduceLT, reduceIte, Int.reduceToNat, w64_id, cast_succ]
  repeat (first | (with_reducible first | refine SW.seq ?_ | refine SW.block ?_ | refine SW.rowC ?_ | refine SW.skip ?_ | refine SW.exit ?_ | intro _ | refine And.intro (by omega) ?_) | simp (config := { maxSteps := 1000000 }) (disch := (first | omega | (simp only [go_sem]; try omega))) only [go_sem, Nat.reduceAdd, Nat.reduceEqDiff, Nat.reduceLeDiff, Nat.reduceMul, Nat.reduceLT, reduceIte, Int.reduceToNat, w64_id, cast_succ])
  (first | refine SW.condD rfl (fun h1 => ?_) (fun h1 => ?_) | refine SW.condN rfl (fun h1 => ?_) (fun h1 => ?_) | refine SW.condNB rfl (fun h1 => ?_) (fun h1 => ?_) | refine SW.condB rfl (fun h1 => ?_) (fun h1 => ?_))
  · repeat (first | (with_reducible first | refine SW.seq ?_ | refine SW.block ?_ | refine SW.rowC ?_ | refine SW.skip ?_ | refine SW.exit ?_ | intro _ | refine And.intro (by omega) ?_) | simp (config := { maxSteps := 1000000 }) (disch := (first | omega | (simp only [go_sem]; try omega))) only [go_sem, Nat.reduceAdd, Nat.reduceEqDiff, Nat.reduceLeDiff, Nat.reduceMul, Nat.reduceLT, reduceIte, Int.reduceToNat, w64_id, cast_succ])
    refine SW.ret ?_; (try simp only [go_sem]); (first | refine FunPost.one ?_ | refine FunPost.two ?_ | refine FunPost.three ?_); (try simp (config := { maxSteps := 1000000 }) (disch := (first | omega | (simp only [go_sem]; try omega))) only [go_sem, Nat.reduceAdd, Nat.reduceEqDiff, Nat.reduceLeDiff, Nat.reduceMul, Nat.reduceLT, reduceIte, Int.reduceToNat, w64_id, cast_succ])
    exact GR.of rfl
  repeat (first | (with_reducible first | refine SW.seq ?_ | refine SW.block ?_ | refine SW.rowC ?_ | refine SW.skip ?_ | refine SW.exit ?_ | intro _ | refine And.intro (by omega) ?_) | simp (config := { maxSteps := 1000000 }) (disch := (first | omega | (simp only [go_sem]; try omega))) only [go_sem, Nat.reduceAdd, Nat.reduceEqDiff, Nat.reduceLeDiff, Nat.reduceMul, Nat.reduceLT, reduceIte, Int.reduceToNat, w64_id, cast_succ])
  refine (szGraph_ok _ cols es _ (by omega) (by omega)).mono ?_
  rintro r H' ⟨⟨z, rfl, g1, g2, g3⟩, rfl⟩
  repeat (first | (with_reducible first | refine SW.seq ?_ | refine SW.block ?_ | refine SW.rowC ?_ | refine SW.skip ?_ | refine SW.exit ?_ | intro _ | refine And.intro (by omega) ?_) | simp (config := { maxSteps := 1000000 }) (disch := (first | omega | (simp only [go_sem]; try omega))) only [go_sem, Nat.reduceAdd, Nat.reduceEqDiff, Nat.reduceLeDiff, Nat.reduceMul, Nat.reduceLT, reduceIte, Int.reduceToNat, w64_id, cast_succ])
  (first | refine SW.condD rfl (fun h2 => ?_) (fun h2 => ?_) | refine SW.condN rfl (fun h2 => ?_) (fun h2 => ?_) | refine SW.condNB rfl (fun h2 => ?_) (fun h2 => ?_) | refine SW.condB rfl (fun h2 => ?_) (fun h2 => ?_))
  · repeat (first | (with_reducible first | refine SW.seq ?_ | refine SW.block ?_ | refine SW.rowC ?_ | refine SW.skip ?_ | refine SW.exit ?_ | intro _ | refine And.intro (by omega) ?_) | simp (config := { maxSteps := 1000000 }) (disch := (first | omega | (simp only [go_sem]; try omega))) only [go_sem, Nat.reduceAdd, Nat.reduceEqDiff, Nat.reduceLeDiff, Nat.reduceMul, Nat.reduceLT, reduceIte, Int.reduceToNat, w64_id, cast_succ])
    refine SW.ret ?_; (try simp only [go_sem]); (first | refine FunPost.one ?_ | refine FunPost.two ?_ | refine FunPost.three ?_); (try simp (config := { maxSteps := 1000000 }) (disch := (first | omega | (simp only [go_sem]; try omega))) only [go_sem, Nat.reduceAdd, Nat.reduceEqDiff, Nat.reduceLeDiff, Nat.reduceMul, Nat.reduceLT, reduceIte, Int.reduceToNat, w64_id, cast_succ])
    exact GR.of rfl
  have g4 := g3 (by omega)
  have t1 := toGraph_fn cols es (by omega) (by omega)
  have t2 := toInt64S_fn p (by omega)
  have hs := specAut_fn cols es p (by omega)
  have hi := implAut_fn cols es p (by omega)
  repeat (first | (with_reducible first | refine SW.seq ?_ | refine SW.block ?_ | refine SW.rowC ?_ | refine SW.skip ?_ | refine SW.exit ?_ | refine PFn.use (t1) ?_ | refine PFn.useq (t1) ?_ | refine PFn.use (t2) ?_ | refine PFn.useq (t2) ?_ | refine PFn.use (hs) ?_ | refine PFn.useq (hs) ?_ | refine PFn.use (hi) ?_ | refine PFn.useq (hi) ?_ | intro _ | refine And.intro (by omega) ?_) | simp (config := { maxSteps := 1000000 }) (disch := (first | omega | (simp only [go_sem]; try omega))) only [go_sem, Nat.reduceAdd, Nat.reduceEqDiff, Nat.reduceLeDiff, Nat.reduceMul, Nat.reduceLT, reduceIte, Int.reduceToNat, w64_id, cast_succ])
  refine SW.condF rfl ?_
  repeat (first | (with_reducible first | refine SW.seq ?_ | refine SW.block ?_ | refine SW.rowC ?_ | refine SW.skip ?_ | refine SW.exit ?_ | refine PFn.use (t1) ?_ | refine PFn.useq (t1) ?_ | refine PFn.use (eqGraph_fn cols es (by omega)) ?_ | refine PFn.useq (eqGraph_fn cols es (by omega)) ?_ | intro _ | refine And.intro (by omega) ?_) | simp (config := { maxSteps := 1000000 }) (disch := (first | omega | (simp only [go_sem]; try omega))) only [go_sem, Nat.reduceAdd, Nat.reduceEqDiff, Nat.reduceLeDiff, Nat.reduceMul, Nat.reduceLT, reduceIte, Int.reduceToNat, w64_id, cast_succ])
  refine SW.condF rfl ?_
  repeat (first | (with_reducible first | refine SW.seq ?_ | refine SW.block ?_ | refine SW.rowC ?_ | refine SW.skip ?_ | refine SW.exit ?_ | refine PFn.use (t2) ?_ | refine PFn.useq (t2) ?_ | refine PFn.use (eqInts_fn p) ?_ | refine PFn.useq (eqInts_fn p) ?_ | intro _ | refine And.intro (by omega) ?_) | simp (config := { maxSteps := 1000000 }) (disch := (first | omega | (simp only [go_sem]; try omega))) only [go_sem, Nat.reduceAdd, Nat.reduceEqDiff, Nat.reduceLeDiff, Nat.reduceMul, Nat.reduceLT, reduceIte, Int.reduceToNat, w64_id, cast_succ])
  refine SW.condF rfl ?_
  repeat (first | (with_reducible first | refine SW.seq ?_ | refine SW.block ?_ | refine SW.rowC ?_ | refine SW.skip ?_ | refine SW.exit ?_ | intro _ | refine And.intro (by omega) ?_) | simp (config := { maxSteps := 1000000 }) (disch := (first | omega | (simp only [go_sem]; try omega))) only [go_sem, Nat.reduceAdd, Nat.reduceEqDiff, Nat.reduceLeDiff, Nat.reduceMul, Nat.reduceLT, reduceIte, Int.reduceToNat, w64_id, cast_succ])
  refine SW.ret ?_; (try simp only [go_sem]); (first | refine FunPost.one ?_ | refine FunPost.two ?_ | refine FunPost.three ?_); (try simp (config := { maxSteps := 1000000 }) (disch := (first | omega | (simp only [go_sem]; try omega))) only [go_sem, Nat.reduceAdd, Nat.reduceEqDiff, Nat.reduceLeDiff, Nat.reduceMul, Nat.reduceLT, reduceIte, Int.reduceToNat, w64_id, cast_succ])
  exact GR.of rfl
end Go.Proofs.Ytmdeibdplpodpaa
