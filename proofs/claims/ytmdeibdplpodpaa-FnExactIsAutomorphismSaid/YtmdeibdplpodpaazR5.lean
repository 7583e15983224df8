/- Automorphisms of graphs: the program. -/
import Derived.Test.YtmdeibdplpodpaaProg
import Derived.KernelRfl
import Derived.Test.YtmdeibdplpodpaazR4
set_option linter.unusedSimpArgs false
set_option linter.unusedVariables false
set_option maxHeartbeats 4000000
set_option maxRecDepth 100000
namespace Go.Proofs.Ytmdeibdplpodpaa
open Go.Av
abbrev f_impl_IsAutomorphism : Nat := 10
def c_impl_IsAutomorphism : SC :=
 .seq (.reg [
     ⟨(some 2), .box 30 (.tmp 0), none⟩,
     ⟨(some 4), .mv (.const (.bool false)), none⟩] [1, 2])
 (.seq (.reg [
     ⟨(some 5), .load 2 true (.tmp 2), none⟩,
     ⟨(some 6), .qcall 30 [(.tmp 5)], none⟩,
     ⟨(some 7), .mv (.tmp 6), none⟩,
     ⟨(some 8), .mv (.tmp 1), (some (7, true))⟩,
     ⟨(some 9), .faddr 0 (.tmp 2), (some (7, true))⟩,
     ⟨(some 10), .load 1 false (.tmp 9), (some (7, true))⟩,
     ⟨(some 11), .qcall 32 [(.tmp 10)], (some (7, true))⟩,
     ⟨(some 12), .qcall 31 [(.tmp 8), (.tmp 11)], (some (7, true))⟩,
     ⟨(some 13), .pick (.tmp 7) (.tmp 12) (.const (.bool false)), none⟩,
     ⟨(some 14), .mv (.tmp 13), none⟩,
     ⟨(some 15), .load 2 true (.tmp 2), (some (14, true))⟩,
     ⟨(some 16), .mv (.tmp 1), (some (14, true))⟩,
     ⟨(some 17), .qcall 34 [(.tmp 15), (.tmp 16)], (some (14, true))⟩,
     ⟨(some 18), .load 2 true (.tmp 2), (some (14, true))⟩,
     ⟨(some 19), .qcall 33 [(.tmp 17), (.tmp 18)], (some (14, true))⟩,
     ⟨(some 20), .pick (.tmp 14) (.tmp 19) (.const (.bool false)), none⟩,
     ⟨(some 4), .mv (.tmp 20), none⟩] [4])
 (.ret))
theorem s_impl_IsAutomorphism : stripF Try.prog 10 [[1, 2], [4]] = some (c_impl_IsAutomorphism, [.tmp 4], 21) := by kernel_rfl
theorem OwnE.frozR {H : List Blk} {N : Nat → Prop} {b : Nat} {c : AV} {es : List (Int × Int)} (h : OwnE H N c es) (hN : ∀ r, N r → b ≤ r) : Froz H b c (ilE es) := by
  rcases h with ⟨r, ver, ty, rfl, h1, h2⟩ | ⟨rfl, rfl | rfl⟩
  · exact froz_edges (hN _ h1) h2
  · exact .nil
  · exact .old _ (show Bel b (ilE []) from Bel_ilE b [])
theorem relabeledGraph_fn (cols p : List Int) (es : List (Int × Int)) (hg : grB cols es = true) (hp : ordB cols.length p = true) : PFn Try.prog f_impl_relabeledGraph [.agg [ilS cols, ilE es], ilS p] (.agg [ilS (relC cols p cols.length), ilE (sortU cmpE (es.map fun e => ordE (relE p e)))]) := by
  intro H
  refine (relabeledGraph_ok H cols p es hg hp).gr ?_
  rintro r H1 ⟨ext, v, u, rfl, rfl, hrd, hfz, how, hv1, hv2⟩
  exact GR.froz (froz_agg2 hfz (how.frozR fun r hr => hr.1)) ⟨rfl, rfl⟩
theorem SameGraph_fn (xs ys : List Int) (es fs : List (Int × Int)) (hl : es.length ≤ 2000000) : PFn Try.prog f_impl_SameGraph [.agg [ilS xs, ilE es], .agg [ilS ys, ilE fs]] (Bv (decide (xs = ys) && decide (es = fs))) := fun H =>
  SameGraph_ok H _ _ _ _ xs ys es fs ⟨rfl, rfl⟩ ⟨rfl, rfl⟩ ⟨rfl, rfl⟩ ⟨rfl, rfl⟩ (rd_ilS _ _) (rd_ilS _ _) (rd_ilE _ _) (rd_ilE _ _) hl
def autB (cols : List Int) (es : List (Int × Int)) (p : List Int) : Bool :=
  grB cols es && (ordB cols.length p && (decide (relC cols p cols.length = cols) && decide (sortU cmpE (es.map fun e => ordE (relE p e)) = es)))
theorem implAut_fn (cols : List Int) (es : List (Int × Int)) (p : List Int) (hl : p.length ≤ 2000000) : PFn Try.prog f_impl_IsAutomorphism [.agg [ilS cols, ilE es], ilS p] (Bv (autB cols es p)) := by
  have hv := ValidGraph_fn cols es
  have hsz := size_fn cols
  unfold autB
  cases hg : grB cols es
  · rw [hg] at hv
    intro H; refine ACalls.introB s_impl_IsAutomorphism (by simp) ?_; intro hB hA; unfold c_impl_IsAutomorphism; simp (config := { maxSteps := 1000000 }) (disch := (first | omega | (simp only [go_sem]; try omega))) only [go_sem, Nat.reduceAdd, Nat.reduceEqDiff, Nat.reduceLeDiff, Nat.reduceMul, Nat.reduceLT, reduceIte, Int.reduceToNat, w64_id, cast_succ]
    repeat (first | (with_reducible first | refine SW.seq ?_ | refine SW.block ?_ | refine SW.rowC ?_ | refine SW.skip ?_ | refine SW.exit ?_ | refine PFn.use (hv) ?_ | refine PFn.useq (hv) ?_ | intro _ | refine And.intro (by omega) ?_) | simp (config := { maxSteps := 1000000 }) (disch := (first | omega | (simp only [go_sem]; try omega))) only [go_sem, Nat.reduceAdd, Nat.reduceEqDiff, Nat.reduceLeDiff, Nat.reduceMul, Nat.reduceLT, reduceIte, Int.reduceToNat, w64_id, cast_succ])
    refine SW.ret ?_; (try simp only [go_sem]); (first | refine FunPost.one ?_ | refine FunPost.two ?_ | refine FunPost.three ?_); (try simp (config := { maxSteps := 1000000 }) (disch := (first | omega | (simp only [go_sem]; try omega))) only [go_sem, Nat.reduceAdd, Nat.reduceEqDiff, Nat.reduceLeDiff, Nat.reduceMul, Nat.reduceLT, reduceIte, Int.reduceToNat, w64_id, cast_succ]); (first | (with_reducible refine GR.drop ?_ ?_; (simp only [go_sem, and_self, and_true, true_and, implies_true, List.take_succ_cons, List.take_zero])) | refine GR.of ?_); refine ⟨?_, rfl⟩; (try with_reducible rfl)
  rw [hg] at hv
  have hgf : cols.length ≤ 64 ∧ es.length ≤ 512 := by
    unfold grB colsB at hg
    simp only [Bool.and_eq_true, decide_eq_true_eq] at hg
    exact ⟨hg.2.1.1, hg.2.2⟩
  have ho := isOrder_fn p cols.length hl (by omega)
  cases hp : ordB cols.length p
  · rw [hp] at ho
    intro H; refine ACalls.introB s_impl_IsAutomorphism (by simp) ?_; intro hB hA; unfold c_impl_IsAutomorphism; simp (config := { maxSteps := 1000000 }) (disch := (first | omega | (simp only [go_sem]; try omega))) only [go_sem, Nat.reduceAdd, Nat.reduceEqDiff, Nat.reduceLeDiff, Nat.reduceMul, Nat.reduceLT, reduceIte, Int.reduceToNat, w64_id, cast_succ]
    repeat (first | (with_reducible first | refine SW.seq ?_ | refine SW.block ?_ | refine SW.rowC ?_ | refine SW.skip ?_ | refine SW.exit ?_ | refine PFn.use (hv) ?_ | refine PFn.useq (hv) ?_ | refine PFn.use (hsz) ?_ | refine PFn.useq (hsz) ?_ | refine PFn.use (ho) ?_ | refine PFn.useq (ho) ?_ | intro _ | refine And.intro (by omega) ?_) | simp (config := { maxSteps := 1000000 }) (disch := (first | omega | (simp only [go_sem]; try omega))) only [go_sem, Nat.reduceAdd, Nat.reduceEqDiff, Nat.reduceLeDiff, Nat.reduceMul, Nat.reduceLT, reduceIte, Int.reduceToNat, w64_id, cast_succ])
    refine SW.ret ?_; (try simp only [go_sem]); (first | refine FunPost.one ?_ | refine FunPost.two ?_ | refine FunPost.three ?_); (try simp (config := { maxSteps := 1000000 }) (disch := (first | omega | (simp only [go_sem]; try omega))) only [go_sem, Nat.reduceAdd, Nat.reduceEqDiff, Nat.reduceLeDiff, Nat.reduceMul, Nat.reduceLT, reduceIte, Int.reduceToNat, w64_id, cast_succ]); (first | (with_reducible refine GR.drop ?_ ?_; (simp only [go_sem, and_self, and_true, true_and, implies_true, List.take_succ_cons, List.take_zero])) | refine GR.of ?_); refine ⟨?_, rfl⟩; (try with_reducible rfl)
  rw [hp] at ho
  have hr := relabeledGraph_fn cols p es hg hp
  have hsl : (sortU cmpE (es.map fun e => ordE (relE p e))).length ≤ 2000000 := by
    have := sortU_len (cf := cmpE) (es.map fun e => ordE (relE p e))
    rw [List.length_map] at this
    omega
  have hs := SameGraph_fn (relC cols p cols.length) cols (sortU cmpE (es.map fun e => ordE (relE p e))) es hsl
  have hbe := fun b => Bel_ilE b es
  intro H; refine ACalls.introB s_impl_IsAutomorphism (by simp) ?_; intro hB hA; unfold c_impl_IsAutomorphism; simp (config := { maxSteps := 1000000 }) (disch := (first | omega | (simp only [go_sem]; try omega))) only [go_sem, Nat.reduceAdd, Nat.reduceEqDiff, Nat.reduceLeDiff, Nat.reduceMul, Nat.reduceLT, reduceIte, Int.reduceToNat, w64_id, cast_succ]
  repeat (first | (with_reducible first | refine SW.seq ?_ | refine SW.block ?_ | refine SW.rowC ?_ | refine SW.skip ?_ | refine SW.exit ?_ | refine PFn.use (hv) ?_ | refine PFn.useq (hv) ?_ | refine PFn.use (hsz) ?_ | refine PFn.useq (hsz) ?_ | refine PFn.use (ho) ?_ | refine PFn.useq (ho) ?_ | refine PFn.use (hr) ?_ | refine PFn.useq (hr) ?_ | refine PFn.use (hs) ?_ | refine PFn.useq (hs) ?_ | intro _ | refine And.intro (by omega) ?_) | simp (config := { maxSteps := 1000000 }) (disch := (first | omega | (simp only [go_sem]; try omega))) only [go_sem, Nat.reduceAdd, Nat.reduceEqDiff, Nat.reduceLeDiff, Nat.reduceMul, Nat.reduceLT, reduceIte, Int.reduceToNat, w64_id, cast_succ])
  refine SW.ret ?_; (try simp only [go_sem]); (first | refine FunPost.one ?_ | refine FunPost.two ?_ | refine FunPost.three ?_); (try simp (config := { maxSteps := 1000000 }) (disch := (first | omega | (simp only [go_sem]; try omega))) only [go_sem, Nat.reduceAdd, Nat.reduceEqDiff, Nat.reduceLeDiff, Nat.reduceMul, Nat.reduceLT, reduceIte, Int.reduceToNat, w64_id, cast_succ]); (first | (with_reducible refine GR.drop ?_ ?_; (simp only [go_sem, and_self, and_true, true_and, implies_true, List.take_succ_cons, List.take_zero])) | refine GR.of ?_); refine ⟨?_, rfl⟩; (try with_reducible rfl)
end Go.Proofs.Ytmdeibdplpodpaa
