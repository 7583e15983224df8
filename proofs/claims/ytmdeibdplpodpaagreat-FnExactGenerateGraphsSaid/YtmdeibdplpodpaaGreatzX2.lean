/- Designs with other points; invariant designs. -/
import Derived.Test.YtmdeibdplpodpaaGreatzC1
import Derived.Test.YtmdeibdplpodpaaGreatzS3
import Derived.Test.YtmdeibdplpodpaaGreatzVA
import Derived.Test.YtmdeibdplpodpaaGreatzK20
import Derived.Test.YtmdeibdplpodpaaGreatzK50
import Derived.Test.YtmdeibdplpodpaaGreatzL8
import Derived.Test.YtmdeibdplpodpaaGreatzK18
import Derived.Test.YtmdeibdplpodpaaGreatzK19
import Derived.Test.YtmdeibdplpodpaaGreatzU1
import Derived.Test.YtmdeibdplpodpaaGreatzK8
import Derived.Test.YtmdeibdplpodpaaGreatzSZ
import Derived.Test.YtmdeibdplpodpaaGreatzK2
import Derived.Test.YtmdeibdplpodpaaGreatzL1
import Derived.Test.YtmdeibdplpodpaaGreatzK1
set_option linter.unusedSimpArgs false
set_option linter.unusedVariables false
set_option maxHeartbeats 4000000
set_option maxRecDepth 100000
namespace Go.Proofs.YtmdeibdplpodpaaGreat
open Go.Av
theorem clone_fnX (x : List Int) (hl : x.length ≤ 2000000) : PFn Tryz.prog f_slices_Clone_Lint64_int64 [ilS x] (ilS x) := fun H =>
  (clone_ok H _ x (rd_ilS _ _) (by omega)).gr (by
    rintro r H' ⟨ver, rfl, rfl⟩
    exact GR.froz (froz_rowI (ver := ver) (ty := 2) (Nat.le_refl _) (by simp)) ⟨rfl, rfl⟩)
theorem copyLists_fz (H : List Blk) (a : AV) (xss : List (List Int)) (ha : aview H a = some (xss.length, xss.map ilS)) (hl : xss.length ≤ 1000000) (hr : ∀ x ∈ xss, x.length ≤ 2000000) : ACalls Tryz.prog f_impl_copyLists [a] H (fun r H' => ∃ ver, r = .nm H.length ver 0 xss.length ∧ H' = H ++ [⟨ver, tyLL, 1, xss.map ilS⟩]) := by
  have hav : ∀ ext, aview (H ++ ext) a = some (xss.length, xss.map ilS) := fun ext => aview_append ha ext
  refine ACalls.introB s_impl_copyLists (by simp) ?_; intro hB hA; unfold c_impl_copyLists; simp (config := { maxSteps := 1000000 }) (disch := (first | omega | (simp only [go_sem]; try omega))) only [go_sem, Nat.reduceAdd, Nat.reduceEqDiff, Nat.reduceLeDiff, Nat.reduceMul, Nat.reduceLT, reduceIte, Int.reduceToNat, w64_id, cast_succ]
  have hab : ∀ k, H.length ≤ k → Bel k a := fun k hk => (hA a (by simp)).mono hk
  have hab1 := hab (H.length + 1) (by omega)
  repeat (first | (with_reducible first | refine SW.seq ?_ | refine SW.block ?_ | refine SW.rowC ?_ | refine SW.skip ?_ | refine SW.exit ?_ | intro _ | refine And.intro (by omega) ?_) | simp (config := { maxSteps := 1000000 }) (disch := (first | omega | (simp only [go_sem]; try omega))) only [go_sem, Nat.reduceAdd, Nat.reduceEqDiff, Nat.reduceLeDiff, Nat.reduceMul, Nat.reduceLT, reduceIte, Int.reduceToNat, w64_id, cast_succ, ha, hav])
  refine SW.ghost (Gh.name 3 22 1 rfl) ?_
  simp (config := { maxSteps := 1000000 }) (disch := (first | omega | (simp only [go_sem]; try omega))) only [go_sem, Nat.reduceAdd, Nat.reduceEqDiff, Nat.reduceLeDiff, Nat.reduceMul, Nat.reduceLT, reduceIte, Int.reduceToNat, w64_id, cast_succ]
  refine SW.loopE (fun E0 H0 q E' H' => ∃ (pre post : List (List Int)) (ver : Nat), xss = pre ++ post ∧ q = post.length ∧ E' = aput (aput E0 8 (I pre.length)) 3 (.nm H.length ver 0 pre.length) ∧ H' = H ++ [⟨ver, tyLL, 1, pre.map ilS⟩]) xss.length ⟨[], xss, 0, rfl, rfl, rfl, rfl⟩ ?_
  rintro q E' H' ⟨pre, post, ver, hpp, rfl, rfl, rfl⟩
  have hpl : pre.length ≤ 1000000 := by rw [hpp] at hl; simp at hl; omega
  have htl : (pre.map ilS).take pre.length = pre.map ilS := List.take_of_length_le (by simp)
  simp (config := { maxSteps := 1000000 }) (disch := (first | omega | (simp only [go_sem]; try omega))) only [go_sem, Nat.reduceAdd, Nat.reduceEqDiff, Nat.reduceLeDiff, Nat.reduceMul, Nat.reduceLT, reduceIte, Int.reduceToNat, w64_id, cast_succ]
  repeat (first | (with_reducible first | refine SW.seq ?_ | refine SW.block ?_ | refine SW.rowC ?_ | refine SW.skip ?_ | refine SW.exit ?_ | intro _ | refine And.intro (by omega) ?_) | simp (config := { maxSteps := 1000000 }) (disch := (first | omega | (simp only [go_sem]; try omega))) only [go_sem, Nat.reduceAdd, Nat.reduceEqDiff, Nat.reduceLeDiff, Nat.reduceMul, Nat.reduceLT, reduceIte, Int.reduceToNat, w64_id, cast_succ, hav])
  (first | refine SW.condD rfl (fun h => ?_) (fun h => ?_) | refine SW.condN rfl (fun h => ?_) (fun h => ?_) | refine SW.condNB rfl (fun h => ?_) (fun h => ?_) | refine SW.condB rfl (fun h => ?_) (fun h => ?_))
  · obtain ⟨y, post, rfl, hg, -⟩ := consOf (d := []) hpp (by omega)
    repeat (first | (with_reducible first | refine SW.seq ?_ | refine SW.block ?_ | refine SW.rowC ?_ | refine SW.skip ?_ | refine SW.exit ?_ | refine PFn.use (clone_fnX y (hr y (by rw [hpp]; simp))) ?_ | refine PFn.useq (clone_fnX y (hr y (by rw [hpp]; simp))) ?_ | intro _ | refine And.intro (by omega) ?_) | simp (config := { maxSteps := 1000000 }) (disch := (first | omega | (simp only [go_sem]; try omega))) only [go_sem, Nat.reduceAdd, Nat.reduceEqDiff, Nat.reduceLeDiff, Nat.reduceMul, Nat.reduceLT, reduceIte, Int.reduceToNat, w64_id, cast_succ, hav, hg, htl])
    refine SLoop.nextT 1 post.length hB (by omega) (by simp) (by simp) ?_ ?_ ⟨pre ++ [y], post, ver + 1, by simp [hpp], rfl, ?_, ?_⟩
    · (simp only [go_sem, Nat.reduceAdd, Nat.reduceEqDiff, reduceIte, go_sem, and_self, and_true, true_and, implies_true, List.take_succ_cons, List.take_zero, and_true, true_and, hab1]; try omega)
    · (simp only [go_sem, Nat.reduceAdd, Nat.reduceEqDiff, reduceIte, go_sem, and_self, and_true, true_and, implies_true, List.take_succ_cons, List.take_zero, and_true, true_and, hab1]; try omega)
    · simp [go_sem]
    · simp
  · obtain ⟨rfl, rfl⟩ := nilOf hpp (by omega)
    repeat (first | (with_reducible first | refine SW.seq ?_ | refine SW.block ?_ | refine SW.rowC ?_ | refine SW.skip ?_ | refine SW.exit ?_ | intro _ | refine And.intro (by omega) ?_) | simp (config := { maxSteps := 1000000 }) (disch := (first | omega | (simp only [go_sem]; try omega))) only [go_sem, Nat.reduceAdd, Nat.reduceEqDiff, Nat.reduceLeDiff, Nat.reduceMul, Nat.reduceLT, reduceIte, Int.reduceToNat, w64_id, cast_succ])
    refine SW.ret ?_; (try simp only [go_sem]); (first | refine FunPost.one ?_ | refine FunPost.two ?_ | refine FunPost.three ?_); (try simp (config := { maxSteps := 1000000 }) (disch := (first | omega | (simp only [go_sem]; try omega))) only [go_sem, Nat.reduceAdd, Nat.reduceEqDiff, Nat.reduceLeDiff, Nat.reduceMul, Nat.reduceLT, reduceIte, Int.reduceToNat, w64_id, cast_succ])
    exact GR.of ⟨ver, rfl, rfl⟩
end Go.Proofs.YtmdeibdplpodpaaGreat
