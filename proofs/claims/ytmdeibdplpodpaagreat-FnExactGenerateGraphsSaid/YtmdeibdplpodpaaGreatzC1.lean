/- Lists copied. -/
import Derived.Test.YtmdeibdplpodpaaGreatProg
import Derived.KernelRfl
import Derived.Test.YtmdeibdplpodpaaGreatzG1
import Derived.Test.YtmdeibdplpodpaaGreatzK50
import Derived.Test.YtmdeibdplpodpaaGreatzK8
import Derived.Test.YtmdeibdplpodpaaGreatzM2
set_option linter.unusedSimpArgs false
set_option linter.unusedVariables false
set_option maxHeartbeats 4000000
set_option maxRecDepth 100000
namespace Go.Proofs.YtmdeibdplpodpaaGreat
open Go.Av
abbrev f_impl_copyLists : Nat := 78
def c_impl_copyLists : SC :=
 .seq (.reg [
     ⟨(some 2), .mv (.const (.slice none 0 0)), none⟩] [0])
 (.seq (.reg [
     ⟨(some 3), .mv (.const (.slice none 0 0)), none⟩] [0, 3])
 (.seq (.seq (.reg [
     ⟨(some 6), .mv (.tmp 0), none⟩,
     ⟨(some 7), .len (.tmp 6), none⟩,
     ⟨(some 8), .mv (.const (.int .i64 0)), none⟩] [3, 6, 7, 8])
 (.block 0 (.loop [3, 6, 7, 8]
   (.seq (.reg [
       ⟨(some 9), .bin .lss (.tmp 8) (.tmp 7), none⟩] [3, 6, 7, 8, 9])
   (.seq (.cond (.tmp 9)
    (.skip)
    (.exit 0))
   (.seq (.block 1 (.seq (.reg [
        ⟨(some 10), .iaddr 1 (.tmp 6) (.tmp 8), none⟩,
        ⟨(some 11), .load 1 false (.tmp 10), none⟩,
        ⟨(some 5), .mv (.tmp 11), none⟩] [3, 5, 6, 7, 8])
    (.reg [
        ⟨(some 12), .mv (.tmp 3), none⟩,
        ⟨(some 13), .mv (.tmp 5), none⟩,
        ⟨(some 14), .call 113 [(.tmp 13)], none⟩,
        ⟨(some 15), .bslice 22 1 1 [(.slice none 0 0)] [(0, (.tmp 14))], none⟩,
        ⟨(some 16), .app 22 1 24 (.tmp 12) (.tmp 15), none⟩,
        ⟨(some 3), .mv (.tmp 16), none⟩] [3, 6, 7, 8])))
   (.reg [
       ⟨(some 17), .bin .add (.tmp 8) (.const (.int .i64 1)), none⟩,
       ⟨(some 8), .mv (.tmp 17), none⟩] [3, 6, 7, 8])))))))
 (.seq (.reg [
     ⟨(some 18), .mv (.tmp 3), none⟩,
     ⟨(some 2), .mv (.tmp 18), none⟩] [2])
 (.ret))))
theorem s_impl_copyLists : stripF Tryz.prog 78 [[0], [0, 3], [3, 6, 7, 8], [3, 6, 7, 8], [3, 6, 7, 8, 9], [3, 5, 6, 7, 8], [3, 6, 7, 8], [3, 6, 7, 8], [2]] = some (c_impl_copyLists, [.tmp 2], 19) := by kernel_rfl
theorem copyLists_grow (H : List Blk) (xss : List (List Int)) (hl : xss.length ≤ 2000000) (hr : ∀ x ∈ xss, x.length ≤ 2000000) : ACalls Tryz.prog f_impl_copyLists [ilSS xss] H (fun r H' => ∃ ext, H' = H ++ ext ∧ GrowSS H' H.length tyLL r xss) := by
  refine ACalls.introB s_impl_copyLists (by simp) ?_; intro hB hA; unfold c_impl_copyLists; simp (config := { maxSteps := 1000000 }) (disch := (first | omega | (simp only [go_sem]; try omega))) only [go_sem, Nat.reduceAdd, Nat.reduceEqDiff, Nat.reduceLeDiff, Nat.reduceMul, Nat.reduceLT, reduceIte, Int.reduceToNat, w64_id, cast_succ]
  repeat (first | (with_reducible first | refine SW.seq ?_ | refine SW.block ?_ | refine SW.rowC ?_ | refine SW.skip ?_ | refine SW.exit ?_ | intro _ | refine And.intro (by omega) ?_) | simp (config := { maxSteps := 1000000 }) (disch := (first | omega | (simp only [go_sem]; try omega))) only [go_sem, Nat.reduceAdd, Nat.reduceEqDiff, Nat.reduceLeDiff, Nat.reduceMul, Nat.reduceLT, reduceIte, Int.reduceToNat, w64_id, cast_succ])
  refine SW.loopE (fun E0 H0 q E' H' => ∃ (pre post : List (List Int)) (v : AV), xss = pre ++ post ∧ q = post.length ∧ E' = aput (aput E0 8 (I pre.length)) 3 v ∧ GrowSS H' H.length tyLL v pre ∧ H.length ≤ H'.length ∧ ∀ j, j < H.length → H'[j]? = H[j]?) xss.length ⟨[], xss, nilS, rfl, rfl, rfl, .inl ⟨rfl, rfl⟩, by simp, fun _ _ => rfl⟩ ?_
  rintro q E' H1 ⟨pre, post, v, hpp, rfl, rfl, b2, b3, b4⟩
  have hpl : pre.length ≤ 2000000 := by rw [hpp] at hl; simp at hl; omega
  simp (config := { maxSteps := 1000000 }) (disch := (first | omega | (simp only [go_sem]; try omega))) only [go_sem, Nat.reduceAdd, Nat.reduceEqDiff, Nat.reduceLeDiff, Nat.reduceMul, Nat.reduceLT, reduceIte, Int.reduceToNat, w64_id, cast_succ]
  repeat (first | (with_reducible first | refine SW.seq ?_ | refine SW.block ?_ | refine SW.rowC ?_ | refine SW.skip ?_ | refine SW.exit ?_ | intro _ | refine And.intro (by omega) ?_) | simp (config := { maxSteps := 1000000 }) (disch := (first | omega | (simp only [go_sem]; try omega))) only [go_sem, Nat.reduceAdd, Nat.reduceEqDiff, Nat.reduceLeDiff, Nat.reduceMul, Nat.reduceLT, reduceIte, Int.reduceToNat, w64_id, cast_succ])
  (first | refine SW.condD rfl (fun h => ?_) (fun h => ?_) | refine SW.condN rfl (fun h => ?_) (fun h => ?_) | refine SW.condNB rfl (fun h => ?_) (fun h => ?_) | refine SW.condB rfl (fun h => ?_) (fun h => ?_))
  · obtain ⟨y, post, rfl, hg, -⟩ := consOf (d := []) hpp (by omega)
    have hyl := hr y (by rw [hpp]; simp)
    repeat (first | (with_reducible first | refine SW.seq ?_ | refine SW.block ?_ | refine SW.rowC ?_ | refine SW.skip ?_ | refine SW.exit ?_ | intro _ | refine And.intro (by omega) ?_) | simp (config := { maxSteps := 1000000 }) (disch := (first | omega | (simp only [go_sem]; try omega))) only [go_sem, Nat.reduceAdd, Nat.reduceEqDiff, Nat.reduceLeDiff, Nat.reduceMul, Nat.reduceLT, reduceIte, Int.reduceToNat, w64_id, cast_succ, hg])
    refine (clone_ok _ (ilS y) y (rd_ilS _ _) (by omega)).mono ?_
    rintro r H2 ⟨ver, rfl, rfl⟩
    repeat (first | (with_reducible first | refine SW.seq ?_ | refine SW.block ?_ | refine SW.rowC ?_ | refine SW.skip ?_ | refine SW.exit ?_ | intro _ | refine And.intro (by omega) ?_) | simp (config := { maxSteps := 1000000 }) (disch := (first | omega | (simp only [go_sem]; try omega))) only [go_sem, Nat.reduceAdd, Nat.reduceEqDiff, Nat.reduceLeDiff, Nat.reduceMul, Nat.reduceLT, reduceIte, Int.reduceToNat, w64_id, cast_succ])
    refine GrowSS.appG (H1 := H1) (r := H1.length) (rv := ver) (rty := 2) (xs := y) rfl b2 b3 (Nat.le_refl _) (by omega) (fun j b _ hb => by rw [List.getElem?_append_left (List.getElem?_eq_some_iff.1 hb).1]; exact hb) (by rw [hget0]; rfl) ?_
    intro v3 H3 d1 d2 d3
    have d4 : H1.length ≤ H3.length := by simp at d2; omega
    have hcell := d1.cell1
    repeat (first | (with_reducible first | refine SW.seq ?_ | refine SW.block ?_ | refine SW.rowC ?_ | refine SW.skip ?_ | refine SW.exit ?_ | intro _ | refine And.intro (by omega) ?_) | simp (config := { maxSteps := 1000000 }) (disch := (first | omega | (simp only [go_sem]; try omega))) only [go_sem, Nat.reduceAdd, Nat.reduceEqDiff, Nat.reduceLeDiff, Nat.reduceMul, Nat.reduceLT, reduceIte, Int.reduceToNat, w64_id, cast_succ, hcell])
    refine SLoop.next post.length (by simp) ⟨pre ++ [y], post, v3, by simp [hpp], rfl, by simp [go_sem], d1, by omega, fun j hj => ?_⟩
    rw [d3 j hj, List.getElem?_append_left (by omega)]; exact b4 j hj
  · obtain ⟨rfl, rfl⟩ := nilOf hpp (by omega)
    repeat (first | (with_reducible first | refine SW.seq ?_ | refine SW.block ?_ | refine SW.rowC ?_ | refine SW.skip ?_ | refine SW.exit ?_ | intro _ | refine And.intro (by omega) ?_) | simp (config := { maxSteps := 1000000 }) (disch := (first | omega | (simp only [go_sem]; try omega))) only [go_sem, Nat.reduceAdd, Nat.reduceEqDiff, Nat.reduceLeDiff, Nat.reduceMul, Nat.reduceLT, reduceIte, Int.reduceToNat, w64_id, cast_succ])
    refine SW.ret ?_; (try simp only [go_sem]); (first | refine FunPost.one ?_ | refine FunPost.two ?_ | refine FunPost.three ?_); (try simp (config := { maxSteps := 1000000 }) (disch := (first | omega | (simp only [go_sem]; try omega))) only [go_sem, Nat.reduceAdd, Nat.reduceEqDiff, Nat.reduceLeDiff, Nat.reduceMul, Nat.reduceLT, reduceIte, Int.reduceToNat, w64_id, cast_succ])
    obtain ⟨ext, he⟩ := prefix_of b3 b4
    exact GR.of ⟨ext, he, b2⟩
theorem copyLists_own (H : List Blk) (xss : List (List Int)) (hl : xss.length ≤ 2000000) (hr : ∀ x ∈ xss, x.length ≤ 2000000) : ACalls Tryz.prog f_impl_copyLists [ilSS xss] H (fun r H' => ∃ ext, H' = H ++ ext ∧ OwnSS H' (Btw H.length H'.length) r xss) :=
  (copyLists_grow H xss hl hr).mono (fun r H' ⟨ext, he, g⟩ => ⟨ext, he, g.own (Nat.le_refl _)⟩)
end Go.Proofs.YtmdeibdplpodpaaGreat
