/- The first completion of a partial square. -/
import Derived.Test.YtchehdplcbffmaaProg
import Derived.KernelRfl
import Derived.Test.YtchehdplcbffmaazK34
import Derived.Test.YtchehdplcbffmaazM2
set_option linter.unusedSimpArgs false
set_option linter.unusedVariables false
set_option maxHeartbeats 4000000
set_option maxRecDepth 100000
namespace Go.Proofs.Ytchehdplcbffmaa
open Go.Av
abbrev f_impl_CompletePartial : Nat := 18
def c_impl_CompletePartial : SC :=
 .seq (.reg [
     ⟨(some 4), .mv (.const (.slice none 0 0)), none⟩,
     ⟨(some 5), .mv (.const (.int .i64 0)), none⟩] [0, 1])
 (.seq (.seq (.reg [
     ⟨(some 7), .mv (.tmp 0), none⟩,
     ⟨(some 8), .call 19 [(.tmp 7)], none⟩,
     ⟨(some 9), .un .not (.tmp 8), none⟩] [0, 1, 9])
 (.cond (.tmp 9)
  (.seq (.reg [
      ⟨(some 4), .mv (.const (.slice none 0 0)), none⟩,
      ⟨(some 5), .mv (.const (.int .i64 1)), none⟩] [4, 5])
  (.ret))
  (.skip)))
 (.seq (.seq (.reg [
     ⟨(some 10), .mv (.tmp 1), none⟩,
     ⟨(some 11), .call 41 [(.tmp 10)], none⟩,
     ⟨(some 12), .un .not (.tmp 11), none⟩] [0, 1, 12])
 (.cond (.tmp 12)
  (.seq (.reg [
      ⟨(some 4), .mv (.const (.slice none 0 0)), none⟩,
      ⟨(some 5), .mv (.const (.int .i64 2)), none⟩] [4, 5])
  (.ret))
  (.skip)))
 (.seq (.reg [
     ⟨(some 13), .mv (.tmp 0), none⟩,
     ⟨(some 14), .mv (.tmp 1), none⟩,
     ⟨(some 15), .call 46 [(.tmp 13), (.const (.int .i64 1)), (.tmp 14)], none⟩,
     ⟨(some 6), .mv (.tmp 15), none⟩] [6])
 (.block 0 (.seq (.reg [
      ⟨(some 21), .mv (.tmp 6), none⟩,
      ⟨(some 22), .nilc (.tmp 21), none⟩,
      ⟨(some 23), .faddr 0 (.tmp 22), none⟩,
      ⟨(some 24), .faddr 1 (.tmp 23), none⟩,
      ⟨(some 25), .load 1 false (.tmp 24), none⟩,
      ⟨(some 20), .mv (.tmp 25), none⟩] [6, 20])
  (.cond (.tmp 20)
   (.seq (.reg [
       ⟨(some 4), .mv (.const (.slice none 0 0)), none⟩,
       ⟨(some 5), .mv (.const (.int .i64 5)), none⟩] [4, 5])
   (.ret))
   (.seq (.reg [
       ⟨(some 27), .mv (.tmp 6), none⟩,
       ⟨(some 28), .nilc (.tmp 27), none⟩,
       ⟨(some 29), .faddr 5 (.tmp 28), none⟩,
       ⟨(some 30), .load 1 false (.tmp 29), none⟩,
       ⟨(some 31), .bin .eql (.tmp 30) (.const (.int .i64 0)), none⟩,
       ⟨(some 26), .mv (.tmp 31), none⟩] [6, 26])
   (.cond (.tmp 26)
    (.seq (.reg [
        ⟨(some 4), .mv (.const (.slice none 0 0)), none⟩,
        ⟨(some 5), .mv (.const (.int .i64 3)), none⟩] [4, 5])
    (.ret))
    (.seq (.reg [
        ⟨(some 16), .mv (.tmp 6), none⟩,
        ⟨(some 17), .nilc (.tmp 16), none⟩,
        ⟨(some 18), .faddr 6 (.tmp 17), none⟩,
        ⟨(some 19), .load 1 false (.tmp 18), none⟩,
        ⟨(some 4), .mv (.tmp 19), none⟩,
        ⟨(some 5), .mv (.const (.int .i64 0)), none⟩] [4, 5])
    (.ret))))))))))
theorem s_impl_CompletePartial : stripF Try.prog 18 [[0, 1], [0, 1, 9], [4, 5], [0, 1, 12], [4, 5], [6], [6, 20], [4, 5], [6, 26], [4, 5], [4, 5]] = some (c_impl_CompletePartial, [.tmp 4, .tmp 5], 32) := by kernel_rfl
theorem sq_own {Hb ext : List Blk} {v w b : Nat} {xss : List (List Int)} (hb : b ≤ Hb.length) : OwnSS (Hb ++ (sqB v w Hb.length xss ++ ext)) (Btw b (Hb ++ (sqB v w Hb.length xss ++ ext)).length) (.nm Hb.length v 0 xss.length) xss := by
  have hlen : (Hb ++ (sqB v w Hb.length xss ++ ext)).length = Hb.length + (xss.length + 1 + ext.length) := by simp [sqB_length]
  refine .inl ⟨Hb.length, v, _, _, rfl, ⟨hb, by rw [hlen]; omega⟩, sq_get0, nmsV_length _ _ _, ?_, ?_⟩
  · intro j c xs hc hx
    have hl := (List.getElem?_eq_some_iff.1 hx).1
    rw [sq_cell hl] at hc
    cases hc
    have e : xss.getD j [] = xs := by rw [List.getD_eq_getElem?_getD, hx]; rfl
    have := sq_get (Hb := Hb) (v := v) (w := w) (ext := ext) hl
    rw [e] at this ⊢
    exact .inl ⟨Hb.length + 1 + j, w, _, rfl, ⟨by omega, by rw [hlen]; omega⟩, by omega, this⟩
  · intro i j r v1 o1 l1 v2 o2 l2 hij h1 h2
    have hi : i < xss.length := by have := (List.getElem?_eq_some_iff.1 h1).1; rwa [nmsV_length] at this
    have hj : j < xss.length := by have := (List.getElem?_eq_some_iff.1 h2).1; rwa [nmsV_length] at this
    rw [sq_cell hi] at h1
    rw [sq_cell hj] at h2
    simp only [Option.some.injEq, AV.nm.injEq] at h1 h2
    omega
def cpV (p : List (List Int)) (b : Int) : List (List Int) × Int :=
  if !partB p then ([], 1) else if !(decide (1 ≤ b) && decide (b ≤ 20000)) then ([], 2) else
    if (outS p.length 1 p b.toNat).spent then ([], 5) else match (outS p.length 1 p b.toNat).first with
      | none => ([], 3)
      | some f => (f, 0)
theorem implComplete_fss (p : List (List Int)) (b : Int) : FSS Try.prog f_impl_CompletePartial [ilSS p, I b] (cpV p b).1 (cpV p b).2 := by
  intro H
  have hv := ValidPartial_fn p
  refine ACalls.introB s_impl_CompletePartial (by simp) ?_; intro hB hA; unfold c_impl_CompletePartial; simp (config := { maxSteps := 1000000 }) (disch := (first | omega | (simp only [go_sem]; try omega))) only [go_sem, Nat.reduceAdd, Nat.reduceEqDiff, Nat.reduceLeDiff, Nat.reduceMul, Nat.reduceLT, reduceIte, Int.reduceToNat, w64_id, cast_succ]
  repeat (first | (with_reducible first | refine SW.seq ?_ | refine SW.block ?_ | refine SW.rowC ?_ | refine SW.skip ?_ | refine SW.exit ?_ | refine PFn.use (hv) ?_ | refine PFn.useq (hv) ?_ | intro _ | refine And.intro (by omega) ?_) | simp (config := { maxSteps := 1000000 }) (disch := (first | omega | (simp only [go_sem]; try omega))) only [go_sem, Nat.reduceAdd, Nat.reduceEqDiff, Nat.reduceLeDiff, Nat.reduceMul, Nat.reduceLT, reduceIte, Int.reduceToNat, w64_id, cast_succ])
  (first | refine SW.condD rfl (fun h => ?_) (fun h => ?_) | refine SW.condN rfl (fun h => ?_) (fun h => ?_) | refine SW.condNB rfl (fun h => ?_) (fun h => ?_) | refine SW.condB rfl (fun h => ?_) (fun h => ?_))
  · rw [cpV, h]
    repeat (first | (with_reducible first | refine SW.seq ?_ | refine SW.block ?_ | refine SW.rowC ?_ | refine SW.skip ?_ | refine SW.exit ?_ | intro _ | refine And.intro (by omega) ?_) | simp (config := { maxSteps := 1000000 }) (disch := (first | omega | (simp only [go_sem]; try omega))) only [go_sem, Nat.reduceAdd, Nat.reduceEqDiff, Nat.reduceLeDiff, Nat.reduceMul, Nat.reduceLT, reduceIte, Int.reduceToNat, w64_id, cast_succ])
    refine SW.ret ?_; (try simp only [go_sem]); (first | refine FunPost.one ?_ | refine FunPost.two ?_ | refine FunPost.three ?_); (try simp (config := { maxSteps := 1000000 }) (disch := (first | omega | (simp only [go_sem]; try omega))) only [go_sem, Nat.reduceAdd, Nat.reduceEqDiff, Nat.reduceLeDiff, Nat.reduceMul, Nat.reduceLT, reduceIte, Int.reduceToNat, w64_id, cast_succ])
    exact GR.of nilFSS0
  have hf := partB_facts h
  rw [cpV, h]
  repeat (first | (with_reducible first | refine SW.seq ?_ | refine SW.block ?_ | refine SW.rowC ?_ | refine SW.skip ?_ | refine SW.exit ?_ | refine PFn.use (isBudget_fn _) ?_ | refine PFn.useq (isBudget_fn _) ?_ | intro _ | refine And.intro (by omega) ?_) | simp (config := { maxSteps := 1000000 }) (disch := (first | omega | (simp only [go_sem]; try omega))) only [go_sem, Nat.reduceAdd, Nat.reduceEqDiff, Nat.reduceLeDiff, Nat.reduceMul, Nat.reduceLT, reduceIte, Int.reduceToNat, w64_id, cast_succ])
  (first | refine SW.condD rfl (fun h1 => ?_) (fun h1 => ?_) | refine SW.condN rfl (fun h1 => ?_) (fun h1 => ?_) | refine SW.condNB rfl (fun h1 => ?_) (fun h1 => ?_) | refine SW.condB rfl (fun h1 => ?_) (fun h1 => ?_))
  · rw [h1]
    repeat (first | (with_reducible first | refine SW.seq ?_ | refine SW.block ?_ | refine SW.rowC ?_ | refine SW.skip ?_ | refine SW.exit ?_ | intro _ | refine And.intro (by omega) ?_) | simp (config := { maxSteps := 1000000 }) (disch := (first | omega | (simp only [go_sem]; try omega))) only [go_sem, Nat.reduceAdd, Nat.reduceEqDiff, Nat.reduceLeDiff, Nat.reduceMul, Nat.reduceLT, reduceIte, Int.reduceToNat, w64_id, cast_succ])
    refine SW.ret ?_; (try simp only [go_sem]); (first | refine FunPost.one ?_ | refine FunPost.two ?_ | refine FunPost.three ?_); (try simp (config := { maxSteps := 1000000 }) (disch := (first | omega | (simp only [go_sem]; try omega))) only [go_sem, Nat.reduceAdd, Nat.reduceEqDiff, Nat.reduceLeDiff, Nat.reduceMul, Nat.reduceLT, reduceIte, Int.reduceToNat, w64_id, cast_succ])
    exact GR.of nilFSS0
  rw [h1]
  simp only [Bool.and_eq_true, decide_eq_true_eq] at h1
  obtain ⟨b, rfl⟩ := Int.eq_ofNat_of_zero_le (show 0 ≤ b by omega)
  have hgood := outS_good p.length 1 p b (Nat.le_refl _)
  have hfirst := outS_first p.length 1 p b ⟨rfl, hf.2.2⟩
  repeat (first | (with_reducible first | refine SW.seq ?_ | refine SW.block ?_ | refine SW.rowC ?_ | refine SW.skip ?_ | refine SW.exit ?_ | intro _ | refine And.intro (by omega) ?_) | simp (config := { maxSteps := 1000000 }) (disch := (first | omega | (simp only [go_sem]; try omega))) only [go_sem, Nat.reduceAdd, Nat.reduceEqDiff, Nat.reduceLeDiff, Nat.reduceMul, Nat.reduceLT, reduceIte, Int.reduceToNat, w64_id, cast_succ])
  refine (completions_ok _ p 1 b ⟨hf.1, hf.2.1⟩ hf.2.2 (by omega) (by omega)).mono ?_
  rintro r H1 ⟨rfl, rfl⟩
  have hQ := sqB_length p.length 1 H.length p
  have hg1 := fun (b : Blk) (r : List Blk) => getAt hQ b r
  generalize outS p.length 1 p b = S at *
  obtain ⟨l2, sp2, ct2, fi2⟩ := S
  have e1 : hpC H p.length 1 (empT p p.length (p.length * p.length)) p ⟨l2, sp2, ct2, fi2⟩ = H ++ (sqB p.length 1 H.length p ++ ⟨0, tyCo, 1, [I l2, Bv sp2, .nm H.length p.length 0 p.length, ilS (natL (empT p p.length (p.length * p.length))), I 1, I ct2, fAV p.length H.length fi2]⟩ :: fB p.length H.length fi2) := rfl
  rw [e1]
  cases sp2
  · cases fi2 with
    | none =>
      have h0 : ct2 = 0 := by
        rcases Nat.eq_zero_or_pos ct2 with h2 | h2
        · exact h2
        · have := hgood.2.2.2 h2; simp at this
      subst h0
      repeat (first | (with_reducible first | refine SW.seq ?_ | refine SW.block ?_ | refine SW.rowC ?_ | refine SW.skip ?_ | refine SW.exit ?_ | intro _ | refine And.intro (by omega) ?_) | simp (config := { maxSteps := 1000000 }) (disch := (first | omega | (simp only [go_sem]; try omega))) only [go_sem, Nat.reduceAdd, Nat.reduceEqDiff, Nat.reduceLeDiff, Nat.reduceMul, Nat.reduceLT, reduceIte, Int.reduceToNat, w64_id, cast_succ, hg1])
      refine SW.condF rfl ?_
      repeat (first | (with_reducible first | refine SW.seq ?_ | refine SW.block ?_ | refine SW.rowC ?_ | refine SW.skip ?_ | refine SW.exit ?_ | intro _ | refine And.intro (by omega) ?_) | simp (config := { maxSteps := 1000000 }) (disch := (first | omega | (simp only [go_sem]; try omega))) only [go_sem, Nat.reduceAdd, Nat.reduceEqDiff, Nat.reduceLeDiff, Nat.reduceMul, Nat.reduceLT, reduceIte, Int.reduceToNat, w64_id, cast_succ, hg1])
      refine SW.condT rfl ?_
      repeat (first | (with_reducible first | refine SW.seq ?_ | refine SW.block ?_ | refine SW.rowC ?_ | refine SW.skip ?_ | refine SW.exit ?_ | intro _ | refine And.intro (by omega) ?_) | simp (config := { maxSteps := 1000000 }) (disch := (first | omega | (simp only [go_sem]; try omega))) only [go_sem, Nat.reduceAdd, Nat.reduceEqDiff, Nat.reduceLeDiff, Nat.reduceMul, Nat.reduceLT, reduceIte, Int.reduceToNat, w64_id, cast_succ])
      refine SW.ret ?_; (try simp only [go_sem]); (first | refine FunPost.one ?_ | refine FunPost.two ?_ | refine FunPost.three ?_); (try simp (config := { maxSteps := 1000000 }) (disch := (first | omega | (simp only [go_sem]; try omega))) only [go_sem, Nat.reduceAdd, Nat.reduceEqDiff, Nat.reduceLeDiff, Nat.reduceMul, Nat.reduceLT, reduceIte, Int.reduceToNat, w64_id, cast_succ])
      exact GR.of (nilFSS (ext := _))
    | some f =>
      have h0 : ¬ (ct2 : Int) = 0 := by have : 0 < ct2 := hgood.2.2.1 rfl; omega
      have hff := hfirst f rfl
      repeat (first | (with_reducible first | refine SW.seq ?_ | refine SW.block ?_ | refine SW.rowC ?_ | refine SW.skip ?_ | refine SW.exit ?_ | intro _ | refine And.intro (by omega) ?_) | simp (config := { maxSteps := 1000000 }) (disch := (first | omega | (simp only [go_sem]; try omega))) only [go_sem, Nat.reduceAdd, Nat.reduceEqDiff, Nat.reduceLeDiff, Nat.reduceMul, Nat.reduceLT, reduceIte, Int.reduceToNat, w64_id, cast_succ, hg1])
      refine SW.condF rfl ?_
      repeat (first | (with_reducible first | refine SW.seq ?_ | refine SW.block ?_ | refine SW.rowC ?_ | refine SW.skip ?_ | refine SW.exit ?_ | intro _ | refine And.intro (by omega) ?_) | simp (config := { maxSteps := 1000000 }) (disch := (first | omega | (simp only [go_sem]; try omega))) only [go_sem, Nat.reduceAdd, Nat.reduceEqDiff, Nat.reduceLeDiff, Nat.reduceMul, Nat.reduceLT, reduceIte, Int.reduceToNat, w64_id, cast_succ, hg1, h0])
      refine SW.condF rfl ?_
      have hfa : fAV p.length H.length (some f) = .nm (H.length + (p.length + 2)) p.length 0 p.length := rfl
      repeat (first | (with_reducible first | refine SW.seq ?_ | refine SW.block ?_ | refine SW.rowC ?_ | refine SW.skip ?_ | refine SW.exit ?_ | intro _ | refine And.intro (by omega) ?_) | simp (config := { maxSteps := 1000000 }) (disch := (first | omega | (simp only [go_sem]; try omega))) only [go_sem, Nat.reduceAdd, Nat.reduceEqDiff, Nat.reduceLeDiff, Nat.reduceMul, Nat.reduceLT, reduceIte, Int.reduceToNat, w64_id, cast_succ, hg1, hfa])
      refine SW.ret ?_; (try simp only [go_sem]); (first | refine FunPost.one ?_ | refine FunPost.two ?_ | refine FunPost.three ?_); (try simp (config := { maxSteps := 1000000 }) (disch := (first | omega | (simp only [go_sem]; try omega))) only [go_sem, Nat.reduceAdd, Nat.reduceEqDiff, Nat.reduceLeDiff, Nat.reduceMul, Nat.reduceLT, reduceIte, Int.reduceToNat, w64_id, cast_succ])
      refine GR.of ⟨_, _, rfl, rfl, ?_⟩
      have hHb : (H ++ (sqB p.length 1 H.length p ++ [(⟨0, tyCo, 1, [I l2, Bv false, .nm H.length p.length 0 p.length, ilS (natL (empT p p.length (p.length * p.length))), I 1, I ct2, .nm (H.length + (p.length + 2)) p.length 0 p.length]⟩ : Blk)])).length = H.length + (p.length + 2) := by
        simp [hQ]
      have := sq_own (b := H.length) (Hb := H ++ (sqB p.length 1 H.length p ++ [(⟨0, tyCo, 1, [I l2, Bv false, .nm H.length p.length 0 p.length, ilS (natL (empT p p.length (p.length * p.length))), I 1, I ct2, .nm (H.length + (p.length + 2)) p.length 0 p.length]⟩ : Blk)])) (v := p.length) (w := 1) (xss := f) (ext := []) (by rw [hHb]; omega)
      rw [hHb, hff.1] at this
      have hfb : fB p.length H.length (some f) = sqB p.length 1 (H.length + (p.length + 2)) f := rfl
      rw [hfb]
      simp only [List.append_assoc, List.append_nil, List.singleton_append] at this
      exact this
  · repeat (first | (with_reducible first | refine SW.seq ?_ | refine SW.block ?_ | refine SW.rowC ?_ | refine SW.skip ?_ | refine SW.exit ?_ | intro _ | refine And.intro (by omega) ?_) | simp (config := { maxSteps := 1000000 }) (disch := (first | omega | (simp only [go_sem]; try omega))) only [go_sem, Nat.reduceAdd, Nat.reduceEqDiff, Nat.reduceLeDiff, Nat.reduceMul, Nat.reduceLT, reduceIte, Int.reduceToNat, w64_id, cast_succ, hg1])
    refine SW.condT rfl ?_
    repeat (first | (with_reducible first | refine SW.seq ?_ | refine SW.block ?_ | refine SW.rowC ?_ | refine SW.skip ?_ | refine SW.exit ?_ | intro _ | refine And.intro (by omega) ?_) | simp (config := { maxSteps := 1000000 }) (disch := (first | omega | (simp only [go_sem]; try omega))) only [go_sem, Nat.reduceAdd, Nat.reduceEqDiff, Nat.reduceLeDiff, Nat.reduceMul, Nat.reduceLT, reduceIte, Int.reduceToNat, w64_id, cast_succ])
    refine SW.ret ?_; (try simp only [go_sem]); (first | refine FunPost.one ?_ | refine FunPost.two ?_ | refine FunPost.three ?_); (try simp (config := { maxSteps := 1000000 }) (disch := (first | omega | (simp only [go_sem]; try omega))) only [go_sem, Nat.reduceAdd, Nat.reduceEqDiff, Nat.reduceLeDiff, Nat.reduceMul, Nat.reduceLT, reduceIte, Int.reduceToNat, w64_id, cast_succ])
    exact GR.of (nilFSS (ext := _))
end Go.Proofs.Ytchehdplcbffmaa
