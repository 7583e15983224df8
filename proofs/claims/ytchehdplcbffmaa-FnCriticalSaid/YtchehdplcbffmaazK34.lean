/- Completions, counted: the reference; the law. -/
import Derived.Test.YtchehdplcbffmaaProg
import Derived.KernelRfl
import Derived.Test.YtchehdplcbffmaazK33
import Derived.Test.YtchehdplcbffmaazL7
import Derived.Test.YtchehdplcbffmaazK1
set_option linter.unusedSimpArgs false
set_option linter.unusedVariables false
set_option maxHeartbeats 4000000
set_option maxRecDepth 100000
namespace Go.Proofs.Ytchehdplcbffmaa
open Go.Av
abbrev f_spec_l09Count : Nat := 39
def c_spec_l09Count : SC :=
 .seq (.reg [
     ⟨(some 6), .mv (.const (.int .i64 0)), none⟩,
     ⟨(some 7), .mv (.const (.int .i64 0)), none⟩] [0, 1, 2])
 (.seq (.reg [
     ⟨(some 9), .mv (.tmp 0), none⟩,
     ⟨(some 10), .mv (.tmp 1), none⟩,
     ⟨(some 11), .mv (.tmp 2), none⟩,
     ⟨(some 12), .call 86 [(.tmp 9), (.tmp 10), (.tmp 11)], none⟩,
     ⟨(some 8), .mv (.tmp 12), none⟩] [1, 8])
 (.seq (.seq (.reg [
     ⟨(some 13), .mv (.tmp 8), none⟩,
     ⟨(some 14), .nilc (.tmp 13), none⟩,
     ⟨(some 15), .faddr 2 (.tmp 14), none⟩,
     ⟨(some 16), .load 1 false (.tmp 15), none⟩,
     ⟨(some 17), .mv (.tmp 1), none⟩,
     ⟨(some 18), .bin .lss (.tmp 16) (.tmp 17), none⟩,
     ⟨(some 19), .mv (.tmp 18), none⟩,
     ⟨(some 20), .mv (.tmp 8), (some (19, true))⟩,
     ⟨(some 21), .nilc (.tmp 20), (some (19, true))⟩,
     ⟨(some 22), .faddr 6 (.tmp 21), (some (19, true))⟩,
     ⟨(some 23), .load 1 false (.tmp 22), (some (19, true))⟩,
     ⟨(some 24), .pick (.tmp 19) (.tmp 23) (.const (.bool false)), none⟩] [8, 24])
 (.cond (.tmp 24)
  (.seq (.reg [
      ⟨(some 6), .mv (.const (.int .i64 0)), none⟩,
      ⟨(some 7), .mv (.const (.int .i64 5)), none⟩] [6, 7])
  (.ret))
  (.skip)))
 (.seq (.reg [
     ⟨(some 25), .mv (.tmp 8), none⟩,
     ⟨(some 26), .nilc (.tmp 25), none⟩,
     ⟨(some 27), .faddr 2 (.tmp 26), none⟩,
     ⟨(some 28), .load 1 false (.tmp 27), none⟩,
     ⟨(some 6), .mv (.tmp 28), none⟩,
     ⟨(some 7), .mv (.const (.int .i64 0)), none⟩] [6, 7])
 (.ret))))
theorem s_spec_l09Count : stripF Try.prog 39 [[0, 1, 2], [1, 8], [8, 24], [6, 7], [6, 7]] = some (c_spec_l09Count, [.tmp 6, .tmp 7], 29) := by kernel_rfl
abbrev f_spec_l09Budget : Nat := 44
def c_spec_l09Budget : SC :=
 .seq (.reg [
     ⟨(some 2), .mv (.const (.bool false)), none⟩] [0])
 (.seq (.reg [
     ⟨(some 3), .mv (.tmp 0), none⟩,
     ⟨(some 4), .call 63 [(.tmp 3), (.const (.int .i64 1)), (.const (.int .i64 20000))], none⟩,
     ⟨(some 2), .mv (.tmp 4), none⟩] [2])
 (.ret))
theorem s_spec_l09Budget : stripF Try.prog 44 [[0], [2]] = some (c_spec_l09Budget, [.tmp 2], 5) := by kernel_rfl
abbrev f_spec_l09Search : Nat := 86
def c_spec_l09Search : SC :=
 .seq (.reg [
     ⟨(some 6), .mv (.const (.pointer none)), none⟩] [0, 1, 2])
 (.seq (.reg [
     ⟨(some 8), .mv (.tmp 0), none⟩,
     ⟨(some 9), .call 37 [(.tmp 8)], none⟩,
     ⟨(some 10), .mv (.tmp 1), none⟩,
     ⟨(some 11), .mv (.tmp 2), none⟩,
     ⟨(some 12), .build [(.slice none 0 0), (.slice none 0 0), (.int .i64 0), (.int .i64 0), (.int .i64 0), (.int .i64 0), (.bool false)] [(0, 1, (.tmp 9)), (3, 1, (.tmp 10)), (4, 1, (.tmp 11))], none⟩,
     ⟨(some 13), .box 107 (.tmp 12), none⟩,
     ⟨(some 7), .mv (.tmp 13), none⟩] [7])
 (.seq (.reg [
     ⟨(some 14), .mv (.tmp 7), none⟩,
     ⟨(some 15), .call 107 [(.tmp 14), (.const (.int .i64 0))], none⟩] [7])
 (.seq (.reg [
     ⟨(some 16), .mv (.tmp 7), none⟩,
     ⟨(some 6), .mv (.tmp 16), none⟩] [6])
 (.ret))))
theorem s_spec_l09Search : stripF Try.prog 86 [[0, 1, 2], [7], [7], [6]] = some (c_spec_l09Search, [.tmp 6], 17) := by kernel_rfl
theorem partB_ge {p : List (List Int)} (h : partB p = true) : geM p.length p := by
  simp only [partB, Bool.and_eq_true, decide_eq_true_eq, List.all_eq_true, List.mem_range] at h
  intro x y hx hy
  have := h.2 x hx y hy
  simp only [okC, Bool.and_eq_true, decide_eq_true_eq] at this
  exact this.1.1
theorem outS_good (n lim : Nat) (p : List (List Int)) (b : Nat) (h : 1 ≤ lim) : Good lim (outS n lim p b) := good_srch n lim _ _ _ st0_good (by show 0 < lim; omega) rfl
theorem l09Search_okG (H : List Blk) (p : List (List Int)) (lim b : Nat) (hf : 1 ≤ p.length ∧ p.length ≤ 10 ∧ ∀ r ∈ p, r.length = p.length) (hge : geM p.length p) (hlim : 1 ≤ lim ∧ lim ≤ 1000) (hb : b ≤ 1000000) :
    ACalls Try.prog f_spec_l09Search [ilSS p, I lim, I b] H (fun r H' => ∃ fl, r = .pc (H.length + (p.length + 1)) 0 0 ∧ H' = hpF H p.length lim b p (outS p.length lim p b) fl ∧ (fl = (outS p.length lim p b).spent ∨ (outS p.length lim p b).count = lim)) := by
  have hs := run_ok p.length lim b ⟨hf.1, hf.2.1⟩ (by omega) hb (emR p p.length 0) 0 H p (st0 b) (by omega) rfl ⟨rfl, hf.2.2⟩ hge st0_good st0_first (by show 0 < lim; omega) rfl (Nat.le_refl _)
  rw [emR_zero] at hs
  have e0 : hpF H p.length lim b p (st0 b) false = H ++ (sqB p.length 1 H.length p ++ [⟨0, tyF, 1, [.nm H.length p.length 0 p.length, nilS, I 0, I lim, I b, I 0, Bv false]⟩]) := by
    unfold hpF st0
    simp only [Nat.sub_self]
    rfl
  rw [e0] at hs
  have hQ := sqB_length p.length 1 H.length p
  unfold outS
  generalize srch p.length lim (empT p p.length (p.length * p.length)) p (st0 b) = S at *
  refine ACalls.introB s_spec_l09Search (by simp) ?_; intro hB hA; unfold c_spec_l09Search; simp (config := { maxSteps := 1000000 }) (disch := (first | omega | (simp only [go_sem]; try omega))) only [go_sem, Nat.reduceAdd, Nat.reduceEqDiff, Nat.reduceLeDiff, Nat.reduceMul, Nat.reduceLT, reduceIte, Int.reduceToNat, w64_id, cast_succ]
  repeat (first | (with_reducible first | refine SW.seq ?_ | refine SW.block ?_ | refine SW.rowC ?_ | refine SW.skip ?_ | refine SW.exit ?_ | intro _ | refine And.intro (by omega) ?_) | simp (config := { maxSteps := 1000000 }) (disch := (first | omega | (simp only [go_sem]; try omega))) only [go_sem, Nat.reduceAdd, Nat.reduceEqDiff, Nat.reduceLeDiff, Nat.reduceMul, Nat.reduceLT, reduceIte, Int.reduceToNat, w64_id, cast_succ])
  refine (l06Own_sq _ _ p (rd_ilSS _ _) (by omega) (fun r hr => by have := hf.2.2 r hr; omega)).mono ?_
  rintro r H1 ⟨rfl, rfl⟩
  repeat (first | (with_reducible first | refine SW.seq ?_ | refine SW.block ?_ | refine SW.rowC ?_ | refine SW.skip ?_ | refine SW.exit ?_ | intro _ | refine And.intro (by omega) ?_) | simp (config := { maxSteps := 1000000 }) (disch := (first | omega | (simp only [go_sem]; try omega))) only [go_sem, Nat.reduceAdd, Nat.reduceEqDiff, Nat.reduceLeDiff, Nat.reduceMul, Nat.reduceLT, reduceIte, Int.reduceToNat, w64_id, cast_succ, hQ])
  refine ACalls.mono hs ?_
  rintro r H1 ⟨fl, rfl, hrel⟩
  repeat (first | (with_reducible first | refine SW.seq ?_ | refine SW.block ?_ | refine SW.rowC ?_ | refine SW.skip ?_ | refine SW.exit ?_ | intro _ | refine And.intro (by omega) ?_) | simp (config := { maxSteps := 1000000 }) (disch := (first | omega | (simp only [go_sem]; try omega))) only [go_sem, Nat.reduceAdd, Nat.reduceEqDiff, Nat.reduceLeDiff, Nat.reduceMul, Nat.reduceLT, reduceIte, Int.reduceToNat, w64_id, cast_succ])
  refine SW.ret ?_; (try simp only [go_sem]); (first | refine FunPost.one ?_ | refine FunPost.two ?_ | refine FunPost.three ?_); (try simp (config := { maxSteps := 1000000 }) (disch := (first | omega | (simp only [go_sem]; try omega))) only [go_sem, Nat.reduceAdd, Nat.reduceEqDiff, Nat.reduceLeDiff, Nat.reduceMul, Nat.reduceLT, reduceIte, Int.reduceToNat, w64_id, cast_succ])
  exact GR.of ⟨fl, rfl, rfl, hrel⟩
theorem l09Count_fnG (p : List (List Int)) (lim b : Nat) (hf : 1 ≤ p.length ∧ p.length ≤ 10 ∧ ∀ r ∈ p, r.length = p.length) (hge : geM p.length p) (hlim : 1 ≤ lim ∧ lim ≤ 1000) (hb : b ≤ 1000000) : PFn Try.prog f_spec_l09Count [ilSS p, I lim, I b] (.tup [I (if (outS p.length lim p b).spent then 0 else ((outS p.length lim p b).count : Int)), I (if (outS p.length lim p b).spent then 5 else 0)]) := by
  have hgood := outS_good p.length lim p b hlim.1
  have hsr := fun H => l09Search_okG H p lim b hf hge hlim hb
  intro H; refine ACalls.introB s_spec_l09Count (by simp) ?_; intro hB hA; unfold c_spec_l09Count; simp (config := { maxSteps := 1000000 }) (disch := (first | omega | (simp only [go_sem]; try omega))) only [go_sem, Nat.reduceAdd, Nat.reduceEqDiff, Nat.reduceLeDiff, Nat.reduceMul, Nat.reduceLT, reduceIte, Int.reduceToNat, w64_id, cast_succ]
  repeat (first | (with_reducible first | refine SW.seq ?_ | refine SW.block ?_ | refine SW.rowC ?_ | refine SW.skip ?_ | refine SW.exit ?_ | intro _ | refine And.intro (by omega) ?_) | simp (config := { maxSteps := 1000000 }) (disch := (first | omega | (simp only [go_sem]; try omega))) only [go_sem, Nat.reduceAdd, Nat.reduceEqDiff, Nat.reduceLeDiff, Nat.reduceMul, Nat.reduceLT, reduceIte, Int.reduceToNat, w64_id, cast_succ])
  refine (hsr _).mono ?_
  rintro r H1 ⟨fl, rfl, rfl, hrel⟩
  have hQ := sqB_length p.length 1 H.length p
  have hg1 := fun (b : Blk) (r : List Blk) => getAt hQ b r
  generalize outS p.length lim p b = S at *
  obtain ⟨l2, sp2, ct2, fi2⟩ := S
  have e1 : hpF H p.length lim b p ⟨l2, sp2, ct2, fi2⟩ fl = H ++ (sqB p.length 1 H.length p ++ ⟨0, tyF, 1, [.nm H.length p.length 0 p.length, fAV p.length H.length fi2, I ct2, I lim, I b, I ((b - l2 : Nat) : Int), Bv fl]⟩ :: fB p.length H.length fi2) := rfl
  rw [e1]
  simp only at hrel
  by_cases hcl : ct2 = lim
  · have hsp : sp2 = false := by
      cases sp2 with
      | false => rfl
      | true => have : ct2 < lim := hgood.2.1 rfl; omega
    subst hsp; subst hcl
    have hirr : decide ((ct2 : Int) < ct2) = false := by simp
    repeat (first | (with_reducible first | refine SW.seq ?_ | refine SW.block ?_ | refine SW.rowC ?_ | refine SW.skip ?_ | refine SW.exit ?_ | intro _ | refine And.intro (by omega) ?_) | simp (config := { maxSteps := 1000000 }) (disch := (first | omega | (simp only [go_sem]; try omega))) only [go_sem, Nat.reduceAdd, Nat.reduceEqDiff, Nat.reduceLeDiff, Nat.reduceMul, Nat.reduceLT, reduceIte, Int.reduceToNat, w64_id, cast_succ, hg1, hirr])
    refine SW.condF rfl ?_
    repeat (first | (with_reducible first | refine SW.seq ?_ | refine SW.block ?_ | refine SW.rowC ?_ | refine SW.skip ?_ | refine SW.exit ?_ | intro _ | refine And.intro (by omega) ?_) | simp (config := { maxSteps := 1000000 }) (disch := (first | omega | (simp only [go_sem]; try omega))) only [go_sem, Nat.reduceAdd, Nat.reduceEqDiff, Nat.reduceLeDiff, Nat.reduceMul, Nat.reduceLT, reduceIte, Int.reduceToNat, w64_id, cast_succ, hg1])
    refine SW.ret ?_; (try simp only [go_sem]); (first | refine FunPost.one ?_ | refine FunPost.two ?_ | refine FunPost.three ?_); (try simp (config := { maxSteps := 1000000 }) (disch := (first | omega | (simp only [go_sem]; try omega))) only [go_sem, Nat.reduceAdd, Nat.reduceEqDiff, Nat.reduceLeDiff, Nat.reduceMul, Nat.reduceLT, reduceIte, Int.reduceToNat, w64_id, cast_succ]); (first | (with_reducible refine GR.drop ?_ ?_; (simp only [go_sem, and_self, and_true, true_and, implies_true, List.take_succ_cons, List.take_zero])) | refine GR.of ?_); refine ⟨?_, rfl⟩; (try with_reducible rfl)
  · have hfl : fl = sp2 := by
      rcases hrel with h | h
      · exact h
      · exact absurd h hcl
    subst hfl
    have hltI : (ct2 : Int) < lim := by have : ct2 ≤ lim := hgood.1; omega
    cases fl
    · repeat (first | (with_reducible first | refine SW.seq ?_ | refine SW.block ?_ | refine SW.rowC ?_ | refine SW.skip ?_ | refine SW.exit ?_ | intro _ | refine And.intro (by omega) ?_) | simp (config := { maxSteps := 1000000 }) (disch := (first | omega | (simp only [go_sem]; try omega))) only [go_sem, Nat.reduceAdd, Nat.reduceEqDiff, Nat.reduceLeDiff, Nat.reduceMul, Nat.reduceLT, reduceIte, Int.reduceToNat, w64_id, cast_succ, hg1, hltI])
      refine SW.condF rfl ?_
      repeat (first | (with_reducible first | refine SW.seq ?_ | refine SW.block ?_ | refine SW.rowC ?_ | refine SW.skip ?_ | refine SW.exit ?_ | intro _ | refine And.intro (by omega) ?_) | simp (config := { maxSteps := 1000000 }) (disch := (first | omega | (simp only [go_sem]; try omega))) only [go_sem, Nat.reduceAdd, Nat.reduceEqDiff, Nat.reduceLeDiff, Nat.reduceMul, Nat.reduceLT, reduceIte, Int.reduceToNat, w64_id, cast_succ, hg1])
      refine SW.ret ?_; (try simp only [go_sem]); (first | refine FunPost.one ?_ | refine FunPost.two ?_ | refine FunPost.three ?_); (try simp (config := { maxSteps := 1000000 }) (disch := (first | omega | (simp only [go_sem]; try omega))) only [go_sem, Nat.reduceAdd, Nat.reduceEqDiff, Nat.reduceLeDiff, Nat.reduceMul, Nat.reduceLT, reduceIte, Int.reduceToNat, w64_id, cast_succ]); (first | (with_reducible refine GR.drop ?_ ?_; (simp only [go_sem, and_self, and_true, true_and, implies_true, List.take_succ_cons, List.take_zero])) | refine GR.of ?_); refine ⟨?_, rfl⟩; (try with_reducible rfl)
    · repeat (first | (with_reducible first | refine SW.seq ?_ | refine SW.block ?_ | refine SW.rowC ?_ | refine SW.skip ?_ | refine SW.exit ?_ | intro _ | refine And.intro (by omega) ?_) | simp (config := { maxSteps := 1000000 }) (disch := (first | omega | (simp only [go_sem]; try omega))) only [go_sem, Nat.reduceAdd, Nat.reduceEqDiff, Nat.reduceLeDiff, Nat.reduceMul, Nat.reduceLT, reduceIte, Int.reduceToNat, w64_id, cast_succ, hg1, hltI])
      refine SW.condT rfl ?_
      repeat (first | (with_reducible first | refine SW.seq ?_ | refine SW.block ?_ | refine SW.rowC ?_ | refine SW.skip ?_ | refine SW.exit ?_ | intro _ | refine And.intro (by omega) ?_) | simp (config := { maxSteps := 1000000 }) (disch := (first | omega | (simp only [go_sem]; try omega))) only [go_sem, Nat.reduceAdd, Nat.reduceEqDiff, Nat.reduceLeDiff, Nat.reduceMul, Nat.reduceLT, reduceIte, Int.reduceToNat, w64_id, cast_succ])
      refine SW.ret ?_; (try simp only [go_sem]); (first | refine FunPost.one ?_ | refine FunPost.two ?_ | refine FunPost.three ?_); (try simp (config := { maxSteps := 1000000 }) (disch := (first | omega | (simp only [go_sem]; try omega))) only [go_sem, Nat.reduceAdd, Nat.reduceEqDiff, Nat.reduceLeDiff, Nat.reduceMul, Nat.reduceLT, reduceIte, Int.reduceToNat, w64_id, cast_succ]); (first | (with_reducible refine GR.drop ?_ ?_; (simp only [go_sem, and_self, and_true, true_and, implies_true, List.take_succ_cons, List.take_zero])) | refine GR.of ?_); refine ⟨?_, rfl⟩; (try with_reducible rfl)
theorem l09Count_fn (p : List (List Int)) (lim b : Nat) (hp : partB p = true) (hlim : 1 ≤ lim ∧ lim ≤ 1000) (hb : b ≤ 1000000) : PFn Try.prog f_spec_l09Count [ilSS p, I lim, I b] (.tup [I (if (outS p.length lim p b).spent then 0 else ((outS p.length lim p b).count : Int)), I (if (outS p.length lim p b).spent then 5 else 0)]) :=
  l09Count_fnG p lim b (partB_facts hp) (partB_ge hp) hlim hb
theorem l09Budget_fn (b : Int) : PFn Try.prog f_spec_l09Budget [I b] (Bv (decide (1 ≤ b) && decide (b ≤ 20000))) := by
  intro H; refine ACalls.introB s_spec_l09Budget (by simp) ?_; intro hB hA; unfold c_spec_l09Budget; simp (config := { maxSteps := 1000000 }) (disch := (first | omega | (simp only [go_sem]; try omega))) only [go_sem, Nat.reduceAdd, Nat.reduceEqDiff, Nat.reduceLeDiff, Nat.reduceMul, Nat.reduceLT, reduceIte, Int.reduceToNat, w64_id, cast_succ]
  repeat (first | (with_reducible first | refine SW.seq ?_ | refine SW.block ?_ | refine SW.rowC ?_ | refine SW.skip ?_ | refine SW.exit ?_ | refine PFn.use (l00In_fn _ _ _) ?_ | refine PFn.useq (l00In_fn _ _ _) ?_ | intro _ | refine And.intro (by omega) ?_) | simp (config := { maxSteps := 1000000 }) (disch := (first | omega | (simp only [go_sem]; try omega))) only [go_sem, Nat.reduceAdd, Nat.reduceEqDiff, Nat.reduceLeDiff, Nat.reduceMul, Nat.reduceLT, reduceIte, Int.reduceToNat, w64_id, cast_succ])
  refine SW.ret ?_; (try simp only [go_sem]); (first | refine FunPost.one ?_ | refine FunPost.two ?_ | refine FunPost.three ?_); (try simp (config := { maxSteps := 1000000 }) (disch := (first | omega | (simp only [go_sem]; try omega))) only [go_sem, Nat.reduceAdd, Nat.reduceEqDiff, Nat.reduceLeDiff, Nat.reduceMul, Nat.reduceLT, reduceIte, Int.reduceToNat, w64_id, cast_succ]); (first | (with_reducible refine GR.drop ?_ ?_; (simp only [go_sem, and_self, and_true, true_and, implies_true, List.take_succ_cons, List.take_zero])) | refine GR.of ?_); refine ⟨?_, rfl⟩; (try with_reducible rfl)
end Go.Proofs.Ytchehdplcbffmaa
