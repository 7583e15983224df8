/- GenerateSystems: both functions, the law. -/
import Derived.Test.YthogadbnddmkdaaGreatProg
import Derived.KernelRfl
import Derived.Test.YthogadbnddmkdaaGreatzZ4
import Derived.Test.YthogadbnddmkdaaGreatzY8
import Derived.Test.YthogadbnddmkdaaGreatzYB
import Derived.Test.YthogadbnddmkdaaGreatzZP
set_option linter.unusedSimpArgs false
set_option linter.unusedVariables false
set_option maxHeartbeats 4000000
set_option maxRecDepth 100000
namespace Go.Proofs.YthogadbnddmkdaaGreat
open Go.Av
abbrev f_impl_GenerateSystems : Nat := 9
def c_impl_GenerateSystems : SC :=
 .seq (.reg [
     ⟨(some 8), .mv (.const (.slice none 0 0)), none⟩,
     ⟨(some 9), .mv (.const (.int .i64 0)), none⟩] [0, 1, 2, 3])
 (.seq (.seq (.reg [
     ⟨(some 11), .mv (.tmp 0), none⟩,
     ⟨(some 12), .mv (.tmp 1), none⟩,
     ⟨(some 13), .mv (.tmp 2), none⟩,
     ⟨(some 14), .mv (.tmp 3), none⟩,
     ⟨(some 15), .call 35 [(.tmp 11), (.tmp 12), (.tmp 13), (.tmp 14)], none⟩,
     ⟨(some 16), .un .not (.tmp 15), none⟩] [0, 1, 2, 3, 16])
 (.cond (.tmp 16)
  (.seq (.reg [
      ⟨(some 8), .mv (.const (.slice none 0 0)), none⟩,
      ⟨(some 9), .mv (.const (.int .i64 2)), none⟩] [8, 9])
  (.ret))
  (.skip)))
 (.seq (.reg [
     ⟨(some 17), .bslice 31 1 1 [(.slice none 0 0)] [(0, (.const (.slice none 0 0)))], none⟩,
     ⟨(some 10), .mv (.tmp 17), none⟩] [0, 1, 2, 3, 10])
 (.seq (.seq (.reg [
     ⟨(some 18), .mv (.tmp 2), none⟩,
     ⟨(some 19), .mv (.const (.int .i64 0)), none⟩] [0, 1, 3, 10, 18, 19])
 (.block 0 (.loop [0, 1, 3, 10, 18, 19]
   (.seq (.reg [
       ⟨(some 20), .bin .lss (.tmp 19) (.tmp 18), none⟩] [0, 1, 3, 10, 18, 19, 20])
   (.seq (.cond (.tmp 20)
    (.skip)
    (.exit 0))
   (.seq (.block 1 (.reg [
        ⟨(some 21), .mv (.tmp 0), none⟩,
        ⟨(some 22), .mv (.tmp 10), none⟩,
        ⟨(some 23), .mv (.tmp 1), none⟩,
        ⟨(some 24), .mv (.tmp 3), none⟩,
        ⟨(some 25), .call 36 [(.tmp 21), (.tmp 22), (.tmp 23), (.tmp 24)], none⟩,
        ⟨(some 10), .mv (.tmp 25), none⟩] [0, 1, 3, 10, 18, 19]))
   (.reg [
       ⟨(some 26), .bin .add (.tmp 19) (.const (.int .i64 1)), none⟩,
       ⟨(some 19), .mv (.tmp 26), none⟩] [0, 1, 3, 10, 18, 19])))))))
 (.seq (.reg [
     ⟨(some 27), .mv (.tmp 10), none⟩,
     ⟨(some 8), .mv (.tmp 27), none⟩,
     ⟨(some 9), .mv (.const (.int .i64 0)), none⟩] [8, 9])
 (.ret)))))
theorem s_impl_GenerateSystems : stripF Tryz.prog 9 [[0, 1, 2, 3], [0, 1, 2, 3, 16], [8, 9], [0, 1, 2, 3, 10], [0, 1, 3, 10, 18, 19], [0, 1, 3, 10, 18, 19], [0, 1, 3, 10, 18, 19, 20], [0, 1, 3, 10, 18, 19], [0, 1, 3, 10, 18, 19], [8, 9]] = some (c_impl_GenerateSystems, [.tmp 8, .tmp 9], 28) := by kernel_rfl
abbrev f_spec_GenerateSystems : Nat := 11
def c_spec_GenerateSystems : SC :=
 .seq (.reg [
     ⟨(some 8), .mv (.const (.slice none 0 0)), none⟩,
     ⟨(some 9), .mv (.const (.int .i64 0)), none⟩] [0, 1, 2, 3])
 (.seq (.seq (.reg [
     ⟨(some 10), .mv (.tmp 0), none⟩,
     ⟨(some 11), .mv (.tmp 1), none⟩,
     ⟨(some 12), .mv (.tmp 2), none⟩,
     ⟨(some 13), .mv (.tmp 3), none⟩,
     ⟨(some 14), .call 40 [(.tmp 10), (.tmp 11), (.tmp 12), (.tmp 13)], none⟩,
     ⟨(some 15), .un .not (.tmp 14), none⟩] [0, 1, 2, 3, 15])
 (.cond (.tmp 15)
  (.seq (.reg [
      ⟨(some 8), .mv (.const (.slice none 0 0)), none⟩,
      ⟨(some 9), .mv (.const (.int .i64 2)), none⟩] [8, 9])
  (.ret))
  (.skip)))
 (.seq (.reg [
     ⟨(some 16), .mv (.tmp 0), none⟩,
     ⟨(some 17), .mv (.tmp 1), none⟩,
     ⟨(some 18), .mv (.tmp 2), none⟩,
     ⟨(some 19), .mv (.tmp 3), none⟩,
     ⟨(some 20), .call 41 [(.tmp 16), (.tmp 17), (.tmp 18), (.tmp 19)], none⟩,
     ⟨(some 8), .mv (.tmp 20), none⟩,
     ⟨(some 9), .mv (.const (.int .i64 0)), none⟩] [8, 9])
 (.ret)))
theorem s_spec_GenerateSystems : stripF Tryz.prog 11 [[0, 1, 2, 3], [0, 1, 2, 3, 15], [8, 9], [8, 9]] = some (c_spec_GenerateSystems, [.tmp 8, .tmp 9], 21) := by kernel_rfl
def genV (v k m s : Int) : List (List (List Int)) := if packB v k m s = true then genN v.toNat k.toNat s m.toNat else []
def genC (v k m s : Int) : Int := if packB v k m s = true then 0 else 2
theorem genV_len (v k m s : Int) : (genV v k m s).length ≤ 1048576 ∧ total3 (genV v k m s) ≤ 1048576 * 120 := by
  unfold genV
  split
  · rename_i h
    obtain ⟨h1, h2, h3, h4, h5, h6⟩ := packB_t h
    obtain ⟨ga, go⟩ := genN_ok (v := v.toNat) (k := k.toNat) (s := s) (by omega) (by omega) m.toNat
    have gc := pack_count (by omega) (by omega) ga go
    refine ⟨gc, ?_⟩
    have := total3_le (c := 120) (x3 := genN v.toNat k.toNat s m.toNat) (fun x hx => by
      obtain ⟨q1, -, q3⟩ := go x hx
      have := total_le6 (c := 6) (xss := x) (fun y hy => by have := (q3 y hy).1; omega)
      omega)
    omega
  · simp [total3]
theorem implGenerate_fx (v k m s : Int) : FX Tryz.prog f_impl_GenerateSystems [I v, I k, I m, I s] (genV v k m s) (genC v k m s) := by
  have hp := isPacking_fn v k m s
  unfold genV genC
  intro H
  cases hb : packB v k m s
  · rw [hb] at hp
    simp only [Bool.false_eq_true, if_false]
    refine ACalls.introB s_impl_GenerateSystems (by simp) ?_; intro hB hA; unfold c_impl_GenerateSystems; simp (config := { maxSteps := 1000000 }) (disch := (first | omega | (simp only [go_sem]; try omega))) only [go_sem, Nat.reduceAdd, Nat.reduceEqDiff, Nat.reduceLeDiff, Nat.reduceMul, Nat.reduceLT, reduceIte, Int.reduceToNat, w64_id, cast_succ]
    repeat (first | (with_reducible first | refine SW.seq ?_ | refine SW.block ?_ | refine SW.rowC ?_ | refine SW.skip ?_ | refine SW.exit ?_ | refine PFn.use (hp) ?_ | refine PFn.useq (hp) ?_ | intro _ | refine And.intro (by omega) ?_) | simp (config := { maxSteps := 1000000 }) (disch := (first | omega | (simp only [go_sem]; try omega))) only [go_sem, Nat.reduceAdd, Nat.reduceEqDiff, Nat.reduceLeDiff, Nat.reduceMul, Nat.reduceLT, reduceIte, Int.reduceToNat, w64_id, cast_succ])
    refine SW.condT rfl ?_
    repeat (first | (with_reducible first | refine SW.seq ?_ | refine SW.block ?_ | refine SW.rowC ?_ | refine SW.skip ?_ | refine SW.exit ?_ | intro _ | refine And.intro (by omega) ?_) | simp (config := { maxSteps := 1000000 }) (disch := (first | omega | (simp only [go_sem]; try omega))) only [go_sem, Nat.reduceAdd, Nat.reduceEqDiff, Nat.reduceLeDiff, Nat.reduceMul, Nat.reduceLT, reduceIte, Int.reduceToNat, w64_id, cast_succ])
    refine SW.ret ?_; (try simp only [go_sem]); (first | refine FunPost.one ?_ | refine FunPost.two ?_ | refine FunPost.three ?_); (try simp (config := { maxSteps := 1000000 }) (disch := (first | omega | (simp only [go_sem]; try omega))) only [go_sem, Nat.reduceAdd, Nat.reduceEqDiff, Nat.reduceLeDiff, Nat.reduceMul, Nat.reduceLT, reduceIte, Int.reduceToNat, w64_id, cast_succ])
    exact GR.of ⟨[], _, by simp, rfl, .inr ⟨rfl, rfl⟩⟩
  · rw [hb] at hp
    simp only [if_true]
    obtain ⟨h1, h2, h3, h4, h5, h6⟩ := packB_t hb
    obtain ⟨v, rfl⟩ := Int.eq_ofNat_of_zero_le (show 0 ≤ v by omega)
    obtain ⟨k, rfl⟩ := Int.eq_ofNat_of_zero_le (show 0 ≤ k by omega)
    obtain ⟨m, rfl⟩ := Int.eq_ofNat_of_zero_le h5
    simp only [Int.toNat_natCast]
    refine ACalls.introB s_impl_GenerateSystems (by simp) ?_; intro hB hA; unfold c_impl_GenerateSystems; simp (config := { maxSteps := 1000000 }) (disch := (first | omega | (simp only [go_sem]; try omega))) only [go_sem, Nat.reduceAdd, Nat.reduceEqDiff, Nat.reduceLeDiff, Nat.reduceMul, Nat.reduceLT, reduceIte, Int.reduceToNat, w64_id, cast_succ]
    repeat (first | (with_reducible first | refine SW.seq ?_ | refine SW.block ?_ | refine SW.rowC ?_ | refine SW.skip ?_ | refine SW.exit ?_ | refine PFn.use (hp) ?_ | refine PFn.useq (hp) ?_ | intro _ | refine And.intro (by omega) ?_) | simp (config := { maxSteps := 1000000 }) (disch := (first | omega | (simp only [go_sem]; try omega))) only [go_sem, Nat.reduceAdd, Nat.reduceEqDiff, Nat.reduceLeDiff, Nat.reduceMul, Nat.reduceLT, reduceIte, Int.reduceToNat, w64_id, cast_succ])
    refine SW.condF rfl ?_
    repeat (first | (with_reducible first | refine SW.seq ?_ | refine SW.block ?_ | refine SW.rowC ?_ | refine SW.skip ?_ | refine SW.exit ?_ | intro _ | refine And.intro (by omega) ?_) | simp (config := { maxSteps := 1000000 }) (disch := (first | omega | (simp only [go_sem]; try omega))) only [go_sem, Nat.reduceAdd, Nat.reduceEqDiff, Nat.reduceLeDiff, Nat.reduceMul, Nat.reduceLT, reduceIte, Int.reduceToNat, w64_id, cast_succ])
    have own0 : OwnX (H ++ [(⟨0, 31, 1, [nilS]⟩ : Blk)]) (Btw H.length (H ++ [(⟨0, 31, 1, [nilS]⟩ : Blk)]).length) (.nm H.length 0 0 1) [[]] := by
      refine .inl ⟨H.length, 0, 31, [nilS], fun j r => False, rfl, ⟨by omega, by simp⟩, by simp, rfl, ?_, by simp, by simp⟩
      intro j c xs g1 g2
      cases j with
      | succ j => simp at g1
      | zero =>
        simp at g1 g2
        subst g1; subst g2
        exact .inr ⟨rfl, .inl rfl⟩
    refine SW.loopE (fun E0 H0 q E' H' => ∃ (j : Nat) (w : AV), j ≤ m ∧ q = m - j ∧ E' = aput (aput E0 19 (I j)) 10 w ∧ OwnX H' (Btw H.length H'.length) w (genN v k s j) ∧ H.length ≤ H'.length ∧ ∀ i, i < H.length → H'[i]? = H[i]?) m
      ⟨0, _, by omega, by omega, rfl, own0, by simp, fun i hi => by rw [List.getElem?_append_left hi]⟩ ?_
    rintro q E' H1 ⟨j, w, hj, rfl, rfl, own, hle, hpre⟩
    obtain ⟨ga, go⟩ := genN_ok (v := v) (k := k) (s := s) (by omega) (by omega) j
    have gc := pack_count (by omega) (by omega) ga go
    have gs : genN v k s (j + 1) = genS v k s (genN v k s j) := rfl
    have hone := own.one
    simp (config := { maxSteps := 1000000 }) (disch := (first | omega | (simp only [go_sem]; try omega))) only [go_sem, Nat.reduceAdd, Nat.reduceEqDiff, Nat.reduceLeDiff, Nat.reduceMul, Nat.reduceLT, reduceIte, Int.reduceToNat, w64_id, cast_succ]
    repeat (first | (with_reducible first | refine SW.seq ?_ | refine SW.block ?_ | refine SW.rowC ?_ | refine SW.skip ?_ | refine SW.exit ?_ | intro _ | refine And.intro (by omega) ?_) | simp (config := { maxSteps := 1000000 }) (disch := (first | omega | (simp only [go_sem]; try omega))) only [go_sem, Nat.reduceAdd, Nat.reduceEqDiff, Nat.reduceLeDiff, Nat.reduceMul, Nat.reduceLT, reduceIte, Int.reduceToNat, w64_id, cast_succ])
    (first | refine SW.condD rfl (fun h => ?_) (fun h => ?_) | refine SW.condN rfl (fun h => ?_) (fun h => ?_) | refine SW.condNB rfl (fun h => ?_) (fun h => ?_) | refine SW.condB rfl (fun h => ?_) (fun h => ?_))
    · repeat (first | (with_reducible first | refine SW.seq ?_ | refine SW.block ?_ | refine SW.rowC ?_ | refine SW.skip ?_ | refine SW.exit ?_ | intro _ | refine And.intro (by omega) ?_) | simp (config := { maxSteps := 1000000 }) (disch := (first | omega | (simp only [go_sem]; try omega))) only [go_sem, Nat.reduceAdd, Nat.reduceEqDiff, Nat.reduceLeDiff, Nat.reduceMul, Nat.reduceLT, reduceIte, Int.reduceToNat, w64_id, cast_succ])
      refine ((extended_own v k s (genN v k s j) j (by omega) (by omega) (by omega) (by omega) go gc).lend (.cons (froz_I' _) (.cons (own.froz (fun r _ => Nat.zero_le _)) (.cons (froz_I' _) (.cons (froz_I' _) .nil))))).mono ?_
      rintro r H2 ⟨ext, hH2, own2⟩
      have hl2 : H1.length ≤ H2.length := by rw [hH2]; simp
      have h12 : ∀ i, i < H1.length → H2[i]? = H1[i]? := fun i hi => by rw [hH2, List.getElem?_append_left hi]
      repeat (first | (with_reducible first | refine SW.seq ?_ | refine SW.block ?_ | refine SW.rowC ?_ | refine SW.skip ?_ | refine SW.exit ?_ | intro _ | refine And.intro (by omega) ?_) | simp (config := { maxSteps := 1000000 }) (disch := (first | omega | (simp only [go_sem]; try omega))) only [go_sem, Nat.reduceAdd, Nat.reduceEqDiff, Nat.reduceLeDiff, Nat.reduceMul, Nat.reduceLT, reduceIte, Int.reduceToNat, w64_id, cast_succ, own2.one.1, own2.one.2])
      refine SLoop.next (m - (j + 1)) (by omega) ⟨j + 1, r, by omega, rfl, by simp [go_sem], ?_, by omega, fun i hi => ?_⟩
      · rw [gs]; exact own2.weak (fun r h1 h2 => ⟨by have := h1.1; omega, h2⟩)
      · rw [h12 i (by omega)]; exact hpre i hi
    · have : j = m := by omega
      subst this
      repeat (first | (with_reducible first | refine SW.seq ?_ | refine SW.block ?_ | refine SW.rowC ?_ | refine SW.skip ?_ | refine SW.exit ?_ | intro _ | refine And.intro (by omega) ?_) | simp (config := { maxSteps := 1000000 }) (disch := (first | omega | (simp only [go_sem]; try omega))) only [go_sem, Nat.reduceAdd, Nat.reduceEqDiff, Nat.reduceLeDiff, Nat.reduceMul, Nat.reduceLT, reduceIte, Int.reduceToNat, w64_id, cast_succ])
      refine SW.ret ?_; (try simp only [go_sem]); (first | refine FunPost.one ?_ | refine FunPost.two ?_ | refine FunPost.three ?_); (try simp (config := { maxSteps := 1000000 }) (disch := (first | omega | (simp only [go_sem]; try omega))) only [go_sem, Nat.reduceAdd, Nat.reduceEqDiff, Nat.reduceLeDiff, Nat.reduceMul, Nat.reduceLT, reduceIte, Int.reduceToNat, w64_id, cast_succ])
      obtain ⟨ext, hext⟩ := prefix_of hle hpre
      exact GR.of ⟨ext, w, hext, rfl, own⟩
theorem specGenerate_fn (v k m s : Int) : PFn Tryz.prog f_spec_GenerateSystems [I v, I k, I m, I s] (.tup [il3 (genV v k m s), I (genC v k m s)]) := by
  have hp := l27Range_fn v k m s
  unfold genV genC
  cases hb : packB v k m s
  · rw [hb] at hp
    simp only [Bool.false_eq_true, if_false]
    intro H; refine ACalls.introB s_spec_GenerateSystems (by simp) ?_; intro hB hA; unfold c_spec_GenerateSystems; simp (config := { maxSteps := 1000000 }) (disch := (first | omega | (simp only [go_sem]; try omega))) only [go_sem, Nat.reduceAdd, Nat.reduceEqDiff, Nat.reduceLeDiff, Nat.reduceMul, Nat.reduceLT, reduceIte, Int.reduceToNat, w64_id, cast_succ]
    repeat (first | (with_reducible first | refine SW.seq ?_ | refine SW.block ?_ | refine SW.rowC ?_ | refine SW.skip ?_ | refine SW.exit ?_ | refine PFn.use (hp) ?_ | refine PFn.useq (hp) ?_ | intro _ | refine And.intro (by omega) ?_) | simp (config := { maxSteps := 1000000 }) (disch := (first | omega | (simp only [go_sem]; try omega))) only [go_sem, Nat.reduceAdd, Nat.reduceEqDiff, Nat.reduceLeDiff, Nat.reduceMul, Nat.reduceLT, reduceIte, Int.reduceToNat, w64_id, cast_succ])
    refine SW.condT rfl ?_
    repeat (first | (with_reducible first | refine SW.seq ?_ | refine SW.block ?_ | refine SW.rowC ?_ | refine SW.skip ?_ | refine SW.exit ?_ | intro _ | refine And.intro (by omega) ?_) | simp (config := { maxSteps := 1000000 }) (disch := (first | omega | (simp only [go_sem]; try omega))) only [go_sem, Nat.reduceAdd, Nat.reduceEqDiff, Nat.reduceLeDiff, Nat.reduceMul, Nat.reduceLT, reduceIte, Int.reduceToNat, w64_id, cast_succ])
    refine SW.ret ?_; (try simp only [go_sem]); (first | refine FunPost.one ?_ | refine FunPost.two ?_ | refine FunPost.three ?_); (try simp (config := { maxSteps := 1000000 }) (disch := (first | omega | (simp only [go_sem]; try omega))) only [go_sem, Nat.reduceAdd, Nat.reduceEqDiff, Nat.reduceLeDiff, Nat.reduceMul, Nat.reduceLT, reduceIte, Int.reduceToNat, w64_id, cast_succ])
    exact GR.froz0 (r' := .tup [il3 [], I 2]) (froz_tup2 .nil (froz_I' _)) ⟨rfl, rfl⟩
  · rw [hb] at hp
    simp only [if_true]
    obtain ⟨h1, h2, h3, h4, h5, h6⟩ := packB_t hb
    obtain ⟨v, rfl⟩ := Int.eq_ofNat_of_zero_le (show 0 ≤ v by omega)
    obtain ⟨k, rfl⟩ := Int.eq_ofNat_of_zero_le (show 0 ≤ k by omega)
    obtain ⟨m, rfl⟩ := Int.eq_ofNat_of_zero_le h5
    simp only [Int.toNat_natCast]
    have hg := l27Generate_fn v k m s (by omega) (by omega) (by omega) (by omega)
    intro H; refine ACalls.introB s_spec_GenerateSystems (by simp) ?_; intro hB hA; unfold c_spec_GenerateSystems; simp (config := { maxSteps := 1000000 }) (disch := (first | omega | (simp only [go_sem]; try omega))) only [go_sem, Nat.reduceAdd, Nat.reduceEqDiff, Nat.reduceLeDiff, Nat.reduceMul, Nat.reduceLT, reduceIte, Int.reduceToNat, w64_id, cast_succ]
    repeat (first | (with_reducible first | refine SW.seq ?_ | refine SW.block ?_ | refine SW.rowC ?_ | refine SW.skip ?_ | refine SW.exit ?_ | refine PFn.use (hp) ?_ | refine PFn.useq (hp) ?_ | intro _ | refine And.intro (by omega) ?_) | simp (config := { maxSteps := 1000000 }) (disch := (first | omega | (simp only [go_sem]; try omega))) only [go_sem, Nat.reduceAdd, Nat.reduceEqDiff, Nat.reduceLeDiff, Nat.reduceMul, Nat.reduceLT, reduceIte, Int.reduceToNat, w64_id, cast_succ])
    refine SW.condF rfl ?_
    repeat (first | (with_reducible first | refine SW.seq ?_ | refine SW.block ?_ | refine SW.rowC ?_ | refine SW.skip ?_ | refine SW.exit ?_ | refine PFn.use (hg) ?_ | refine PFn.useq (hg) ?_ | intro _ | refine And.intro (by omega) ?_) | simp (config := { maxSteps := 1000000 }) (disch := (first | omega | (simp only [go_sem]; try omega))) only [go_sem, Nat.reduceAdd, Nat.reduceEqDiff, Nat.reduceLeDiff, Nat.reduceMul, Nat.reduceLT, reduceIte, Int.reduceToNat, w64_id, cast_succ])
    refine SW.ret ?_; (try simp only [go_sem]); (first | refine FunPost.one ?_ | refine FunPost.two ?_ | refine FunPost.three ?_); (try simp (config := { maxSteps := 1000000 }) (disch := (first | omega | (simp only [go_sem]; try omega))) only [go_sem, Nat.reduceAdd, Nat.reduceEqDiff, Nat.reduceLeDiff, Nat.reduceMul, Nat.reduceLT, reduceIte, Int.reduceToNat, w64_id, cast_succ]); (first | (with_reducible refine GR.drop ?_ ?_; (simp only [go_sem, and_self, and_true, true_and, implies_true, List.take_succ_cons, List.take_zero])) | refine GR.of ?_); refine ⟨?_, rfl⟩; (try with_reducible rfl)
end Go.Proofs.YthogadbnddmkdaaGreat
