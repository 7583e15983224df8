/- Orbits of all sets: both functions, with codes. -/
import Derived.Test.YthogadbnddmkdaaGreatProg
import Derived.KernelRfl
import Derived.Test.YthogadbnddmkdaaGreatzY4
import Derived.Test.YthogadbnddmkdaaGreatzY0
import Derived.Test.YthogadbnddmkdaaGreatzYA
import Derived.Test.YthogadbnddmkdaaGreatzY2
set_option linter.unusedSimpArgs false
set_option linter.unusedVariables false
set_option maxHeartbeats 4000000
set_option maxRecDepth 100000
namespace Go.Proofs.YthogadbnddmkdaaGreat
open Go.Av
abbrev f_impl_SubsetOrbits : Nat := 21
def c_impl_SubsetOrbits : SC :=
 .seq (.reg [
     ⟨(some 2), .box 44 (.tmp 0), none⟩,
     ⟨(some 4), .mv (.const (.slice none 0 0)), none⟩,
     ⟨(some 5), .mv (.const (.int .i64 0)), none⟩] [1, 2])
 (.seq (.seq (.reg [
     ⟨(some 7), .load 2 true (.tmp 2), none⟩,
     ⟨(some 8), .mv (.tmp 1), none⟩,
     ⟨(some 9), .bslice 2 1 1 [(.int .i64 0)] [(0, (.tmp 8))], none⟩,
     ⟨(some 10), .call 60 [(.tmp 7), (.tmp 9)], none⟩,
     ⟨(some 6), .mv (.tmp 10), none⟩] [1, 2, 6])
 (.seq (.reg [
     ⟨(some 11), .mv (.tmp 6), none⟩,
     ⟨(some 12), .bin .neq (.tmp 11) (.const (.int .i64 0)), none⟩] [1, 2, 6, 12])
 (.cond (.tmp 12)
  (.seq (.reg [
      ⟨(some 13), .mv (.tmp 6), none⟩,
      ⟨(some 4), .mv (.const (.slice none 0 0)), none⟩,
      ⟨(some 5), .mv (.tmp 13), none⟩] [4, 5])
  (.ret))
  (.skip))))
 (.seq (.reg [
     ⟨(some 14), .load 2 true (.tmp 2), none⟩,
     ⟨(some 15), .mv (.tmp 1), none⟩,
     ⟨(some 16), .call 61 [(.tmp 14), (.tmp 15)], none⟩,
     ⟨(some 4), .mv (.tmp 16), none⟩,
     ⟨(some 5), .mv (.const (.int .i64 0)), none⟩] [4, 5])
 (.ret)))
theorem s_impl_SubsetOrbits : stripF Tryz.prog 21 [[1, 2], [1, 2, 6], [1, 2, 6, 12], [4, 5], [4, 5]] = some (c_impl_SubsetOrbits, [.tmp 4, .tmp 5], 17) := by kernel_rfl
attribute [go_sem] Bel_il3
def FX (P : Program) (f : FuncId) (args : List AV) (x3 : List (List (List Int))) (code : Int) : Prop :=
  ∀ H, ACalls P f args H fun r H' => ∃ ext v, H' = H ++ ext ∧ r = .tup [v, I code] ∧ OwnX H' (Btw H.length H'.length) v x3
theorem FX.lend {P : Program} {f : FuncId} {args args' : List AV} {x3 : List (List (List Int))} {code : Int} (h : FX P f args' x3 code) {H : List Blk} (hf : Frozs H args args') :
    ACalls P f args H fun r H' => ∃ ext v, H' = H ++ ext ∧ r = .tup [v, I code] ∧ OwnX H' (Btw H.length H'.length) v x3 := by
  refine ((h []).lend hf ?_).mono ?_
  · rintro r H0 ⟨ext, v, rfl, rfl, ho⟩
    exact .tup2 ho.ov (.I _)
  · rintro r H' ⟨r0, H0, ⟨ext, v, rfl, rfl, ho⟩, rfl, rfl⟩
    refine ⟨_, _, rfl, ?_, ho.sh (H := H) (N' := Btw H.length (H ++ _).length) (fun i hi => ?_)⟩
    · simp [sh_tup, sh_In]
    · unfold Btw at hi ⊢
      simp at hi ⊢; omega
noncomputable def orbsV (n : Int) (els : List (List Int)) (k : Int) : List (List (List Int)) := (orbL n.toNat k.toNat els (ch n.toNat k.toNat)).1
noncomputable def soV (n : Int) (els : List (List Int)) (k : Int) : List (List (List Int)) := if askV n els k = 0 then orbsV n els k else []
theorem askV_zero {n : Int} {els : List (List Int)} {k : Int} (h : askV n els k = 0) : grpOk n els ∧ 0 ≤ k ∧ k ≤ n ∧ ch n.toNat k.toNat ≤ 2000 ∧ n = ((n.toNat : Nat) : Int) ∧ k = ((k.toNat : Nat) : Int) := by
  unfold askV at h
  split at h
  · rename_i hg
    have hg' := grpB_t.1 hg
    have hn := hg'.1
    split at h
    · rename_i hk
      split at h
      · omega
      · rename_i hc
        have en : n = ((n.toNat : Nat) : Int) := by omega
        have ek : k = ((k.toNat : Nat) : Int) := by omega
        rw [en, ek, chooseI_ch _ _ (by omega) (by omega)] at hc
        exact ⟨hg', hk.1, hk.2, by omega, en, ek⟩
    · omega
  · omega
theorem soV_len (n : Int) (els : List (List Int)) (k : Int) : (soV n els k).length ≤ 2000 := by
  unfold soV
  split
  · rename_i h
    have hc := (askV_zero h).2.2.2.1
    have := (orbL_len n.toNat k.toNat els (ch n.toNat k.toNat)).2
    unfold orbsV
    omega
  · simp
theorem implSubsetOrbits_fx (n : Int) (els : List (List Int)) (k : Int) (hl : ∀ x ∈ els, x.length ≤ 2000000) (hl2 : els.length ≤ 2000000) :
    FX Tryz.prog f_impl_SubsetOrbits [.agg [I n, ilSS els], I k] (soV n els k) (askV n els k) := by
  intro H
  have hq := countable_fn n els [k] hl hl2
  rw [askL_one] at hq
  unfold soV
  by_cases h0 : askV n els k = 0
  · rw [if_pos h0]
    rw [h0] at hq ⊢
    obtain ⟨hg, k0, k1, hc, en, ek⟩ := askV_zero h0
    have hs := fun H => subsetOrbits_own H n.toNat k.toNat els (by have := hg.1; omega) hg.2.1.1 hg.2.1.2 (hg.2.2.1) (by omega) hc
    rw [← en, ← ek] at hs
    change ∀ H, ACalls Tryz.prog f_impl_subsetOrbits [.agg [I n, ilSS els], I k] H (fun r H' => ∃ ext, H' = H ++ ext ∧ OwnX H' (Btw H.length H'.length) r (orbsV n els k)) at hs
    generalize orbsV n els k = V at *
    refine ACalls.introB s_impl_SubsetOrbits (by simp) ?_; intro hB hA; unfold c_impl_SubsetOrbits; simp (config := { maxSteps := 1000000 }) (disch := (first | omega | (simp only [go_sem]; try omega))) only [go_sem, Nat.reduceAdd, Nat.reduceEqDiff, Nat.reduceLeDiff, Nat.reduceMul, Nat.reduceLT, reduceIte, Int.reduceToNat, w64_id, cast_succ]
    repeat (first | (with_reducible first | refine SW.seq ?_ | refine SW.block ?_ | refine SW.rowC ?_ | refine SW.skip ?_ | refine SW.exit ?_ | intro _ | refine And.intro (by omega) ?_) | simp (config := { maxSteps := 1000000 }) (disch := (first | omega | (simp only [go_sem]; try omega))) only [go_sem, Nat.reduceAdd, Nat.reduceEqDiff, Nat.reduceLeDiff, Nat.reduceMul, Nat.reduceLT, reduceIte, Int.reduceToNat, w64_id, cast_succ])
    refine hq.usel (.cons (froz_agg2 (froz_I' _) (froz_ilSS _)) (.cons (froz_row (r := H.length + 1) (ver := 0) (ty := 2) (xs := [k]) (Nat.zero_le _) (by simp)) .nil)) ?_
    repeat (first | (with_reducible first | refine SW.seq ?_ | refine SW.block ?_ | refine SW.rowC ?_ | refine SW.skip ?_ | refine SW.exit ?_ | intro _ | refine And.intro (by omega) ?_) | simp (config := { maxSteps := 1000000 }) (disch := (first | omega | (simp only [go_sem]; try omega))) only [go_sem, Nat.reduceAdd, Nat.reduceEqDiff, Nat.reduceLeDiff, Nat.reduceMul, Nat.reduceLT, reduceIte, Int.reduceToNat, w64_id, cast_succ])
    refine SW.condF rfl ?_
    repeat (first | (with_reducible first | refine SW.seq ?_ | refine SW.block ?_ | refine SW.rowC ?_ | refine SW.skip ?_ | refine SW.exit ?_ | intro _ | refine And.intro (by omega) ?_) | simp (config := { maxSteps := 1000000 }) (disch := (first | omega | (simp only [go_sem]; try omega))) only [go_sem, Nat.reduceAdd, Nat.reduceEqDiff, Nat.reduceLeDiff, Nat.reduceMul, Nat.reduceLT, reduceIte, Int.reduceToNat, w64_id, cast_succ])
    refine (hs _).mono ?_
    rintro r H' ⟨ext, rfl, own⟩
    repeat (first | (with_reducible first | refine SW.seq ?_ | refine SW.block ?_ | refine SW.rowC ?_ | refine SW.skip ?_ | refine SW.exit ?_ | intro _ | refine And.intro (by omega) ?_) | simp (config := { maxSteps := 1000000 }) (disch := (first | omega | (simp only [go_sem]; try omega))) only [go_sem, Nat.reduceAdd, Nat.reduceEqDiff, Nat.reduceLeDiff, Nat.reduceMul, Nat.reduceLT, reduceIte, Int.reduceToNat, w64_id, cast_succ])
    refine SW.ret ?_; (try simp only [go_sem]); (first | refine FunPost.one ?_ | refine FunPost.two ?_ | refine FunPost.three ?_); (try simp (config := { maxSteps := 1000000 }) (disch := (first | omega | (simp only [go_sem]; try omega))) only [go_sem, Nat.reduceAdd, Nat.reduceEqDiff, Nat.reduceLeDiff, Nat.reduceMul, Nat.reduceLT, reduceIte, Int.reduceToNat, w64_id, cast_succ])
    simp only [List.append_assoc, List.cons_append, List.nil_append] at own
    refine GR.of ⟨_, _, rfl, rfl, own.weak (fun r h1 h2 => ⟨?_, h2⟩)⟩
    have := h1.1
    simp at this; omega
  · rw [if_neg h0]
    generalize askV n els k = A at *
    have hA0 := decide_eq_false h0
    refine ACalls.introB s_impl_SubsetOrbits (by simp) ?_; intro hB hA; unfold c_impl_SubsetOrbits; simp (config := { maxSteps := 1000000 }) (disch := (first | omega | (simp only [go_sem]; try omega))) only [go_sem, Nat.reduceAdd, Nat.reduceEqDiff, Nat.reduceLeDiff, Nat.reduceMul, Nat.reduceLT, reduceIte, Int.reduceToNat, w64_id, cast_succ]
    repeat (first | (with_reducible first | refine SW.seq ?_ | refine SW.block ?_ | refine SW.rowC ?_ | refine SW.skip ?_ | refine SW.exit ?_ | intro _ | refine And.intro (by omega) ?_) | simp (config := { maxSteps := 1000000 }) (disch := (first | omega | (simp only [go_sem]; try omega))) only [go_sem, Nat.reduceAdd, Nat.reduceEqDiff, Nat.reduceLeDiff, Nat.reduceMul, Nat.reduceLT, reduceIte, Int.reduceToNat, w64_id, cast_succ])
    refine hq.usel (.cons (froz_agg2 (froz_I' _) (froz_ilSS _)) (.cons (froz_row (r := H.length + 1) (ver := 0) (ty := 2) (xs := [k]) (Nat.zero_le _) (by simp)) .nil)) ?_
    repeat (first | (with_reducible first | refine SW.seq ?_ | refine SW.block ?_ | refine SW.rowC ?_ | refine SW.skip ?_ | refine SW.exit ?_ | intro _ | refine And.intro (by omega) ?_) | simp (config := { maxSteps := 1000000 }) (disch := (first | omega | (simp only [go_sem]; try omega))) only [go_sem, Nat.reduceAdd, Nat.reduceEqDiff, Nat.reduceLeDiff, Nat.reduceMul, Nat.reduceLT, reduceIte, Int.reduceToNat, w64_id, cast_succ, hA0])
    refine SW.condT rfl ?_
    repeat (first | (with_reducible first | refine SW.seq ?_ | refine SW.block ?_ | refine SW.rowC ?_ | refine SW.skip ?_ | refine SW.exit ?_ | intro _ | refine And.intro (by omega) ?_) | simp (config := { maxSteps := 1000000 }) (disch := (first | omega | (simp only [go_sem]; try omega))) only [go_sem, Nat.reduceAdd, Nat.reduceEqDiff, Nat.reduceLeDiff, Nat.reduceMul, Nat.reduceLT, reduceIte, Int.reduceToNat, w64_id, cast_succ])
    refine SW.ret ?_; (try simp only [go_sem]); (first | refine FunPost.one ?_ | refine FunPost.two ?_ | refine FunPost.three ?_); (try simp (config := { maxSteps := 1000000 }) (disch := (first | omega | (simp only [go_sem]; try omega))) only [go_sem, Nat.reduceAdd, Nat.reduceEqDiff, Nat.reduceLeDiff, Nat.reduceMul, Nat.reduceLT, reduceIte, Int.reduceToNat, w64_id, cast_succ])
    exact GR.of ⟨_, _, rfl, rfl, .inr ⟨rfl, rfl⟩⟩
end Go.Proofs.YthogadbnddmkdaaGreat
namespace Go.Proofs.YthogadbnddmkdaaGreat
open Go.Av
theorem soV_sets0 {n : Int} {els : List (List Int)} {k : Int} (h : askV n els k = 0) : ∀ R ∈ orbsV n els k, R ≠ [] ∧ R.length ≤ 720 := by
  obtain ⟨hg, k0, k1, hc, en, ek⟩ := askV_zero h
  intro R hR
  unfold orbsV at hR
  exact orbL_rows hg.2.1.1 hg.2.1.2 _ R hR
end Go.Proofs.YthogadbnddmkdaaGreat
