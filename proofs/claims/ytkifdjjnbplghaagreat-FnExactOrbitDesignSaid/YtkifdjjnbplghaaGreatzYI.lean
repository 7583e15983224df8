/- OrbitDesign: both functions. -/
import Derived.Test.YtkifdjjnbplghaaGreatProg
import Derived.KernelRfl
import Derived.Test.YtkifdjjnbplghaaGreatzX2
import Derived.Test.YtkifdjjnbplghaaGreatzYF
set_option linter.unusedSimpArgs false
set_option linter.unusedVariables false
set_option maxHeartbeats 4000000
set_option maxRecDepth 100000
namespace Go.Proofs.YtkifdjjnbplghaaGreat
open Go.Av
abbrev f_impl_OrbitDesign : Nat := 32
def c_impl_OrbitDesign : SC :=
 .seq (.reg [
     ⟨(some 3), .box 33 (.tmp 0), none⟩,
     ⟨(some 6), .alloc 31 [(.int .i64 0), (.slice none 0 0)], none⟩,
     ⟨(some 7), .mv (.const (.int .i64 0)), none⟩] [1, 2, 3, 6])
 (.seq (.block 0 (.seq (.reg [
      ⟨(some 14), .load 2 true (.tmp 3), none⟩,
      ⟨(some 15), .call 46 [(.tmp 14)], none⟩,
      ⟨(some 16), .un .not (.tmp 15), none⟩,
      ⟨(some 13), .mv (.tmp 16), none⟩] [1, 2, 3, 6, 13])
  (.cond (.tmp 13)
   (.seq (.reg [
       ⟨(some 17), .build [(.int .i64 0), (.slice none 0 0)] [], none⟩,
       ⟨none, .store 2 (.tmp 6) (.tmp 17), none⟩,
       ⟨(some 7), .mv (.const (.int .i64 1)), none⟩] [6, 7])
   (.ret))
   (.seq (.reg [
       ⟨(some 19), .mv (.tmp 1), none⟩,
       ⟨(some 20), .bin .eql (.tmp 19) (.const (.int .i64 0)), none⟩,
       ⟨(some 18), .mv (.tmp 20), none⟩] [1, 2, 3, 6, 18])
   (.cond (.tmp 18)
    (.seq (.reg [
        ⟨(some 21), .build [(.int .i64 0), (.slice none 0 0)] [], none⟩,
        ⟨none, .store 2 (.tmp 6) (.tmp 21), none⟩,
        ⟨(some 7), .mv (.const (.int .i64 2)), none⟩] [6, 7])
    (.ret))
    (.skip))))))
 (.seq (.seq (.reg [
     ⟨(some 22), .load 2 true (.tmp 3), none⟩,
     ⟨(some 23), .mv (.tmp 1), none⟩,
     ⟨(some 24), .bslice 2 1 1 [(.int .i64 0)] [(0, (.tmp 23))], none⟩,
     ⟨(some 25), .call 53 [(.tmp 22), (.tmp 24)], none⟩,
     ⟨(some 8), .mv (.tmp 25), none⟩] [1, 2, 3, 6, 8])
 (.seq (.reg [
     ⟨(some 26), .mv (.tmp 8), none⟩,
     ⟨(some 27), .bin .neq (.tmp 26) (.const (.int .i64 0)), none⟩] [1, 2, 3, 6, 8, 27])
 (.cond (.tmp 27)
  (.seq (.reg [
      ⟨(some 28), .build [(.int .i64 0), (.slice none 0 0)] [], none⟩,
      ⟨(some 29), .mv (.tmp 8), none⟩,
      ⟨none, .store 2 (.tmp 6) (.tmp 28), none⟩,
      ⟨(some 7), .mv (.tmp 29), none⟩] [6, 7])
  (.ret))
  (.skip))))
 (.seq (.reg [
     ⟨(some 30), .load 2 true (.tmp 3), none⟩,
     ⟨(some 31), .mv (.tmp 1), none⟩,
     ⟨(some 32), .call 54 [(.tmp 30), (.tmp 31)], none⟩,
     ⟨(some 9), .mv (.tmp 32), none⟩] [2, 3, 6, 9])
 (.seq (.seq (.reg [
     ⟨(some 33), .mv (.tmp 2), none⟩,
     ⟨(some 34), .mv (.tmp 9), none⟩,
     ⟨(some 35), .call 64 [(.tmp 34)], none⟩,
     ⟨(some 36), .call 63 [(.tmp 33), (.tmp 35)], none⟩,
     ⟨(some 37), .un .not (.tmp 36), none⟩] [2, 3, 6, 9, 37])
 (.cond (.tmp 37)
  (.seq (.reg [
      ⟨(some 38), .build [(.int .i64 0), (.slice none 0 0)] [], none⟩,
      ⟨none, .store 2 (.tmp 6) (.tmp 38), none⟩,
      ⟨(some 7), .mv (.const (.int .i64 2)), none⟩] [6, 7])
  (.ret))
  (.skip)))
 (.seq (.reg [
     ⟨(some 10), .mv (.const (.slice none 0 0)), none⟩] [2, 3, 6, 9, 10])
 (.seq (.seq (.reg [
     ⟨(some 39), .mv (.tmp 2), none⟩,
     ⟨(some 40), .len (.tmp 39), none⟩,
     ⟨(some 41), .mv (.const (.int .i64 0)), none⟩] [3, 6, 9, 10, 39, 40, 41])
 (.block 1 (.loop [3, 6, 9, 10, 39, 40, 41]
   (.seq (.reg [
       ⟨(some 42), .bin .lss (.tmp 41) (.tmp 40), none⟩] [3, 6, 9, 10, 39, 40, 41, 42])
   (.seq (.cond (.tmp 42)
    (.skip)
    (.exit 1))
   (.seq (.block 2 (.seq (.reg [
        ⟨(some 43), .iaddr 1 (.tmp 39) (.tmp 41), none⟩,
        ⟨(some 44), .load 1 false (.tmp 43), none⟩,
        ⟨(some 12), .mv (.tmp 44), none⟩] [3, 6, 9, 10, 12, 39, 40, 41])
    (.reg [
        ⟨(some 45), .mv (.tmp 10), none⟩,
        ⟨(some 46), .mv (.tmp 9), none⟩,
        ⟨(some 47), .mv (.tmp 12), none⟩,
        ⟨(some 48), .iaddr 1 (.tmp 46) (.tmp 47), none⟩,
        ⟨(some 49), .load 1 false (.tmp 48), none⟩,
        ⟨(some 50), .app 51 1 24 (.tmp 45) (.tmp 49), none⟩,
        ⟨(some 10), .mv (.tmp 50), none⟩] [3, 6, 9, 10, 39, 40, 41])))
   (.reg [
       ⟨(some 51), .bin .add (.tmp 41) (.const (.int .i64 1)), none⟩,
       ⟨(some 41), .mv (.tmp 51), none⟩] [3, 6, 9, 10, 39, 40, 41])))))))
 (.seq (.reg [
     ⟨(some 52), .faddr 0 (.tmp 3), none⟩,
     ⟨(some 53), .load 1 false (.tmp 52), none⟩,
     ⟨(some 54), .mv (.tmp 10), none⟩,
     ⟨(some 55), .call 65 [(.tmp 53), (.tmp 54)], none⟩,
     ⟨(some 56), .ext (.tmp 55) 0, none⟩,
     ⟨(some 57), .ext (.tmp 55) 1, none⟩,
     ⟨none, .store 2 (.tmp 6) (.tmp 56), none⟩,
     ⟨(some 7), .mv (.tmp 57), none⟩] [6, 7])
 (.ret))))))))
theorem s_impl_OrbitDesign : stripF Tryz.prog 32 [[1, 2, 3, 6], [1, 2, 3, 6, 13], [6, 7], [1, 2, 3, 6, 18], [6, 7], [1, 2, 3, 6, 8], [1, 2, 3, 6, 8, 27], [6, 7], [2, 3, 6, 9], [2, 3, 6, 9, 37], [6, 7], [2, 3, 6, 9, 10], [3, 6, 9, 10, 39, 40, 41], [3, 6, 9, 10, 39, 40, 41], [3, 6, 9, 10, 39, 40, 41, 42], [3, 6, 9, 10, 12, 39, 40, 41], [3, 6, 9, 10, 39, 40, 41], [3, 6, 9, 10, 39, 40, 41], [6, 7]] = some (c_impl_OrbitDesign, [.cell 6 2, .tmp 7], 58) := by kernel_rfl
abbrev f_impl_size_LLint64 : Nat := 64
def c_impl_size_LLint64 : SC :=
 .seq (.reg [
     ⟨(some 2), .mv (.const (.int .i64 0)), none⟩] [0])
 (.seq (.reg [
     ⟨(some 3), .mv (.tmp 0), none⟩,
     ⟨(some 4), .len (.tmp 3), none⟩,
     ⟨(some 2), .mv (.tmp 4), none⟩] [2])
 (.ret))
theorem s_impl_size_LLint64 : stripF Tryz.prog 64 [[0], [2]] = some (c_impl_size_LLint64, [.tmp 2], 5) := by kernel_rfl
def pickL (V : List (List (List Int))) (os : List Int) : List (List Int) := (os.map fun o => V.getD o.toNat []).flatten
theorem pickL_snoc (V : List (List (List Int))) (os : List Int) (o : Int) : pickL V (os ++ [o]) = pickL V os ++ V.getD o.toNat [] := by simp [pickL]
theorem pickL_len {V : List (List (List Int))} (h : ∀ R ∈ V, R ≠ [] ∧ R.length ≤ 720) (os : List Int) : (pickL V os).length ≤ 720 * os.length := by
  induction os with
  | nil => simp [pickL]
  | cons o r ih =>
    have e : pickL V (o :: r) = V.getD o.toNat [] ++ pickL V r := by simp [pickL]
    have h1 : (V.getD o.toNat []).length ≤ 720 := by
      rw [List.getD_eq_getElem?_getD]
      cases hx : V[o.toNat]? with
      | none => simp
      | some R => simpa using (h R (List.mem_of_getElem? hx)).2
    rw [e, List.length_append, List.length_cons]; omega
theorem pickL_mem {V : List (List (List Int))} {os : List Int} {s : List Int} (h : s ∈ pickL V os) : ∃ R ∈ V, s ∈ R := by
  unfold pickL at h
  obtain ⟨R, hR, hs⟩ := List.mem_flatten.1 h
  obtain ⟨o, _, rfl⟩ := List.mem_map.1 hR
  rw [List.getD_eq_getElem?_getD] at hs
  cases hx : V[o.toNat]? with
  | none => rw [hx] at hs; simp at hs
  | some R => rw [hx] at hs; exact ⟨R, List.mem_of_getElem? hx, hs⟩
noncomputable def odP (n : Int) (els : List (List Int)) (k : Int) (os : List Int) : Int := if grpB n els = true then (if k = 0 then 2 else if askV n els k = 0 then (if asc 0 (((orbsV n els k).length : Int) - 1) os = true then 0 else 2) else askV n els k) else 1
noncomputable def odB (n : Int) (els : List (List Int)) (k : Int) (os : List Int) : List (List Int) := pickL (orbsV n els k) os
noncomputable def odA (n : Int) (els : List (List Int)) (k : Int) (os : List Int) : Int := if odP n els k os = 0 then (if 128 < (odB n els k os).length then 5 else 0) else odP n els k os
noncomputable def odV (n : Int) (els : List (List Int)) (k : Int) (os : List Int) : List (List Int) := if odA n els k os = 0 then sortD cmpL (odB n els k os) else []
noncomputable def odN (n : Int) (els : List (List Int)) (k : Int) (os : List Int) : Int := if odA n els k os = 0 then n else 0
theorem odP_zero {n : Int} {els : List (List Int)} {k : Int} {os : List Int} (h : odP n els k os = 0) : grpB n els = true ∧ k ≠ 0 ∧ askV n els k = 0 ∧ asc 0 (((orbsV n els k).length : Int) - 1) os = true := by
  unfold odP at h
  split at h
  · rename_i hg
    split at h
    · omega
    · rename_i hk
      split at h
      · rename_i ha
        split at h
        · rename_i hs; exact ⟨hg, hk, ha, hs⟩
        · omega
      · rename_i ha; exact absurd h ha
  · omega
theorem odB_facts {n : Int} {els : List (List Int)} {k : Int} {os : List Int} (h : odP n els k os = 0) : os.length ≤ 2000 ∧ (orbsV n els k).length ≤ 2000 ∧ (odB n els k os).length ≤ 2000000 ∧ ∀ x ∈ odB n els k os, x.length ≤ 32 := by
  obtain ⟨hg, hk0, ha0, hs⟩ := odP_zero h
  obtain ⟨hg', k0, k1, hc, en, ek⟩ := askV_zero ha0
  have h1 := soV_len n els k
  unfold soV at h1
  rw [if_pos ha0] at h1
  have h2 : os.length ≤ 2000 := by rcases asc_len hs with h | h; (rw [h]; simp); omega
  have h3 := pickL_len (soV_sets0 ha0) os
  refine ⟨h2, h1, by unfold odB; omega, fun x hx => ?_⟩
  obtain ⟨R, hR, hx⟩ := pickL_mem hx
  unfold orbsV at hR
  have hn := hg'.1
  exact orbL_sets (by omega) (by have := hg'.2.2.1; rw [en] at this; exact this) _ (Nat.le_refl _) R hR x hx
theorem size3_fn (xs : List (List (List Int))) : PFn Tryz.prog f_impl_size_LLint64 [il3 xs] (I xs.length) := by
  intro H; refine ACalls.introB s_impl_size_LLint64 (by simp) ?_; intro hB hA; unfold c_impl_size_LLint64; simp (config := { maxSteps := 1000000 }) (disch := (first | omega | (simp only [go_sem]; try omega))) only [go_sem, Nat.reduceAdd, Nat.reduceEqDiff, Nat.reduceLeDiff, Nat.reduceMul, Nat.reduceLT, reduceIte, Int.reduceToNat, w64_id, cast_succ]
  repeat (first | (with_reducible first | refine SW.seq ?_ | refine SW.block ?_ | refine SW.rowC ?_ | refine SW.skip ?_ | refine SW.exit ?_ | intro _ | refine And.intro (by omega) ?_) | simp (config := { maxSteps := 1000000 }) (disch := (first | omega | (simp only [go_sem]; try omega))) only [go_sem, Nat.reduceAdd, Nat.reduceEqDiff, Nat.reduceLeDiff, Nat.reduceMul, Nat.reduceLT, reduceIte, Int.reduceToNat, w64_id, cast_succ])
  refine SW.ret ?_; (try simp only [go_sem]); (first | refine FunPost.one ?_ | refine FunPost.two ?_ | refine FunPost.three ?_); (try simp (config := { maxSteps := 1000000 }) (disch := (first | omega | (simp only [go_sem]; try omega))) only [go_sem, Nat.reduceAdd, Nat.reduceEqDiff, Nat.reduceLeDiff, Nat.reduceMul, Nat.reduceLT, reduceIte, Int.reduceToNat, w64_id, cast_succ]); (first | (with_reducible refine GR.drop ?_ ?_; (simp only [go_sem, and_self, and_true, true_and, implies_true, List.take_succ_cons, List.take_zero])) | refine GR.of ?_); refine ⟨?_, rfl⟩; (try with_reducible rfl)
theorem implOD_fds (n k : Int) (els : List (List Int)) (os : List Int) (hl : ∀ x ∈ els, x.length ≤ 2000000) (hl2 : els.length ≤ 2000000) (hx : ∀ x ∈ os, (Lit.int .i64 x).wf = true) :
    FDs Tryz.prog f_impl_OrbitDesign [.agg [I n, ilSS els], I k, ilS os] (odN n els k os) (odV n els k os) (odA n els k os) := by
  have hv := ValidGroup_fn n els hl hl2
  have hq := countable_fn n els [k] hl hl2
  rw [askL_one] at hq
  have hfacts := @odB_facts n els k os
  unfold odN odV
  unfold odA
  by_cases h0 : odP n els k os = 0
  · obtain ⟨hos, hvl, hbl, hbx⟩ := hfacts h0
    obtain ⟨hg, hk0, ha0, hs⟩ := odP_zero h0
    have hi := areIndices_fn os ((orbsV n els k).length : Int) hx (by omega) (by omega)
    rw [hs] at hi
    have hso := sorted_own n (odB n els k os) hbl (fun x hx => by have := hbx x hx; omega)
    have hsub := subsetOrbits_pf ha0
    have hrl := soV_sets0 ha0
    rw [hg] at hv
    rw [ha0] at hq
    have dk := decide_eq_false hk0
    have hfin : FDs Tryz.prog f_impl_OrbitDesign [.agg [I n, ilSS els], I k, ilS os] (if 128 < (odB n els k os).length then 0 else n) (if 128 < (odB n els k os).length then [] else sortD cmpL (odB n els k os)) (if 128 < (odB n els k os).length then 5 else 0) := by
      generalize hN : (if 128 < (odB n els k os).length then (0 : Int) else n) = N at *
      generalize hC : (if 128 < (odB n els k os).length then (5 : Int) else 0) = C at *
      generalize hL : (if 128 < (odB n els k os).length then [] else sortD cmpL (odB n els k os)) = L at *
      unfold odB at *
      generalize orbsV n els k = V at *
      intro H
      refine ACalls.introB s_impl_OrbitDesign (by simp) ?_; intro hB hA; unfold c_impl_OrbitDesign; simp (config := { maxSteps := 1000000 }) (disch := (first | omega | (simp only [go_sem]; try omega))) only [go_sem, Nat.reduceAdd, Nat.reduceEqDiff, Nat.reduceLeDiff, Nat.reduceMul, Nat.reduceLT, reduceIte, Int.reduceToNat, w64_id, cast_succ]
      repeat (first | (with_reducible first | refine SW.seq ?_ | refine SW.block ?_ | refine SW.rowC ?_ | refine SW.skip ?_ | refine SW.exit ?_ | refine PFn.use (hv) ?_ | refine PFn.useq (hv) ?_ | intro _ | refine And.intro (by omega) ?_) | simp (config := { maxSteps := 1000000 }) (disch := (first | omega | (simp only [go_sem]; try omega))) only [go_sem, Nat.reduceAdd, Nat.reduceEqDiff, Nat.reduceLeDiff, Nat.reduceMul, Nat.reduceLT, reduceIte, Int.reduceToNat, w64_id, cast_succ])
      refine SW.condF rfl ?_
      repeat (first | (with_reducible first | refine SW.seq ?_ | refine SW.block ?_ | refine SW.rowC ?_ | refine SW.skip ?_ | refine SW.exit ?_ | intro _ | refine And.intro (by omega) ?_) | simp (config := { maxSteps := 1000000 }) (disch := (first | omega | (simp only [go_sem]; try omega))) only [go_sem, Nat.reduceAdd, Nat.reduceEqDiff, Nat.reduceLeDiff, Nat.reduceMul, Nat.reduceLT, reduceIte, Int.reduceToNat, w64_id, cast_succ, dk])
      refine SW.condF rfl ?_
      repeat (first | (with_reducible first | refine SW.seq ?_ | refine SW.block ?_ | refine SW.rowC ?_ | refine SW.skip ?_ | refine SW.exit ?_ | intro _ | refine And.intro (by omega) ?_) | simp (config := { maxSteps := 1000000 }) (disch := (first | omega | (simp only [go_sem]; try omega))) only [go_sem, Nat.reduceAdd, Nat.reduceEqDiff, Nat.reduceLeDiff, Nat.reduceMul, Nat.reduceLT, reduceIte, Int.reduceToNat, w64_id, cast_succ])
      refine hq.usel (.cons (froz_agg2 (froz_I' _) (froz_ilSS _)) (.cons (froz_row (r := H.length + 2) (ver := 0) (ty := 2) (xs := [k]) (Nat.zero_le _) (by simp)) .nil)) ?_
      repeat (first | (with_reducible first | refine SW.seq ?_ | refine SW.block ?_ | refine SW.rowC ?_ | refine SW.skip ?_ | refine SW.exit ?_ | intro _ | refine And.intro (by omega) ?_) | simp (config := { maxSteps := 1000000 }) (disch := (first | omega | (simp only [go_sem]; try omega))) only [go_sem, Nat.reduceAdd, Nat.reduceEqDiff, Nat.reduceLeDiff, Nat.reduceMul, Nat.reduceLT, reduceIte, Int.reduceToNat, w64_id, cast_succ])
      refine SW.condF rfl ?_
      repeat (first | (with_reducible first | refine SW.seq ?_ | refine SW.block ?_ | refine SW.rowC ?_ | refine SW.skip ?_ | refine SW.exit ?_ | refine PFn.use (hsub) ?_ | refine PFn.useq (hsub) ?_ | refine PFn.use (size3_fn V) ?_ | refine PFn.useq (size3_fn V) ?_ | refine PFn.use (hi) ?_ | refine PFn.useq (hi) ?_ | intro _ | refine And.intro (by omega) ?_) | simp (config := { maxSteps := 1000000 }) (disch := (first | omega | (simp only [go_sem]; try omega))) only [go_sem, Nat.reduceAdd, Nat.reduceEqDiff, Nat.reduceLeDiff, Nat.reduceMul, Nat.reduceLT, reduceIte, Int.reduceToNat, w64_id, cast_succ])
      refine SW.condF rfl ?_
      repeat (first | (with_reducible first | refine SW.seq ?_ | refine SW.block ?_ | refine SW.rowC ?_ | refine SW.skip ?_ | refine SW.exit ?_ | intro _ | refine And.intro (by omega) ?_) | simp (config := { maxSteps := 1000000 }) (disch := (first | omega | (simp only [go_sem]; try omega))) only [go_sem, Nat.reduceAdd, Nat.reduceEqDiff, Nat.reduceLeDiff, Nat.reduceMul, Nat.reduceLT, reduceIte, Int.reduceToNat, w64_id, cast_succ])
      refine SW.ghost (Gh.name 10 51 1 rfl) ?_
      simp (config := { maxSteps := 1000000 }) (disch := (first | omega | (simp only [go_sem]; try omega))) only [go_sem, Nat.reduceAdd, Nat.reduceEqDiff, Nat.reduceLeDiff, Nat.reduceMul, Nat.reduceLT, reduceIte, Int.reduceToNat, w64_id, cast_succ]
      refine SW.loopE (fun E0 H0 q E' H' => ∃ (pre post : List Int) (ver : Nat), os = pre ++ post ∧ q = post.length ∧ E' = aput (aput E0 41 (I pre.length)) 10 (.nm (H.length + 3) ver 0 (pickL V pre).length) ∧ H' = H ++ [⟨0, tyG, 1, [I n, ilSS els]⟩, ⟨0, tyDX, 1, [I 0, nilS]⟩, ⟨0, 2, 1, [I k]⟩, ⟨ver, 51, 1, (pickL V pre).map ilS⟩]) os.length ⟨[], os, 0, rfl, rfl, rfl, rfl⟩ ?_
      rintro q E' H' ⟨pre, post, ver, hpp, rfl, rfl, rfl⟩
      have hprl : pre.length ≤ 2000 := by rw [hpp] at hos; simp at hos; omega
      have hpk := pickL_len hrl pre
      have hsn := fun o => pickL_snoc V pre o
      generalize hP : pickL V pre = P at *
      simp (config := { maxSteps := 1000000 }) (disch := (first | omega | (simp only [go_sem]; try omega))) only [go_sem, Nat.reduceAdd, Nat.reduceEqDiff, Nat.reduceLeDiff, Nat.reduceMul, Nat.reduceLT, reduceIte, Int.reduceToNat, w64_id, cast_succ]
      repeat (first | (with_reducible first | refine SW.seq ?_ | refine SW.block ?_ | refine SW.rowC ?_ | refine SW.skip ?_ | refine SW.exit ?_ | intro _ | refine And.intro (by omega) ?_) | simp (config := { maxSteps := 1000000 }) (disch := (first | omega | (simp only [go_sem]; try omega))) only [go_sem, Nat.reduceAdd, Nat.reduceEqDiff, Nat.reduceLeDiff, Nat.reduceMul, Nat.reduceLT, reduceIte, Int.reduceToNat, w64_id, cast_succ])
      (first | refine SW.condD rfl (fun h2 => ?_) (fun h2 => ?_) | refine SW.condN rfl (fun h2 => ?_) (fun h2 => ?_) | refine SW.condNB rfl (fun h2 => ?_) (fun h2 => ?_) | refine SW.condB rfl (fun h2 => ?_) (fun h2 => ?_))
      · obtain ⟨o, post, rfl, hg2, -⟩ := consOf (d := 0) hpp (by omega)
        have hom := asc_mem hs o (by rw [hpp]; simp)
        have eo : o = ((o.toNat : Nat) : Int) := by omega
        have hol : o.toNat < V.length := by omega
        have hR := (hrl (V.getD o.toNat []) (by rw [List.getD_eq_getElem?_getD, List.getElem?_eq_getElem hol]; exact List.getElem_mem _)).2
        have htl : (P.map ilS).take P.length = P.map ilS := List.take_of_length_le (by simp)
        rw [eo] at hg2
        have hsn' := hsn o
        generalize hR' : V.getD o.toNat [] = R at *
        repeat (first | (with_reducible first | refine SW.seq ?_ | refine SW.block ?_ | refine SW.rowC ?_ | refine SW.skip ?_ | refine SW.exit ?_ | intro _ | refine And.intro (by omega) ?_) | simp (config := { maxSteps := 1000000 }) (disch := (first | omega | (simp only [go_sem]; try omega))) only [go_sem, Nat.reduceAdd, Nat.reduceEqDiff, Nat.reduceLeDiff, Nat.reduceMul, Nat.reduceLT, reduceIte, Int.reduceToNat, w64_id, cast_succ, hg2, htl, hR'])
        refine SLoop.next post.length (by simp) ⟨pre ++ [o], post, ver + 1, by simp [hpp], rfl, ?_, ?_⟩
        · rw [hsn']; simp [go_sem]
        · rw [hsn']; simp
      · obtain ⟨rfl, rfl⟩ := nilOf hpp (by omega)
        rw [hP] at hso
        repeat (first | (with_reducible first | refine SW.seq ?_ | refine SW.block ?_ | refine SW.rowC ?_ | refine SW.skip ?_ | refine SW.exit ?_ | intro _ | refine And.intro (by omega) ?_) | simp (config := { maxSteps := 1000000 }) (disch := (first | omega | (simp only [go_sem]; try omega))) only [go_sem, Nat.reduceAdd, Nat.reduceEqDiff, Nat.reduceLeDiff, Nat.reduceMul, Nat.reduceLT, reduceIte, Int.reduceToNat, w64_id, cast_succ])
        refine (hso.lend (.cons (froz_I' _) (.cons (froz_rowS (r := H.length + 3) (ver := ver) (ty := 51) (xs := P) (Nat.zero_le _) (by simp)) .nil))).mono ?_
        rintro r H2 ⟨ext, v, hH2, rfl, own⟩
        have hb1 : H2[H.length + 1]? = some ⟨0, tyDX, 1, [I 0, nilS]⟩ := by rw [hH2]; simp
        have hpre : ∀ j, j < H.length → H2[j]? = H[j]? := fun j hj => by rw [hH2, List.append_assoc, List.getElem?_append_left hj]
        have hlH : ∀ a b c d : Blk, (H ++ [a, b, c, d]).length = H.length + 4 := fun a b c d => by simp
        rw [hlH] at own
        clear hH2
        have hlt := (List.getElem?_eq_some_iff.1 hb1).1
        have hst := pc_st (cs := [I N, v]) (off := 0) hb1 (by simp)
        repeat (first | (with_reducible first | refine SW.seq ?_ | refine SW.block ?_ | refine SW.rowC ?_ | refine SW.skip ?_ | refine SW.exit ?_ | intro _ | refine And.intro (by omega) ?_) | simp (config := { maxSteps := 1000000 }) (disch := (first | omega | (simp only [go_sem]; try omega))) only [go_sem, Nat.reduceAdd, Nat.reduceEqDiff, Nat.reduceLeDiff, Nat.reduceMul, Nat.reduceLT, reduceIte, Int.reduceToNat, w64_id, cast_succ, own.oneU.1, own.oneU.2, hst])
        refine SW.ret ?_
        refine FunPost.cell_tmp (cs := [I N, v]) (pc_lds (List.getElem?_set_self hlt) (by simp)) ?_
        obtain ⟨e, he⟩ := prefix_of (H := H) (H' := H2.set (H.length + 1) ⟨0, tyDX, 1, [I N, v]⟩) (by simp; omega) (fun j hj => by rw [List.getElem?_set_ne (by omega)]; exact hpre j hj)
        refine GR.of ⟨e, v, he, rfl, (own.same (fun j b q hb => ?_)).weak (fun r h1 h2 => ⟨by have := h1.1; omega, h2⟩)⟩
        rw [List.getElem?_set_ne (by have := q.1; omega)]; exact hb
    rw [if_pos h0]
    by_cases hc : 128 < (odB n els k os).length
    · simp only [if_pos hc] at hfin ⊢
      exact hfin
    · simp only [if_neg hc] at hfin ⊢
      exact hfin
  · simp only [if_neg h0]
    unfold odP at h0 ⊢
    intro H
    by_cases hg : grpB n els = true
    · rw [if_pos hg] at h0 ⊢
      rw [hg] at hv
      by_cases hk : k = 0
      · rw [if_pos hk]
        have dk := decide_eq_true hk
        refine ACalls.introB s_impl_OrbitDesign (by simp) ?_; intro hB hA; unfold c_impl_OrbitDesign; simp (config := { maxSteps := 1000000 }) (disch := (first | omega | (simp only [go_sem]; try omega))) only [go_sem, Nat.reduceAdd, Nat.reduceEqDiff, Nat.reduceLeDiff, Nat.reduceMul, Nat.reduceLT, reduceIte, Int.reduceToNat, w64_id, cast_succ]
        repeat (first | (with_reducible first | refine SW.seq ?_ | refine SW.block ?_ | refine SW.rowC ?_ | refine SW.skip ?_ | refine SW.exit ?_ | refine PFn.use (hv) ?_ | refine PFn.useq (hv) ?_ | intro _ | refine And.intro (by omega) ?_) | simp (config := { maxSteps := 1000000 }) (disch := (first | omega | (simp only [go_sem]; try omega))) only [go_sem, Nat.reduceAdd, Nat.reduceEqDiff, Nat.reduceLeDiff, Nat.reduceMul, Nat.reduceLT, reduceIte, Int.reduceToNat, w64_id, cast_succ])
        refine SW.condF rfl ?_
        repeat (first | (with_reducible first | refine SW.seq ?_ | refine SW.block ?_ | refine SW.rowC ?_ | refine SW.skip ?_ | refine SW.exit ?_ | intro _ | refine And.intro (by omega) ?_) | simp (config := { maxSteps := 1000000 }) (disch := (first | omega | (simp only [go_sem]; try omega))) only [go_sem, Nat.reduceAdd, Nat.reduceEqDiff, Nat.reduceLeDiff, Nat.reduceMul, Nat.reduceLT, reduceIte, Int.reduceToNat, w64_id, cast_succ, dk])
        refine SW.condT rfl ?_
        repeat (first | (with_reducible first | refine SW.seq ?_ | refine SW.block ?_ | refine SW.rowC ?_ | refine SW.skip ?_ | refine SW.exit ?_ | intro _ | refine And.intro (by omega) ?_) | simp (config := { maxSteps := 1000000 }) (disch := (first | omega | (simp only [go_sem]; try omega))) only [go_sem, Nat.reduceAdd, Nat.reduceEqDiff, Nat.reduceLeDiff, Nat.reduceMul, Nat.reduceLT, reduceIte, Int.reduceToNat, w64_id, cast_succ])
        refine SW.ret ?_
        refine FunPost.cell_tmp (cs := [I 0, nilS]) (by simp (config := { maxSteps := 1000000 }) (disch := (first | omega | (simp only [go_sem]; try omega))) only [go_sem, Nat.reduceAdd, Nat.reduceEqDiff, Nat.reduceLeDiff, Nat.reduceMul, Nat.reduceLT, reduceIte, Int.reduceToNat, w64_id, cast_succ]) ?_
        exact GR.of ⟨_, _, rfl, rfl, .inr ⟨rfl, .inl rfl⟩⟩
      · rw [if_neg hk] at h0 ⊢
        have dk := decide_eq_false hk
        by_cases ha : askV n els k = 0
        · rw [if_pos ha] at h0 ⊢
          have h1 := soV_len n els k
          unfold soV at h1
          rw [if_pos ha] at h1
          have hi := areIndices_fn os ((orbsV n els k).length : Int) hx (by omega) (by omega)
          have hsub := subsetOrbits_pf ha
          rw [ha] at hq
          by_cases hs : asc 0 (((orbsV n els k).length : Int) - 1) os = true
          · rw [if_pos hs] at h0; exact absurd rfl h0
          · rw [if_neg hs]
            rw [Bool.not_eq_true] at hs
            rw [hs] at hi
            generalize orbsV n els k = V at *
            refine ACalls.introB s_impl_OrbitDesign (by simp) ?_; intro hB hA; unfold c_impl_OrbitDesign; simp (config := { maxSteps := 1000000 }) (disch := (first | omega | (simp only [go_sem]; try omega))) only [go_sem, Nat.reduceAdd, Nat.reduceEqDiff, Nat.reduceLeDiff, Nat.reduceMul, Nat.reduceLT, reduceIte, Int.reduceToNat, w64_id, cast_succ]
            repeat (first | (with_reducible first | refine SW.seq ?_ | refine SW.block ?_ | refine SW.rowC ?_ | refine SW.skip ?_ | refine SW.exit ?_ | refine PFn.use (hv) ?_ | refine PFn.useq (hv) ?_ | intro _ | refine And.intro (by omega) ?_) | simp (config := { maxSteps := 1000000 }) (disch := (first | omega | (simp only [go_sem]; try omega))) only [go_sem, Nat.reduceAdd, Nat.reduceEqDiff, Nat.reduceLeDiff, Nat.reduceMul, Nat.reduceLT, reduceIte, Int.reduceToNat, w64_id, cast_succ])
            refine SW.condF rfl ?_
            repeat (first | (with_reducible first | refine SW.seq ?_ | refine SW.block ?_ | refine SW.rowC ?_ | refine SW.skip ?_ | refine SW.exit ?_ | intro _ | refine And.intro (by omega) ?_) | simp (config := { maxSteps := 1000000 }) (disch := (first | omega | (simp only [go_sem]; try omega))) only [go_sem, Nat.reduceAdd, Nat.reduceEqDiff, Nat.reduceLeDiff, Nat.reduceMul, Nat.reduceLT, reduceIte, Int.reduceToNat, w64_id, cast_succ, dk])
            refine SW.condF rfl ?_
            repeat (first | (with_reducible first | refine SW.seq ?_ | refine SW.block ?_ | refine SW.rowC ?_ | refine SW.skip ?_ | refine SW.exit ?_ | intro _ | refine And.intro (by omega) ?_) | simp (config := { maxSteps := 1000000 }) (disch := (first | omega | (simp only [go_sem]; try omega))) only [go_sem, Nat.reduceAdd, Nat.reduceEqDiff, Nat.reduceLeDiff, Nat.reduceMul, Nat.reduceLT, reduceIte, Int.reduceToNat, w64_id, cast_succ])
            refine hq.usel (.cons (froz_agg2 (froz_I' _) (froz_ilSS _)) (.cons (froz_row (r := H.length + 2) (ver := 0) (ty := 2) (xs := [k]) (Nat.zero_le _) (by simp)) .nil)) ?_
            repeat (first | (with_reducible first | refine SW.seq ?_ | refine SW.block ?_ | refine SW.rowC ?_ | refine SW.skip ?_ | refine SW.exit ?_ | intro _ | refine And.intro (by omega) ?_) | simp (config := { maxSteps := 1000000 }) (disch := (first | omega | (simp only [go_sem]; try omega))) only [go_sem, Nat.reduceAdd, Nat.reduceEqDiff, Nat.reduceLeDiff, Nat.reduceMul, Nat.reduceLT, reduceIte, Int.reduceToNat, w64_id, cast_succ])
            refine SW.condF rfl ?_
            repeat (first | (with_reducible first | refine SW.seq ?_ | refine SW.block ?_ | refine SW.rowC ?_ | refine SW.skip ?_ | refine SW.exit ?_ | refine PFn.use (hsub) ?_ | refine PFn.useq (hsub) ?_ | refine PFn.use (size3_fn V) ?_ | refine PFn.useq (size3_fn V) ?_ | refine PFn.use (hi) ?_ | refine PFn.useq (hi) ?_ | intro _ | refine And.intro (by omega) ?_) | simp (config := { maxSteps := 1000000 }) (disch := (first | omega | (simp only [go_sem]; try omega))) only [go_sem, Nat.reduceAdd, Nat.reduceEqDiff, Nat.reduceLeDiff, Nat.reduceMul, Nat.reduceLT, reduceIte, Int.reduceToNat, w64_id, cast_succ])
            refine SW.condT rfl ?_
            repeat (first | (with_reducible first | refine SW.seq ?_ | refine SW.block ?_ | refine SW.rowC ?_ | refine SW.skip ?_ | refine SW.exit ?_ | intro _ | refine And.intro (by omega) ?_) | simp (config := { maxSteps := 1000000 }) (disch := (first | omega | (simp only [go_sem]; try omega))) only [go_sem, Nat.reduceAdd, Nat.reduceEqDiff, Nat.reduceLeDiff, Nat.reduceMul, Nat.reduceLT, reduceIte, Int.reduceToNat, w64_id, cast_succ])
            refine SW.ret ?_
            refine FunPost.cell_tmp (cs := [I 0, nilS]) (by simp (config := { maxSteps := 1000000 }) (disch := (first | omega | (simp only [go_sem]; try omega))) only [go_sem, Nat.reduceAdd, Nat.reduceEqDiff, Nat.reduceLeDiff, Nat.reduceMul, Nat.reduceLT, reduceIte, Int.reduceToNat, w64_id, cast_succ]) ?_
            exact GR.of ⟨_, _, rfl, rfl, .inr ⟨rfl, .inl rfl⟩⟩
        · rw [if_neg ha]
          generalize askV n els k = A at *
          have hA0 := decide_eq_false ha
          refine ACalls.introB s_impl_OrbitDesign (by simp) ?_; intro hB hA; unfold c_impl_OrbitDesign; simp (config := { maxSteps := 1000000 }) (disch := (first | omega | (simp only [go_sem]; try omega))) only [go_sem, Nat.reduceAdd, Nat.reduceEqDiff, Nat.reduceLeDiff, Nat.reduceMul, Nat.reduceLT, reduceIte, Int.reduceToNat, w64_id, cast_succ]
          repeat (first | (with_reducible first | refine SW.seq ?_ | refine SW.block ?_ | refine SW.rowC ?_ | refine SW.skip ?_ | refine SW.exit ?_ | refine PFn.use (hv) ?_ | refine PFn.useq (hv) ?_ | intro _ | refine And.intro (by omega) ?_) | simp (config := { maxSteps := 1000000 }) (disch := (first | omega | (simp only [go_sem]; try omega))) only [go_sem, Nat.reduceAdd, Nat.reduceEqDiff, Nat.reduceLeDiff, Nat.reduceMul, Nat.reduceLT, reduceIte, Int.reduceToNat, w64_id, cast_succ])
          refine SW.condF rfl ?_
          repeat (first | (with_reducible first | refine SW.seq ?_ | refine SW.block ?_ | refine SW.rowC ?_ | refine SW.skip ?_ | refine SW.exit ?_ | intro _ | refine And.intro (by omega) ?_) | simp (config := { maxSteps := 1000000 }) (disch := (first | omega | (simp only [go_sem]; try omega))) only [go_sem, Nat.reduceAdd, Nat.reduceEqDiff, Nat.reduceLeDiff, Nat.reduceMul, Nat.reduceLT, reduceIte, Int.reduceToNat, w64_id, cast_succ, dk])
          refine SW.condF rfl ?_
          repeat (first | (with_reducible first | refine SW.seq ?_ | refine SW.block ?_ | refine SW.rowC ?_ | refine SW.skip ?_ | refine SW.exit ?_ | intro _ | refine And.intro (by omega) ?_) | simp (config := { maxSteps := 1000000 }) (disch := (first | omega | (simp only [go_sem]; try omega))) only [go_sem, Nat.reduceAdd, Nat.reduceEqDiff, Nat.reduceLeDiff, Nat.reduceMul, Nat.reduceLT, reduceIte, Int.reduceToNat, w64_id, cast_succ])
          refine hq.usel (.cons (froz_agg2 (froz_I' _) (froz_ilSS _)) (.cons (froz_row (r := H.length + 2) (ver := 0) (ty := 2) (xs := [k]) (Nat.zero_le _) (by simp)) .nil)) ?_
          repeat (first | (with_reducible first | refine SW.seq ?_ | refine SW.block ?_ | refine SW.rowC ?_ | refine SW.skip ?_ | refine SW.exit ?_ | intro _ | refine And.intro (by omega) ?_) | simp (config := { maxSteps := 1000000 }) (disch := (first | omega | (simp only [go_sem]; try omega))) only [go_sem, Nat.reduceAdd, Nat.reduceEqDiff, Nat.reduceLeDiff, Nat.reduceMul, Nat.reduceLT, reduceIte, Int.reduceToNat, w64_id, cast_succ, hA0])
          refine SW.condT rfl ?_
          repeat (first | (with_reducible first | refine SW.seq ?_ | refine SW.block ?_ | refine SW.rowC ?_ | refine SW.skip ?_ | refine SW.exit ?_ | intro _ | refine And.intro (by omega) ?_) | simp (config := { maxSteps := 1000000 }) (disch := (first | omega | (simp only [go_sem]; try omega))) only [go_sem, Nat.reduceAdd, Nat.reduceEqDiff, Nat.reduceLeDiff, Nat.reduceMul, Nat.reduceLT, reduceIte, Int.reduceToNat, w64_id, cast_succ])
          refine SW.ret ?_
          refine FunPost.cell_tmp (cs := [I 0, nilS]) (by simp (config := { maxSteps := 1000000 }) (disch := (first | omega | (simp only [go_sem]; try omega))) only [go_sem, Nat.reduceAdd, Nat.reduceEqDiff, Nat.reduceLeDiff, Nat.reduceMul, Nat.reduceLT, reduceIte, Int.reduceToNat, w64_id, cast_succ]) ?_
          exact GR.of ⟨_, _, rfl, rfl, .inr ⟨rfl, .inl rfl⟩⟩
    · rw [if_neg hg]
      rw [Bool.not_eq_true] at hg
      rw [hg] at hv
      refine ACalls.introB s_impl_OrbitDesign (by simp) ?_; intro hB hA; unfold c_impl_OrbitDesign; simp (config := { maxSteps := 1000000 }) (disch := (first | omega | (simp only [go_sem]; try omega))) only [go_sem, Nat.reduceAdd, Nat.reduceEqDiff, Nat.reduceLeDiff, Nat.reduceMul, Nat.reduceLT, reduceIte, Int.reduceToNat, w64_id, cast_succ]
      repeat (first | (with_reducible first | refine SW.seq ?_ | refine SW.block ?_ | refine SW.rowC ?_ | refine SW.skip ?_ | refine SW.exit ?_ | refine PFn.use (hv) ?_ | refine PFn.useq (hv) ?_ | intro _ | refine And.intro (by omega) ?_) | simp (config := { maxSteps := 1000000 }) (disch := (first | omega | (simp only [go_sem]; try omega))) only [go_sem, Nat.reduceAdd, Nat.reduceEqDiff, Nat.reduceLeDiff, Nat.reduceMul, Nat.reduceLT, reduceIte, Int.reduceToNat, w64_id, cast_succ])
      refine SW.condT rfl ?_
      repeat (first | (with_reducible first | refine SW.seq ?_ | refine SW.block ?_ | refine SW.rowC ?_ | refine SW.skip ?_ | refine SW.exit ?_ | intro _ | refine And.intro (by omega) ?_) | simp (config := { maxSteps := 1000000 }) (disch := (first | omega | (simp only [go_sem]; try omega))) only [go_sem, Nat.reduceAdd, Nat.reduceEqDiff, Nat.reduceLeDiff, Nat.reduceMul, Nat.reduceLT, reduceIte, Int.reduceToNat, w64_id, cast_succ])
      refine SW.ret ?_
      refine FunPost.cell_tmp (cs := [I 0, nilS]) (by simp (config := { maxSteps := 1000000 }) (disch := (first | omega | (simp only [go_sem]; try omega))) only [go_sem, Nat.reduceAdd, Nat.reduceEqDiff, Nat.reduceLeDiff, Nat.reduceMul, Nat.reduceLT, reduceIte, Int.reduceToNat, w64_id, cast_succ]) ?_
      exact GR.of ⟨_, _, rfl, rfl, .inr ⟨rfl, .inl rfl⟩⟩
end Go.Proofs.YtkifdjjnbplghaaGreat
namespace Go.Proofs.YtkifdjjnbplghaaGreat
open Go.Av
abbrev f_spec_OrbitDesign : Nat := 30
def c_spec_OrbitDesign : SC :=
 .seq (.reg [
     ⟨(some 3), .box 33 (.tmp 0), none⟩,
     ⟨(some 6), .alloc 31 [(.int .i64 0), (.slice none 0 0)], none⟩,
     ⟨(some 7), .mv (.const (.int .i64 0)), none⟩] [1, 2, 3, 6])
 (.seq (.seq (.reg [
     ⟨(some 11), .call 41 [(.tmp 3)], none⟩,
     ⟨(some 12), .un .not (.tmp 11), none⟩] [1, 2, 3, 6, 12])
 (.cond (.tmp 12)
  (.seq (.reg [
      ⟨(some 13), .build [(.int .i64 0), (.slice none 0 0)] [], none⟩,
      ⟨none, .store 2 (.tmp 6) (.tmp 13), none⟩,
      ⟨(some 7), .mv (.const (.int .i64 1)), none⟩] [6, 7])
  (.ret))
  (.skip)))
 (.seq (.seq (.reg [
     ⟨(some 14), .mv (.tmp 1), none⟩,
     ⟨(some 15), .faddr 0 (.tmp 3), none⟩,
     ⟨(some 16), .load 1 false (.tmp 15), none⟩,
     ⟨(some 17), .call 56 [(.tmp 14), (.const (.int .i64 1)), (.tmp 16)], none⟩,
     ⟨(some 18), .un .not (.tmp 17), none⟩] [1, 2, 3, 6, 18])
 (.cond (.tmp 18)
  (.seq (.reg [
      ⟨(some 19), .build [(.int .i64 0), (.slice none 0 0)] [], none⟩,
      ⟨none, .store 2 (.tmp 6) (.tmp 19), none⟩,
      ⟨(some 7), .mv (.const (.int .i64 2)), none⟩] [6, 7])
  (.ret))
  (.skip)))
 (.seq (.seq (.reg [
     ⟨(some 20), .faddr 0 (.tmp 3), none⟩,
     ⟨(some 21), .load 1 false (.tmp 20), none⟩,
     ⟨(some 22), .mv (.tmp 1), none⟩,
     ⟨(some 23), .call 57 [(.tmp 21), (.tmp 22)], none⟩,
     ⟨(some 24), .bin .gtr (.tmp 23) (.const (.int .i64 2000)), none⟩] [1, 2, 3, 6, 24])
 (.cond (.tmp 24)
  (.seq (.reg [
      ⟨(some 25), .build [(.int .i64 0), (.slice none 0 0)] [], none⟩,
      ⟨none, .store 2 (.tmp 6) (.tmp 25), none⟩,
      ⟨(some 7), .mv (.const (.int .i64 5)), none⟩] [6, 7])
  (.ret))
  (.skip)))
 (.seq (.reg [
     ⟨(some 26), .mv (.tmp 1), none⟩,
     ⟨(some 27), .call 52 [(.tmp 3), (.tmp 26)], none⟩,
     ⟨(some 8), .mv (.tmp 27), none⟩] [2, 3, 6, 8])
 (.seq (.seq (.reg [
     ⟨(some 28), .mv (.tmp 2), none⟩,
     ⟨(some 29), .mv (.tmp 8), none⟩,
     ⟨(some 30), .len (.tmp 29), none⟩,
     ⟨(some 31), .bin .sub (.tmp 30) (.const (.int .i64 1)), none⟩,
     ⟨(some 32), .call 61 [(.tmp 28), (.const (.int .i64 0)), (.tmp 31)], none⟩,
     ⟨(some 33), .un .not (.tmp 32), none⟩] [2, 3, 6, 8, 33])
 (.cond (.tmp 33)
  (.seq (.reg [
      ⟨(some 34), .build [(.int .i64 0), (.slice none 0 0)] [], none⟩,
      ⟨none, .store 2 (.tmp 6) (.tmp 34), none⟩,
      ⟨(some 7), .mv (.const (.int .i64 2)), none⟩] [6, 7])
  (.ret))
  (.skip)))
 (.seq (.reg [
     ⟨(some 35), .bslice 51 1 0 [] [], none⟩,
     ⟨(some 9), .mv (.tmp 35), none⟩] [2, 3, 6, 8, 9])
 (.seq (.seq (.reg [
     ⟨(some 10), .mv (.const (.int .i64 0)), none⟩] [2, 3, 6, 8, 9, 10])
 (.block 0 (.loop [2, 3, 6, 8, 9, 10]
   (.seq (.seq (.reg [
       ⟨(some 36), .mv (.tmp 10), none⟩,
       ⟨(some 37), .mv (.tmp 2), none⟩,
       ⟨(some 38), .len (.tmp 37), none⟩,
       ⟨(some 39), .bin .lss (.tmp 36) (.tmp 38), none⟩] [2, 3, 6, 8, 9, 10, 39])
   (.cond (.tmp 39)
    (.skip)
    (.exit 0)))
   (.seq (.block 1 (.reg [
        ⟨(some 42), .mv (.tmp 9), none⟩,
        ⟨(some 43), .mv (.tmp 8), none⟩,
        ⟨(some 44), .mv (.tmp 2), none⟩,
        ⟨(some 45), .mv (.tmp 10), none⟩,
        ⟨(some 46), .iaddr 1 (.tmp 44) (.tmp 45), none⟩,
        ⟨(some 47), .load 1 false (.tmp 46), none⟩,
        ⟨(some 48), .iaddr 1 (.tmp 43) (.tmp 47), none⟩,
        ⟨(some 49), .load 1 false (.tmp 48), none⟩,
        ⟨(some 50), .app 51 1 24 (.tmp 42) (.tmp 49), none⟩,
        ⟨(some 9), .mv (.tmp 50), none⟩] [2, 3, 6, 8, 9, 10]))
   (.reg [
       ⟨(some 40), .mv (.tmp 10), none⟩,
       ⟨(some 41), .bin .add (.tmp 40) (.const (.int .i64 1)), none⟩,
       ⟨(some 10), .mv (.tmp 41), none⟩] [2, 3, 6, 8, 9, 10]))))))
 (.seq (.seq (.reg [
     ⟨(some 51), .mv (.tmp 9), none⟩,
     ⟨(some 52), .len (.tmp 51), none⟩,
     ⟨(some 53), .bin .gtr (.tmp 52) (.const (.int .i64 128)), none⟩] [3, 6, 9, 53])
 (.cond (.tmp 53)
  (.seq (.reg [
      ⟨(some 54), .build [(.int .i64 0), (.slice none 0 0)] [], none⟩,
      ⟨none, .store 2 (.tmp 6) (.tmp 54), none⟩,
      ⟨(some 7), .mv (.const (.int .i64 5)), none⟩] [6, 7])
  (.ret))
  (.skip)))
 (.seq (.reg [
     ⟨(some 55), .faddr 0 (.tmp 3), none⟩,
     ⟨(some 56), .load 1 false (.tmp 55), none⟩,
     ⟨(some 57), .mv (.tmp 9), none⟩,
     ⟨(some 58), .qcall 62 [(.tmp 57)], none⟩,
     ⟨(some 59), .build [(.int .i64 0), (.slice none 0 0)] [(0, 1, (.tmp 56)), (1, 1, (.tmp 58))], none⟩,
     ⟨none, .store 2 (.tmp 6) (.tmp 59), none⟩,
     ⟨(some 7), .mv (.const (.int .i64 0)), none⟩] [6, 7])
 (.ret))))))))))
theorem s_spec_OrbitDesign : stripF Tryz.prog 30 [[1, 2, 3, 6], [1, 2, 3, 6, 12], [6, 7], [1, 2, 3, 6, 18], [6, 7], [1, 2, 3, 6, 24], [6, 7], [2, 3, 6, 8], [2, 3, 6, 8, 33], [6, 7], [2, 3, 6, 8, 9], [2, 3, 6, 8, 9, 10], [2, 3, 6, 8, 9, 10], [2, 3, 6, 8, 9, 10, 39], [2, 3, 6, 8, 9, 10], [2, 3, 6, 8, 9, 10], [3, 6, 9, 53], [6, 7], [6, 7]] = some (c_spec_OrbitDesign, [.cell 6 2, .tmp 7], 60) := by kernel_rfl
theorem fin_od {H : List Blk} (N C : Int) (L : List (List Int)) (H' : List Blk) (p : Nat) (hH : H' = H ++ H'.drop H.length) (hp : H'[p]? = some ⟨0, tyDX, 1, [I N, ilSS L]⟩) {E : Env} (he : aget E 6 = .pc p 0 0) (hc : aget E 7 = I C) :
    FunPost [.cell 6 2, .tmp 7] H (fun r H' => r = .tup [.agg [I N, ilSS L], I C] ∧ H' = H) .ret E H' := by
  refine FunPost.cell_tmp (cs := [I N, ilSS L]) (by rw [he]; exact pc_lds hp (by simp)) ?_
  rw [hc, hH]
  exact GR.froz (r' := .tup [.agg [I N, ilSS L], I C]) (froz_tup2 (froz_agg2 (froz_I' _) (froz_ilSS _)) (froz_I' _)) ⟨rfl, rfl⟩
theorem fin_od0 {H : List Blk} (C : Int) (H' : List Blk) (p : Nat) (hH : H' = H ++ H'.drop H.length) (hp : H'[p]? = some ⟨0, tyDX, 1, [I 0, nilS]⟩) {E : Env} (he : aget E 6 = .pc p 0 0) (hc : aget E 7 = I C) :
    FunPost [.cell 6 2, .tmp 7] H (fun r H' => r = .tup [.agg [I 0, ilSS []], I C] ∧ H' = H) .ret E H' := by
  refine FunPost.cell_tmp (cs := [I 0, nilS]) (by rw [he]; exact pc_lds hp (by simp)) ?_
  rw [hc, hH]
  exact GR.froz (r' := .tup [.agg [I 0, ilSS []], I C]) (froz_tup2 (froz_agg2 (froz_I' _) .nil) (froz_I' _)) ⟨rfl, rfl⟩
theorem specOD_fn (n k : Int) (els : List (List Int)) (os : List Int) (hx : ∀ x ∈ os, (Lit.int .i64 x).wf = true) :
    PFn Tryz.prog f_spec_OrbitDesign [.agg [I n, ilSS els], I k, ilS os] (.tup [.agg [I (odN n els k os), ilSS (odV n els k os)], I (odA n els k os)]) := by
  have hw := l00In_fn k 1 n
  have hch := specChoose_fn n k
  have hfacts := @odB_facts n els k os
  have hri := fun h => l00Rises_fn os 0 h hx
  unfold odN odV
  unfold odA
  by_cases h0 : odP n els k os = 0
  · obtain ⟨hos, hvl, hbl, hbx⟩ := hfacts h0
    obtain ⟨hg, hk0, ha0, hs⟩ := odP_zero h0
    obtain ⟨hg', k0, k1, hc, en, ek⟩ := askV_zero ha0
    have hq := fun H p hp => l25Orbits_ok H p n.toNat k.toNat els (by have := hg'.1; omega) hg'.2.1.2 (hg'.2.2.1) (by omega) hc hp
    rw [← en, ← ek] at hq
    change ∀ H p hp, ACalls Tryz.prog f_spec_l25Orbits [.pc p 0 0, I k] H (fun r H' => r = il3 (orbsV n els k) ∧ H' = H) at hq
    have hrl := soV_sets0 ha0
    rw [show (decide (1 ≤ k) && decide (k ≤ n)) = true by simp; omega] at hw
    have dc : decide (2000 < chooseI n k) = false := decide_eq_false (by rw [en, ek, chooseI_ch _ _ (by have := hg'.1; omega) (by omega)]; omega)
    rw [if_pos h0]
    have hso := fun (H : List Blk) (a : AV) (ha : aview H a = some ((odB n els k os).length, (odB n els k os).map ilS)) => l10Sort_ok H a (odB n els k os) ha
    have hri0 := hri (((orbsV n els k).length : Int) - 1)
    rw [hs] at hri0
    unfold odB at *
    generalize orbsV n els k = V at *
    intro H; refine ACalls.introB s_spec_OrbitDesign (by simp) ?_; intro hB hA; unfold c_spec_OrbitDesign; simp (config := { maxSteps := 1000000 }) (disch := (first | omega | (simp only [go_sem]; try omega))) only [go_sem, Nat.reduceAdd, Nat.reduceEqDiff, Nat.reduceLeDiff, Nat.reduceMul, Nat.reduceLT, reduceIte, Int.reduceToNat, w64_id, cast_succ]
    repeat (first | (with_reducible first | refine SW.seq ?_ | refine SW.block ?_ | refine SW.rowC ?_ | refine SW.skip ?_ | refine SW.exit ?_ | intro _ | refine And.intro (by omega) ?_) | simp (config := { maxSteps := 1000000 }) (disch := (first | omega | (simp only [go_sem]; try omega))) only [go_sem, Nat.reduceAdd, Nat.reduceEqDiff, Nat.reduceLeDiff, Nat.reduceMul, Nat.reduceLT, reduceIte, Int.reduceToNat, w64_id, cast_succ])
    refine ACalls.fn (l05Ok_ok _ H.length n els (by simp)) ?_
    rw [hg]
    repeat (first | (with_reducible first | refine SW.seq ?_ | refine SW.block ?_ | refine SW.rowC ?_ | refine SW.skip ?_ | refine SW.exit ?_ | intro _ | refine And.intro (by omega) ?_) | simp (config := { maxSteps := 1000000 }) (disch := (first | omega | (simp only [go_sem]; try omega))) only [go_sem, Nat.reduceAdd, Nat.reduceEqDiff, Nat.reduceLeDiff, Nat.reduceMul, Nat.reduceLT, reduceIte, Int.reduceToNat, w64_id, cast_succ])
    refine SW.condF rfl ?_
    repeat (first | (with_reducible first | refine SW.seq ?_ | refine SW.block ?_ | refine SW.rowC ?_ | refine SW.skip ?_ | refine SW.exit ?_ | refine PFn.use (hw) ?_ | refine PFn.useq (hw) ?_ | intro _ | refine And.intro (by omega) ?_) | simp (config := { maxSteps := 1000000 }) (disch := (first | omega | (simp only [go_sem]; try omega))) only [go_sem, Nat.reduceAdd, Nat.reduceEqDiff, Nat.reduceLeDiff, Nat.reduceMul, Nat.reduceLT, reduceIte, Int.reduceToNat, w64_id, cast_succ])
    refine SW.condF rfl ?_
    repeat (first | (with_reducible first | refine SW.seq ?_ | refine SW.block ?_ | refine SW.rowC ?_ | refine SW.skip ?_ | refine SW.exit ?_ | refine PFn.use (hch) ?_ | refine PFn.useq (hch) ?_ | intro _ | refine And.intro (by omega) ?_) | simp (config := { maxSteps := 1000000 }) (disch := (first | omega | (simp only [go_sem]; try omega))) only [go_sem, Nat.reduceAdd, Nat.reduceEqDiff, Nat.reduceLeDiff, Nat.reduceMul, Nat.reduceLT, reduceIte, Int.reduceToNat, w64_id, cast_succ, dc])
    refine SW.condF rfl ?_
    repeat (first | (with_reducible first | refine SW.seq ?_ | refine SW.block ?_ | refine SW.rowC ?_ | refine SW.skip ?_ | refine SW.exit ?_ | intro _ | refine And.intro (by omega) ?_) | simp (config := { maxSteps := 1000000 }) (disch := (first | omega | (simp only [go_sem]; try omega))) only [go_sem, Nat.reduceAdd, Nat.reduceEqDiff, Nat.reduceLeDiff, Nat.reduceMul, Nat.reduceLT, reduceIte, Int.reduceToNat, w64_id, cast_succ])
    refine ACalls.fn (hq _ H.length (by simp)) ?_
    repeat (first | (with_reducible first | refine SW.seq ?_ | refine SW.block ?_ | refine SW.rowC ?_ | refine SW.skip ?_ | refine SW.exit ?_ | refine PFn.use (hri0) ?_ | refine PFn.useq (hri0) ?_ | intro _ | refine And.intro (by omega) ?_) | simp (config := { maxSteps := 1000000 }) (disch := (first | omega | (simp only [go_sem]; try omega))) only [go_sem, Nat.reduceAdd, Nat.reduceEqDiff, Nat.reduceLeDiff, Nat.reduceMul, Nat.reduceLT, reduceIte, Int.reduceToNat, w64_id, cast_succ])
    refine SW.condF rfl ?_
    repeat (first | (with_reducible first | refine SW.seq ?_ | refine SW.block ?_ | refine SW.rowC ?_ | refine SW.skip ?_ | refine SW.exit ?_ | intro _ | refine And.intro (by omega) ?_) | simp (config := { maxSteps := 1000000 }) (disch := (first | omega | (simp only [go_sem]; try omega))) only [go_sem, Nat.reduceAdd, Nat.reduceEqDiff, Nat.reduceLeDiff, Nat.reduceMul, Nat.reduceLT, reduceIte, Int.reduceToNat, w64_id, cast_succ])
    refine SW.loopE (fun E0 H0 q E' H' => ∃ (pre post : List Int) (ver : Nat), os = pre ++ post ∧ q = post.length ∧ E' = aput (aput E0 10 (I pre.length)) 9 (.nm (H.length + 2) ver 0 (pickL V pre).length) ∧ H' = H ++ [⟨0, tyG, 1, [I n, ilSS els]⟩, ⟨0, tyDX, 1, [I 0, nilS]⟩, ⟨ver, 51, 1, (pickL V pre).map ilS⟩]) os.length ⟨[], os, 0, rfl, rfl, rfl, rfl⟩ ?_
    rintro q E' H' ⟨pre, post, ver, hpp, rfl, rfl, rfl⟩
    have hprl : pre.length ≤ 2000 := by rw [hpp] at hos; simp at hos; omega
    have hpk := pickL_len hrl pre
    have hsn := fun o => pickL_snoc V pre o
    generalize hP : pickL V pre = P at *
    simp (config := { maxSteps := 1000000 }) (disch := (first | omega | (simp only [go_sem]; try omega))) only [go_sem, Nat.reduceAdd, Nat.reduceEqDiff, Nat.reduceLeDiff, Nat.reduceMul, Nat.reduceLT, reduceIte, Int.reduceToNat, w64_id, cast_succ]
    repeat (first | (with_reducible first | refine SW.seq ?_ | refine SW.block ?_ | refine SW.rowC ?_ | refine SW.skip ?_ | refine SW.exit ?_ | intro _ | refine And.intro (by omega) ?_) | simp (config := { maxSteps := 1000000 }) (disch := (first | omega | (simp only [go_sem]; try omega))) only [go_sem, Nat.reduceAdd, Nat.reduceEqDiff, Nat.reduceLeDiff, Nat.reduceMul, Nat.reduceLT, reduceIte, Int.reduceToNat, w64_id, cast_succ])
    (first | refine SW.condD rfl (fun h2 => ?_) (fun h2 => ?_) | refine SW.condN rfl (fun h2 => ?_) (fun h2 => ?_) | refine SW.condNB rfl (fun h2 => ?_) (fun h2 => ?_) | refine SW.condB rfl (fun h2 => ?_) (fun h2 => ?_))
    · obtain ⟨o, post, rfl, hg2, -⟩ := consOf (d := 0) hpp (by omega)
      have hom := asc_mem hs o (by rw [hpp]; simp)
      have eo : o = ((o.toNat : Nat) : Int) := by omega
      have hol : o.toNat < V.length := by omega
      have hR := (hrl (V.getD o.toNat []) (by rw [List.getD_eq_getElem?_getD, List.getElem?_eq_getElem hol]; exact List.getElem_mem _)).2
      have htl : (P.map ilS).take P.length = P.map ilS := List.take_of_length_le (by simp)
      rw [eo] at hg2
      have hsn' := hsn o
      generalize hR' : V.getD o.toNat [] = R at *
      repeat (first | (with_reducible first | refine SW.seq ?_ | refine SW.block ?_ | refine SW.rowC ?_ | refine SW.skip ?_ | refine SW.exit ?_ | intro _ | refine And.intro (by omega) ?_) | simp (config := { maxSteps := 1000000 }) (disch := (first | omega | (simp only [go_sem]; try omega))) only [go_sem, Nat.reduceAdd, Nat.reduceEqDiff, Nat.reduceLeDiff, Nat.reduceMul, Nat.reduceLT, reduceIte, Int.reduceToNat, w64_id, cast_succ, hg2, htl, hR'])
      refine SLoop.next post.length (by simp) ⟨pre ++ [o], post, ver + 1, by simp [hpp], rfl, ?_, ?_⟩
      · rw [hsn']; simp [go_sem]
      · rw [hsn']; simp
    · obtain ⟨rfl, rfl⟩ := nilOf hpp (by omega)
      rw [hP] at hso
      simp only [hP]
      by_cases hc : 128 < P.length
      · simp only [if_pos hc]
        have d1 : decide ((128 : Int) < (P.length : Int)) = true := decide_eq_true (by omega)
        repeat (first | (with_reducible first | refine SW.seq ?_ | refine SW.block ?_ | refine SW.rowC ?_ | refine SW.skip ?_ | refine SW.exit ?_ | intro _ | refine And.intro (by omega) ?_) | simp (config := { maxSteps := 1000000 }) (disch := (first | omega | (simp only [go_sem]; try omega))) only [go_sem, Nat.reduceAdd, Nat.reduceEqDiff, Nat.reduceLeDiff, Nat.reduceMul, Nat.reduceLT, reduceIte, Int.reduceToNat, w64_id, cast_succ, d1])
        refine SW.condT rfl ?_
        repeat (first | (with_reducible first | refine SW.seq ?_ | refine SW.block ?_ | refine SW.rowC ?_ | refine SW.skip ?_ | refine SW.exit ?_ | intro _ | refine And.intro (by omega) ?_) | simp (config := { maxSteps := 1000000 }) (disch := (first | omega | (simp only [go_sem]; try omega))) only [go_sem, Nat.reduceAdd, Nat.reduceEqDiff, Nat.reduceLeDiff, Nat.reduceMul, Nat.reduceLT, reduceIte, Int.reduceToNat, w64_id, cast_succ])
        refine SW.ret ?_
        exact fin_od0 _ _ (H.length + 1) (by simp) (by simp) rfl rfl
      · simp only [if_neg hc]
        have d1 : decide ((128 : Int) < (P.length : Int)) = false := decide_eq_false (by omega)
        repeat (first | (with_reducible first | refine SW.seq ?_ | refine SW.block ?_ | refine SW.rowC ?_ | refine SW.skip ?_ | refine SW.exit ?_ | intro _ | refine And.intro (by omega) ?_) | simp (config := { maxSteps := 1000000 }) (disch := (first | omega | (simp only [go_sem]; try omega))) only [go_sem, Nat.reduceAdd, Nat.reduceEqDiff, Nat.reduceLeDiff, Nat.reduceMul, Nat.reduceLT, reduceIte, Int.reduceToNat, w64_id, cast_succ, d1])
        refine SW.condF rfl ?_
        repeat (first | (with_reducible first | refine SW.seq ?_ | refine SW.block ?_ | refine SW.rowC ?_ | refine SW.skip ?_ | refine SW.exit ?_ | intro _ | refine And.intro (by omega) ?_) | simp (config := { maxSteps := 1000000 }) (disch := (first | omega | (simp only [go_sem]; try omega))) only [go_sem, Nat.reduceAdd, Nat.reduceEqDiff, Nat.reduceLeDiff, Nat.reduceMul, Nat.reduceLT, reduceIte, Int.reduceToNat, w64_id, cast_succ])
        have hvw : aview (H ++ [(⟨0, tyG, 1, [I n, ilSS els]⟩ : Blk), ⟨0, tyDX, 1, [I 0, nilS]⟩, ⟨ver, 51, 1, P.map ilS⟩]) (.nm (H.length + 2) ver 0 P.length) = some (P.length, P.map ilS) := view_nm (ty := 51) (by simp) (by simp)
        refine QcallW.of (fun ext => hso _ _ (aview_append hvw ext) (by omega) (fun x hx => by have := hbx x (by rw [hP]; exact hx); omega)) ?_
        repeat (first | (with_reducible first | refine SW.seq ?_ | refine SW.block ?_ | refine SW.rowC ?_ | refine SW.skip ?_ | refine SW.exit ?_ | intro _ | refine And.intro (by omega) ?_) | simp (config := { maxSteps := 1000000 }) (disch := (first | omega | (simp only [go_sem]; try omega))) only [go_sem, Nat.reduceAdd, Nat.reduceEqDiff, Nat.reduceLeDiff, Nat.reduceMul, Nat.reduceLT, reduceIte, Int.reduceToNat, w64_id, cast_succ])
        refine SW.ret ?_
        exact fin_od _ _ _ _ (H.length + 1) (by simp) (by simp) rfl rfl
  · simp only [if_neg h0]
    unfold odP at h0 ⊢
    by_cases hg : grpB n els = true
    · rw [if_pos hg] at h0 ⊢
      by_cases hk : 1 ≤ k ∧ k ≤ n
      · rw [if_neg (by omega)] at h0 ⊢
        rw [show (decide (1 ≤ k) && decide (k ≤ n)) = true by simp; omega] at hw
        by_cases hc : 2000 < chooseI n k
        · have ha : askV n els k = 5 := by
            unfold askV
            rw [if_pos hg, if_pos ⟨by omega, by omega⟩, if_pos hc]
          rw [if_neg (by omega), ha]
          have dc := decide_eq_true hc
          intro H; refine ACalls.introB s_spec_OrbitDesign (by simp) ?_; intro hB hA; unfold c_spec_OrbitDesign; simp (config := { maxSteps := 1000000 }) (disch := (first | omega | (simp only [go_sem]; try omega))) only [go_sem, Nat.reduceAdd, Nat.reduceEqDiff, Nat.reduceLeDiff, Nat.reduceMul, Nat.reduceLT, reduceIte, Int.reduceToNat, w64_id, cast_succ]
          repeat (first | (with_reducible first | refine SW.seq ?_ | refine SW.block ?_ | refine SW.rowC ?_ | refine SW.skip ?_ | refine SW.exit ?_ | intro _ | refine And.intro (by omega) ?_) | simp (config := { maxSteps := 1000000 }) (disch := (first | omega | (simp only [go_sem]; try omega))) only [go_sem, Nat.reduceAdd, Nat.reduceEqDiff, Nat.reduceLeDiff, Nat.reduceMul, Nat.reduceLT, reduceIte, Int.reduceToNat, w64_id, cast_succ])
          refine ACalls.fn (l05Ok_ok _ H.length n els (by simp)) ?_
          rw [hg]
          repeat (first | (with_reducible first | refine SW.seq ?_ | refine SW.block ?_ | refine SW.rowC ?_ | refine SW.skip ?_ | refine SW.exit ?_ | intro _ | refine And.intro (by omega) ?_) | simp (config := { maxSteps := 1000000 }) (disch := (first | omega | (simp only [go_sem]; try omega))) only [go_sem, Nat.reduceAdd, Nat.reduceEqDiff, Nat.reduceLeDiff, Nat.reduceMul, Nat.reduceLT, reduceIte, Int.reduceToNat, w64_id, cast_succ])
          refine SW.condF rfl ?_
          repeat (first | (with_reducible first | refine SW.seq ?_ | refine SW.block ?_ | refine SW.rowC ?_ | refine SW.skip ?_ | refine SW.exit ?_ | refine PFn.use (hw) ?_ | refine PFn.useq (hw) ?_ | intro _ | refine And.intro (by omega) ?_) | simp (config := { maxSteps := 1000000 }) (disch := (first | omega | (simp only [go_sem]; try omega))) only [go_sem, Nat.reduceAdd, Nat.reduceEqDiff, Nat.reduceLeDiff, Nat.reduceMul, Nat.reduceLT, reduceIte, Int.reduceToNat, w64_id, cast_succ])
          refine SW.condF rfl ?_
          repeat (first | (with_reducible first | refine SW.seq ?_ | refine SW.block ?_ | refine SW.rowC ?_ | refine SW.skip ?_ | refine SW.exit ?_ | refine PFn.use (hch) ?_ | refine PFn.useq (hch) ?_ | intro _ | refine And.intro (by omega) ?_) | simp (config := { maxSteps := 1000000 }) (disch := (first | omega | (simp only [go_sem]; try omega))) only [go_sem, Nat.reduceAdd, Nat.reduceEqDiff, Nat.reduceLeDiff, Nat.reduceMul, Nat.reduceLT, reduceIte, Int.reduceToNat, w64_id, cast_succ, dc])
          refine SW.condT rfl ?_
          repeat (first | (with_reducible first | refine SW.seq ?_ | refine SW.block ?_ | refine SW.rowC ?_ | refine SW.skip ?_ | refine SW.exit ?_ | intro _ | refine And.intro (by omega) ?_) | simp (config := { maxSteps := 1000000 }) (disch := (first | omega | (simp only [go_sem]; try omega))) only [go_sem, Nat.reduceAdd, Nat.reduceEqDiff, Nat.reduceLeDiff, Nat.reduceMul, Nat.reduceLT, reduceIte, Int.reduceToNat, w64_id, cast_succ])
          refine SW.ret ?_
          exact fin_od0 _ _ (H.length + 1) (by simp) (by simp) rfl rfl
        · have ha : askV n els k = 0 := by
            unfold askV
            rw [if_pos hg, if_pos ⟨by omega, by omega⟩, if_neg hc]
          rw [if_pos ha] at h0 ⊢
          obtain ⟨hg', k0, k1, hcc, en, ek⟩ := askV_zero ha
          have hq := fun H p hp => l25Orbits_ok H p n.toNat k.toNat els (by have := hg'.1; omega) hg'.2.1.2 (hg'.2.2.1) (by omega) hcc hp
          rw [← en, ← ek] at hq
          change ∀ H p hp, ACalls Tryz.prog f_spec_l25Orbits [.pc p 0 0, I k] H (fun r H' => r = il3 (orbsV n els k) ∧ H' = H) at hq
          have dc := decide_eq_false hc
          have h1 := soV_len n els k
          unfold soV at h1
          rw [if_pos ha] at h1
          have hri0 := hri (((orbsV n els k).length : Int) - 1)
          by_cases hs : asc 0 (((orbsV n els k).length : Int) - 1) os = true
          · rw [if_pos hs] at h0; exact absurd rfl h0
          · rw [if_neg hs]
            rw [Bool.not_eq_true] at hs
            rw [hs] at hri0
            generalize orbsV n els k = V at *
            intro H; refine ACalls.introB s_spec_OrbitDesign (by simp) ?_; intro hB hA; unfold c_spec_OrbitDesign; simp (config := { maxSteps := 1000000 }) (disch := (first | omega | (simp only [go_sem]; try omega))) only [go_sem, Nat.reduceAdd, Nat.reduceEqDiff, Nat.reduceLeDiff, Nat.reduceMul, Nat.reduceLT, reduceIte, Int.reduceToNat, w64_id, cast_succ]
            repeat (first | (with_reducible first | refine SW.seq ?_ | refine SW.block ?_ | refine SW.rowC ?_ | refine SW.skip ?_ | refine SW.exit ?_ | intro _ | refine And.intro (by omega) ?_) | simp (config := { maxSteps := 1000000 }) (disch := (first | omega | (simp only [go_sem]; try omega))) only [go_sem, Nat.reduceAdd, Nat.reduceEqDiff, Nat.reduceLeDiff, Nat.reduceMul, Nat.reduceLT, reduceIte, Int.reduceToNat, w64_id, cast_succ])
            refine ACalls.fn (l05Ok_ok _ H.length n els (by simp)) ?_
            rw [hg]
            repeat (first | (with_reducible first | refine SW.seq ?_ | refine SW.block ?_ | refine SW.rowC ?_ | refine SW.skip ?_ | refine SW.exit ?_ | intro _ | refine And.intro (by omega) ?_) | simp (config := { maxSteps := 1000000 }) (disch := (first | omega | (simp only [go_sem]; try omega))) only [go_sem, Nat.reduceAdd, Nat.reduceEqDiff, Nat.reduceLeDiff, Nat.reduceMul, Nat.reduceLT, reduceIte, Int.reduceToNat, w64_id, cast_succ])
            refine SW.condF rfl ?_
            repeat (first | (with_reducible first | refine SW.seq ?_ | refine SW.block ?_ | refine SW.rowC ?_ | refine SW.skip ?_ | refine SW.exit ?_ | refine PFn.use (hw) ?_ | refine PFn.useq (hw) ?_ | intro _ | refine And.intro (by omega) ?_) | simp (config := { maxSteps := 1000000 }) (disch := (first | omega | (simp only [go_sem]; try omega))) only [go_sem, Nat.reduceAdd, Nat.reduceEqDiff, Nat.reduceLeDiff, Nat.reduceMul, Nat.reduceLT, reduceIte, Int.reduceToNat, w64_id, cast_succ])
            refine SW.condF rfl ?_
            repeat (first | (with_reducible first | refine SW.seq ?_ | refine SW.block ?_ | refine SW.rowC ?_ | refine SW.skip ?_ | refine SW.exit ?_ | refine PFn.use (hch) ?_ | refine PFn.useq (hch) ?_ | intro _ | refine And.intro (by omega) ?_) | simp (config := { maxSteps := 1000000 }) (disch := (first | omega | (simp only [go_sem]; try omega))) only [go_sem, Nat.reduceAdd, Nat.reduceEqDiff, Nat.reduceLeDiff, Nat.reduceMul, Nat.reduceLT, reduceIte, Int.reduceToNat, w64_id, cast_succ, dc])
            refine SW.condF rfl ?_
            repeat (first | (with_reducible first | refine SW.seq ?_ | refine SW.block ?_ | refine SW.rowC ?_ | refine SW.skip ?_ | refine SW.exit ?_ | intro _ | refine And.intro (by omega) ?_) | simp (config := { maxSteps := 1000000 }) (disch := (first | omega | (simp only [go_sem]; try omega))) only [go_sem, Nat.reduceAdd, Nat.reduceEqDiff, Nat.reduceLeDiff, Nat.reduceMul, Nat.reduceLT, reduceIte, Int.reduceToNat, w64_id, cast_succ])
            refine ACalls.fn (hq _ H.length (by simp)) ?_
            repeat (first | (with_reducible first | refine SW.seq ?_ | refine SW.block ?_ | refine SW.rowC ?_ | refine SW.skip ?_ | refine SW.exit ?_ | refine PFn.use (hri0) ?_ | refine PFn.useq (hri0) ?_ | intro _ | refine And.intro (by omega) ?_) | simp (config := { maxSteps := 1000000 }) (disch := (first | omega | (simp only [go_sem]; try omega))) only [go_sem, Nat.reduceAdd, Nat.reduceEqDiff, Nat.reduceLeDiff, Nat.reduceMul, Nat.reduceLT, reduceIte, Int.reduceToNat, w64_id, cast_succ])
            refine SW.condT rfl ?_
            repeat (first | (with_reducible first | refine SW.seq ?_ | refine SW.block ?_ | refine SW.rowC ?_ | refine SW.skip ?_ | refine SW.exit ?_ | intro _ | refine And.intro (by omega) ?_) | simp (config := { maxSteps := 1000000 }) (disch := (first | omega | (simp only [go_sem]; try omega))) only [go_sem, Nat.reduceAdd, Nat.reduceEqDiff, Nat.reduceLeDiff, Nat.reduceMul, Nat.reduceLT, reduceIte, Int.reduceToNat, w64_id, cast_succ])
            refine SW.ret ?_
            exact fin_od0 _ _ (H.length + 1) (by simp) (by simp) rfl rfl
      · have e2 : (if k = 0 then (2 : Int) else if askV n els k = 0 then (if asc 0 (((orbsV n els k).length : Int) - 1) os = true then 0 else 2) else askV n els k) = 2 := by
          by_cases hk0 : k = 0
          · rw [if_pos hk0]
          · have ha : askV n els k = 2 := by
              unfold askV
              rw [if_pos hg, if_neg (by omega)]
            rw [if_neg hk0, if_neg (by omega), ha]
        rw [e2]
        rw [show (decide (1 ≤ k) && decide (k ≤ n)) = false by rw [Bool.and_eq_false_iff, decide_eq_false_iff_not, decide_eq_false_iff_not]; omega] at hw
        intro H; refine ACalls.introB s_spec_OrbitDesign (by simp) ?_; intro hB hA; unfold c_spec_OrbitDesign; simp (config := { maxSteps := 1000000 }) (disch := (first | omega | (simp only [go_sem]; try omega))) only [go_sem, Nat.reduceAdd, Nat.reduceEqDiff, Nat.reduceLeDiff, Nat.reduceMul, Nat.reduceLT, reduceIte, Int.reduceToNat, w64_id, cast_succ]
        repeat (first | (with_reducible first | refine SW.seq ?_ | refine SW.block ?_ | refine SW.rowC ?_ | refine SW.skip ?_ | refine SW.exit ?_ | intro _ | refine And.intro (by omega) ?_) | simp (config := { maxSteps := 1000000 }) (disch := (first | omega | (simp only [go_sem]; try omega))) only [go_sem, Nat.reduceAdd, Nat.reduceEqDiff, Nat.reduceLeDiff, Nat.reduceMul, Nat.reduceLT, reduceIte, Int.reduceToNat, w64_id, cast_succ])
        refine ACalls.fn (l05Ok_ok _ H.length n els (by simp)) ?_
        rw [hg]
        repeat (first | (with_reducible first | refine SW.seq ?_ | refine SW.block ?_ | refine SW.rowC ?_ | refine SW.skip ?_ | refine SW.exit ?_ | intro _ | refine And.intro (by omega) ?_) | simp (config := { maxSteps := 1000000 }) (disch := (first | omega | (simp only [go_sem]; try omega))) only [go_sem, Nat.reduceAdd, Nat.reduceEqDiff, Nat.reduceLeDiff, Nat.reduceMul, Nat.reduceLT, reduceIte, Int.reduceToNat, w64_id, cast_succ])
        refine SW.condF rfl ?_
        repeat (first | (with_reducible first | refine SW.seq ?_ | refine SW.block ?_ | refine SW.rowC ?_ | refine SW.skip ?_ | refine SW.exit ?_ | refine PFn.use (hw) ?_ | refine PFn.useq (hw) ?_ | intro _ | refine And.intro (by omega) ?_) | simp (config := { maxSteps := 1000000 }) (disch := (first | omega | (simp only [go_sem]; try omega))) only [go_sem, Nat.reduceAdd, Nat.reduceEqDiff, Nat.reduceLeDiff, Nat.reduceMul, Nat.reduceLT, reduceIte, Int.reduceToNat, w64_id, cast_succ])
        refine SW.condT rfl ?_
        repeat (first | (with_reducible first | refine SW.seq ?_ | refine SW.block ?_ | refine SW.rowC ?_ | refine SW.skip ?_ | refine SW.exit ?_ | intro _ | refine And.intro (by omega) ?_) | simp (config := { maxSteps := 1000000 }) (disch := (first | omega | (simp only [go_sem]; try omega))) only [go_sem, Nat.reduceAdd, Nat.reduceEqDiff, Nat.reduceLeDiff, Nat.reduceMul, Nat.reduceLT, reduceIte, Int.reduceToNat, w64_id, cast_succ])
        refine SW.ret ?_
        exact fin_od0 _ _ (H.length + 1) (by simp) (by simp) rfl rfl
    · rw [if_neg hg]
      rw [Bool.not_eq_true] at hg
      intro H; refine ACalls.introB s_spec_OrbitDesign (by simp) ?_; intro hB hA; unfold c_spec_OrbitDesign; simp (config := { maxSteps := 1000000 }) (disch := (first | omega | (simp only [go_sem]; try omega))) only [go_sem, Nat.reduceAdd, Nat.reduceEqDiff, Nat.reduceLeDiff, Nat.reduceMul, Nat.reduceLT, reduceIte, Int.reduceToNat, w64_id, cast_succ]
      repeat (first | (with_reducible first | refine SW.seq ?_ | refine SW.block ?_ | refine SW.rowC ?_ | refine SW.skip ?_ | refine SW.exit ?_ | intro _ | refine And.intro (by omega) ?_) | simp (config := { maxSteps := 1000000 }) (disch := (first | omega | (simp only [go_sem]; try omega))) only [go_sem, Nat.reduceAdd, Nat.reduceEqDiff, Nat.reduceLeDiff, Nat.reduceMul, Nat.reduceLT, reduceIte, Int.reduceToNat, w64_id, cast_succ])
      refine ACalls.fn (l05Ok_ok _ H.length n els (by simp)) ?_
      rw [hg]
      repeat (first | (with_reducible first | refine SW.seq ?_ | refine SW.block ?_ | refine SW.rowC ?_ | refine SW.skip ?_ | refine SW.exit ?_ | intro _ | refine And.intro (by omega) ?_) | simp (config := { maxSteps := 1000000 }) (disch := (first | omega | (simp only [go_sem]; try omega))) only [go_sem, Nat.reduceAdd, Nat.reduceEqDiff, Nat.reduceLeDiff, Nat.reduceMul, Nat.reduceLT, reduceIte, Int.reduceToNat, w64_id, cast_succ])
      refine SW.condT rfl ?_
      repeat (first | (with_reducible first | refine SW.seq ?_ | refine SW.block ?_ | refine SW.rowC ?_ | refine SW.skip ?_ | refine SW.exit ?_ | intro _ | refine And.intro (by omega) ?_) | simp (config := { maxSteps := 1000000 }) (disch := (first | omega | (simp only [go_sem]; try omega))) only [go_sem, Nat.reduceAdd, Nat.reduceEqDiff, Nat.reduceLeDiff, Nat.reduceMul, Nat.reduceLT, reduceIte, Int.reduceToNat, w64_id, cast_succ])
      refine SW.ret ?_
      exact fin_od0 _ _ (H.length + 1) (by simp) (by simp) rfl rfl
theorem odV_len (n k : Int) (els : List (List Int)) (os : List Int) : (odV n els k os).length ≤ 128 ∧ total (odV n els k os) ≤ 4096 := by
  unfold odV
  by_cases h : odA n els k os = 0
  · rw [if_pos h]
    unfold odA at h
    by_cases h0 : odP n els k os = 0
    · rw [if_pos h0] at h
      have hc : ¬ 128 < (odB n els k os).length := by
        intro hc
        rw [if_pos hc] at h
        omega
      obtain ⟨_, _, _, hbx⟩ := odB_facts h0
      have hp := (sortD_fact cmpL_tot (odB n els k os)).1
      have hl := hp.length_eq
      refine ⟨by omega, ?_⟩
      have := total_le (c := 32) (xss := sortD cmpL (odB n els k os)) (fun x hx => hbx x (hp.mem_iff.1 hx))
      omega
    · rw [if_neg h0] at h; exact absurd h h0
  · rw [if_neg h]; simp [total]
end Go.Proofs.YtkifdjjnbplghaaGreat
