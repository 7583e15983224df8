/- KramerMesner: the program. -/
import Derived.Test.YthogadbnddmkdaaGreatProg
import Derived.KernelRfl
import Derived.Test.YthogadbnddmkdaaGreatzY4
import Derived.Test.YthogadbnddmkdaaGreatzYB
import Derived.Test.YthogadbnddmkdaaGreatzY7
set_option linter.unusedSimpArgs false
set_option linter.unusedVariables false
set_option maxHeartbeats 4000000
set_option maxRecDepth 100000
namespace Go.Proofs.YthogadbnddmkdaaGreat
open Go.Av
abbrev f_impl_KramerMesner : Nat := 31
def c_impl_KramerMesner : SC :=
 .seq (.reg [
     ⟨(some 3), .box 44 (.tmp 0), none⟩,
     ⟨(some 6), .mv (.const (.slice none 0 0)), none⟩,
     ⟨(some 7), .mv (.const (.int .i64 0)), none⟩] [1, 2, 3])
 (.seq (.block 0 (.seq (.reg [
      ⟨(some 20), .load 2 true (.tmp 3), none⟩,
      ⟨(some 21), .call 62 [(.tmp 20)], none⟩,
      ⟨(some 22), .un .not (.tmp 21), none⟩,
      ⟨(some 19), .mv (.tmp 22), none⟩] [1, 2, 3, 19])
  (.cond (.tmp 19)
   (.seq (.reg [
       ⟨(some 6), .mv (.const (.slice none 0 0)), none⟩,
       ⟨(some 7), .mv (.const (.int .i64 1)), none⟩] [6, 7])
   (.ret))
   (.seq (.reg [
       ⟨(some 24), .mv (.tmp 1), none⟩,
       ⟨(some 25), .mv (.tmp 2), none⟩,
       ⟨(some 26), .call 52 [(.tmp 24), (.const (.int .i64 0)), (.tmp 25)], none⟩,
       ⟨(some 27), .un .not (.tmp 26), none⟩,
       ⟨(some 28), .mv (.tmp 27), none⟩,
       ⟨(some 29), .mv (.tmp 2), (some (28, false))⟩,
       ⟨(some 30), .faddr 0 (.tmp 3), (some (28, false))⟩,
       ⟨(some 31), .load 1 false (.tmp 30), (some (28, false))⟩,
       ⟨(some 32), .bin .gtr (.tmp 29) (.tmp 31), (some (28, false))⟩,
       ⟨(some 33), .pick (.tmp 28) (.const (.bool true)) (.tmp 32), none⟩,
       ⟨(some 23), .mv (.tmp 33), none⟩] [1, 2, 3, 23])
   (.cond (.tmp 23)
    (.seq (.reg [
        ⟨(some 6), .mv (.const (.slice none 0 0)), none⟩,
        ⟨(some 7), .mv (.const (.int .i64 2)), none⟩] [6, 7])
    (.ret))
    (.skip))))))
 (.seq (.seq (.reg [
     ⟨(some 34), .load 2 true (.tmp 3), none⟩,
     ⟨(some 35), .mv (.tmp 1), none⟩,
     ⟨(some 36), .mv (.tmp 2), none⟩,
     ⟨(some 37), .bslice 2 1 2 [(.int .i64 0), (.int .i64 0)] [(0, (.tmp 35)), (1, (.tmp 36))], none⟩,
     ⟨(some 38), .call 60 [(.tmp 34), (.tmp 37)], none⟩,
     ⟨(some 8), .mv (.tmp 38), none⟩] [1, 2, 3, 8])
 (.seq (.reg [
     ⟨(some 39), .mv (.tmp 8), none⟩,
     ⟨(some 40), .bin .neq (.tmp 39) (.const (.int .i64 0)), none⟩] [1, 2, 3, 8, 40])
 (.cond (.tmp 40)
  (.seq (.reg [
      ⟨(some 41), .mv (.tmp 8), none⟩,
      ⟨(some 6), .mv (.const (.slice none 0 0)), none⟩,
      ⟨(some 7), .mv (.tmp 41), none⟩] [6, 7])
  (.ret))
  (.skip))))
 (.seq (.reg [
     ⟨(some 42), .load 2 true (.tmp 3), none⟩,
     ⟨(some 43), .mv (.tmp 2), none⟩,
     ⟨(some 44), .call 61 [(.tmp 42), (.tmp 43)], none⟩,
     ⟨(some 9), .mv (.tmp 44), none⟩] [1, 3, 9])
 (.seq (.reg [
     ⟨(some 10), .mv (.const (.slice none 0 0)), none⟩] [1, 3, 9, 10])
 (.seq (.seq (.reg [
     ⟨(some 45), .load 2 true (.tmp 3), none⟩,
     ⟨(some 46), .mv (.tmp 1), none⟩,
     ⟨(some 47), .call 61 [(.tmp 45), (.tmp 46)], none⟩,
     ⟨(some 48), .len (.tmp 47), none⟩,
     ⟨(some 49), .mv (.const (.int .i64 0)), none⟩] [9, 10, 47, 48, 49])
 (.block 1 (.loop [9, 10, 47, 48, 49]
   (.seq (.reg [
       ⟨(some 50), .bin .lss (.tmp 49) (.tmp 48), none⟩] [9, 10, 47, 48, 49, 50])
   (.seq (.cond (.tmp 50)
    (.skip)
    (.exit 1))
   (.seq (.block 2 (.seq (.reg [
        ⟨(some 51), .iaddr 1 (.tmp 47) (.tmp 49), none⟩,
        ⟨(some 52), .load 1 false (.tmp 51), none⟩,
        ⟨(some 12), .mv (.tmp 52), none⟩] [9, 10, 12, 47, 48, 49])
    (.seq (.reg [
        ⟨(some 13), .mv (.const (.slice none 0 0)), none⟩] [9, 10, 12, 13, 47, 48, 49])
    (.seq (.seq (.reg [
        ⟨(some 53), .mv (.tmp 9), none⟩,
        ⟨(some 54), .len (.tmp 53), none⟩,
        ⟨(some 55), .mv (.const (.int .i64 0)), none⟩] [9, 10, 12, 13, 47, 48, 49, 53, 54, 55])
    (.block 3 (.loop [9, 10, 12, 13, 47, 48, 49, 53, 54, 55]
      (.seq (.reg [
          ⟨(some 56), .bin .lss (.tmp 55) (.tmp 54), none⟩] [9, 10, 12, 13, 47, 48, 49, 53, 54, 55, 56])
      (.seq (.cond (.tmp 56)
       (.skip)
       (.exit 3))
      (.seq (.block 4 (.seq (.reg [
           ⟨(some 57), .iaddr 1 (.tmp 53) (.tmp 55), none⟩,
           ⟨(some 58), .load 1 false (.tmp 57), none⟩,
           ⟨(some 15), .mv (.tmp 58), none⟩] [9, 10, 12, 13, 15, 47, 48, 49, 53, 54, 55])
       (.seq (.reg [
           ⟨(some 16), .mv (.const (.int .i64 0)), none⟩] [9, 10, 12, 13, 15, 16, 47, 48, 49, 53, 54, 55])
       (.seq (.seq (.reg [
           ⟨(some 59), .mv (.tmp 15), none⟩,
           ⟨(some 60), .len (.tmp 59), none⟩,
           ⟨(some 61), .mv (.const (.int .i64 0)), none⟩] [9, 10, 12, 13, 16, 47, 48, 49, 53, 54, 55, 59, 60, 61])
       (.block 5 (.loop [9, 10, 12, 13, 16, 47, 48, 49, 53, 54, 55, 59, 60, 61]
         (.seq (.reg [
             ⟨(some 62), .bin .lss (.tmp 61) (.tmp 60), none⟩] [9, 10, 12, 13, 16, 47, 48, 49, 53, 54, 55, 59, 60, 61, 62])
         (.seq (.cond (.tmp 62)
          (.skip)
          (.exit 5))
         (.seq (.block 6 (.seq (.reg [
              ⟨(some 63), .iaddr 1 (.tmp 59) (.tmp 61), none⟩,
              ⟨(some 64), .load 1 false (.tmp 63), none⟩,
              ⟨(some 18), .mv (.tmp 64), none⟩] [9, 10, 12, 13, 16, 18, 47, 48, 49, 53, 54, 55, 59, 60, 61])
          (.seq (.reg [
              ⟨(some 65), .mv (.tmp 18), none⟩,
              ⟨(some 66), .mv (.tmp 12), none⟩,
              ⟨(some 67), .iaddr 1 (.tmp 66) (.const (.int .i64 0)), none⟩,
              ⟨(some 68), .load 1 false (.tmp 67), none⟩,
              ⟨(some 69), .call 75 [(.tmp 65), (.tmp 68)], none⟩] [9, 10, 12, 13, 16, 47, 48, 49, 53, 54, 55, 59, 60, 61, 69])
          (.cond (.tmp 69)
           (.reg [
               ⟨(some 70), .mv (.tmp 16), none⟩,
               ⟨(some 71), .bin .add (.tmp 70) (.const (.int .i64 1)), none⟩,
               ⟨(some 16), .mv (.tmp 71), none⟩] [9, 10, 12, 13, 16, 47, 48, 49, 53, 54, 55, 59, 60, 61])
           (.skip)))))
         (.reg [
             ⟨(some 72), .bin .add (.tmp 61) (.const (.int .i64 1)), none⟩,
             ⟨(some 61), .mv (.tmp 72), none⟩] [9, 10, 12, 13, 16, 47, 48, 49, 53, 54, 55, 59, 60, 61])))))))
       (.reg [
           ⟨(some 73), .mv (.tmp 13), none⟩,
           ⟨(some 74), .mv (.tmp 16), none⟩,
           ⟨(some 75), .bslice 2 1 1 [(.int .i64 0)] [(0, (.tmp 74))], none⟩,
           ⟨(some 76), .app 2 1 8 (.tmp 73) (.tmp 75), none⟩,
           ⟨(some 13), .mv (.tmp 76), none⟩] [9, 10, 12, 13, 47, 48, 49, 53, 54, 55])))))
      (.reg [
          ⟨(some 77), .bin .add (.tmp 55) (.const (.int .i64 1)), none⟩,
          ⟨(some 55), .mv (.tmp 77), none⟩] [9, 10, 12, 13, 47, 48, 49, 53, 54, 55])))))))
    (.reg [
        ⟨(some 78), .mv (.tmp 10), none⟩,
        ⟨(some 79), .mv (.tmp 13), none⟩,
        ⟨(some 80), .bslice 50 1 1 [(.slice none 0 0)] [(0, (.tmp 79))], none⟩,
        ⟨(some 81), .app 50 1 24 (.tmp 78) (.tmp 80), none⟩,
        ⟨(some 10), .mv (.tmp 81), none⟩] [9, 10, 47, 48, 49])))))
   (.reg [
       ⟨(some 82), .bin .add (.tmp 49) (.const (.int .i64 1)), none⟩,
       ⟨(some 49), .mv (.tmp 82), none⟩] [9, 10, 47, 48, 49])))))))
 (.seq (.reg [
     ⟨(some 83), .mv (.tmp 10), none⟩,
     ⟨(some 6), .mv (.tmp 83), none⟩,
     ⟨(some 7), .mv (.const (.int .i64 0)), none⟩] [6, 7])
 (.ret)))))))
theorem s_impl_KramerMesner : stripF Tryz.prog 31 [[1, 2, 3], [1, 2, 3, 19], [6, 7], [1, 2, 3, 23], [6, 7], [1, 2, 3, 8], [1, 2, 3, 8, 40], [6, 7], [1, 3, 9], [1, 3, 9, 10], [9, 10, 47, 48, 49], [9, 10, 47, 48, 49], [9, 10, 47, 48, 49, 50], [9, 10, 12, 47, 48, 49], [9, 10, 12, 13, 47, 48, 49], [9, 10, 12, 13, 47, 48, 49, 53, 54, 55], [9, 10, 12, 13, 47, 48, 49, 53, 54, 55], [9, 10, 12, 13, 47, 48, 49, 53, 54, 55, 56], [9, 10, 12, 13, 15, 47, 48, 49, 53, 54, 55], [9, 10, 12, 13, 15, 16, 47, 48, 49, 53, 54, 55], [9, 10, 12, 13, 16, 47, 48, 49, 53, 54, 55, 59, 60, 61], [9, 10, 12, 13, 16, 47, 48, 49, 53, 54, 55, 59, 60, 61], [9, 10, 12, 13, 16, 47, 48, 49, 53, 54, 55, 59, 60, 61, 62], [9, 10, 12, 13, 16, 18, 47, 48, 49, 53, 54, 55, 59, 60, 61], [9, 10, 12, 13, 16, 47, 48, 49, 53, 54, 55, 59, 60, 61, 69], [9, 10, 12, 13, 16, 47, 48, 49, 53, 54, 55, 59, 60, 61], [9, 10, 12, 13, 16, 47, 48, 49, 53, 54, 55, 59, 60, 61], [9, 10, 12, 13, 47, 48, 49, 53, 54, 55], [9, 10, 12, 13, 47, 48, 49, 53, 54, 55], [9, 10, 47, 48, 49], [9, 10, 47, 48, 49], [6, 7]] = some (c_impl_KramerMesner, [.tmp 6, .tmp 7], 84) := by kernel_rfl
noncomputable def kmA (n : Int) (els : List (List Int)) (t k : Int) : Int := if grpB n els = true then (if (0 ≤ k ∧ k ≤ n) ∧ 0 ≤ t ∧ t ≤ k then (if 2000 < chooseI n t ∨ 2000 < chooseI n k then 5 else 0) else 2) else 1
noncomputable def kmV (n : Int) (els : List (List Int)) (t k : Int) : List (List Int) := if kmA n els t k = 0 then kmM (orbsV n els t) (orbsV n els k) else []
theorem kmA_zero {n : Int} {els : List (List Int)} {t k : Int} (h : kmA n els t k = 0) : grpB n els = true ∧ 0 ≤ k ∧ k ≤ n ∧ 0 ≤ t ∧ t ≤ k ∧ ¬ 2000 < chooseI n t ∧ ¬ 2000 < chooseI n k ∧ askV n els t = 0 ∧ askV n els k = 0 := by
  unfold kmA at h
  unfold askV
  split at h
  · rename_i hg
    split at h
    · rename_i hk
      split at h
      · omega
      · rename_i hc
        refine ⟨hg, hk.1.1, hk.1.2, hk.2.1, hk.2.2, fun h => hc (.inl h), fun h => hc (.inr h), ?_, ?_⟩
        · rw [if_pos hg, if_pos ⟨by omega, by omega⟩, if_neg (fun h => hc (.inl h))]
        · rw [if_pos hg, if_pos ⟨by omega, by omega⟩, if_neg (fun h => hc (.inr h))]
    · omega
  · omega
theorem soV_sets0 {n : Int} {els : List (List Int)} {k : Int} (h : askV n els k = 0) : ∀ R ∈ orbsV n els k, R ≠ [] ∧ R.length ≤ 720 := by
  obtain ⟨hg, k0, k1, hc, en, ek⟩ := askV_zero h
  intro R hR
  unfold orbsV at hR
  exact orbL_rows hg.2.1.1 hg.2.1.2 _ R hR
theorem subsetOrbits_pf {n : Int} {els : List (List Int)} {k : Int} (h : askV n els k = 0) : PFn Tryz.prog f_impl_subsetOrbits [.agg [I n, ilSS els], I k] (il3 (orbsV n els k)) := by
  obtain ⟨hg, k0, k1, hc, en, ek⟩ := askV_zero h
  have hs := subsetOrbits_fn n.toNat k.toNat els (by have := hg.1; omega) hg.2.1.1 hg.2.1.2 (hg.2.2.1) (by omega) hc
  rw [← en, ← ek] at hs
  exact hs
theorem kmRows_ok (H : List Blk) (n t k : Int) (els : List (List Int)) (h0 : kmA n els t k = 0) (hl : ∀ x ∈ els, x.length ≤ 2000000) (hl2 : els.length ≤ 2000000) :
    ACalls Tryz.prog f_impl_KramerMesner [.agg [I n, ilSS els], I t, I k] H fun r H' => ∃ ext v, H' = H ++ ext ∧ r = .tup [v, I 0] ∧ OwnSS H' (Btw H.length H'.length) v (kmM (orbsV n els t) (orbsV n els k)) := by
  obtain ⟨hg, k0, k1, t0, t1, c1, c2, at0, ak0⟩ := kmA_zero h0
  have hv := ValidGroup_fn n els hl hl2
  have hw := within_fn t 0 k
  have hq := countable_fn n els [t, k] hl hl2
  rw [hg] at hv
  rw [show (decide (0 ≤ t) && decide (t ≤ k)) = true by simp [t0, t1]] at hw
  rw [show askL n els [t, k] = 0 by
    unfold askL
    rw [if_pos hg, if_pos (by simp [t0, k0, k1]; omega), if_neg (by simp; omega)]] at hq
  have dd : decide (n < k) = false := decide_eq_false (by omega)
  have hst := soV_sets0 at0
  have hsk := soV_sets0 ak0
  have hlt := soV_len n els t
  have hlk := soV_len n els k
  unfold soV at hlt hlk
  rw [if_pos at0] at hlt
  rw [if_pos ak0] at hlk
  have ht := subsetOrbits_pf at0
  have hk := subsetOrbits_pf ak0
  generalize orbsV n els t = rows at *
  generalize orbsV n els k = cols at *
  refine ACalls.introB s_impl_KramerMesner (by simp) ?_; intro hB hA; unfold c_impl_KramerMesner; simp (config := { maxSteps := 1000000 }) (disch := (first | omega | (simp only [go_sem]; try omega))) only [go_sem, Nat.reduceAdd, Nat.reduceEqDiff, Nat.reduceLeDiff, Nat.reduceMul, Nat.reduceLT, reduceIte, Int.reduceToNat, w64_id, cast_succ]
  repeat (first | (with_reducible first | refine SW.seq ?_ | refine SW.block ?_ | refine SW.rowC ?_ | refine SW.skip ?_ | refine SW.exit ?_ | refine PFn.use (hv) ?_ | refine PFn.useq (hv) ?_ | intro _ | refine And.intro (by omega) ?_) | simp (config := { maxSteps := 1000000 }) (disch := (first | omega | (simp only [go_sem]; try omega))) only [go_sem, Nat.reduceAdd, Nat.reduceEqDiff, Nat.reduceLeDiff, Nat.reduceMul, Nat.reduceLT, reduceIte, Int.reduceToNat, w64_id, cast_succ])
  refine SW.condF rfl ?_
  repeat (first | (with_reducible first | refine SW.seq ?_ | refine SW.block ?_ | refine SW.rowC ?_ | refine SW.skip ?_ | refine SW.exit ?_ | refine PFn.use (hw) ?_ | refine PFn.useq (hw) ?_ | intro _ | refine And.intro (by omega) ?_) | simp (config := { maxSteps := 1000000 }) (disch := (first | omega | (simp only [go_sem]; try omega))) only [go_sem, Nat.reduceAdd, Nat.reduceEqDiff, Nat.reduceLeDiff, Nat.reduceMul, Nat.reduceLT, reduceIte, Int.reduceToNat, w64_id, cast_succ, dd])
  refine SW.condF rfl ?_
  repeat (first | (with_reducible first | refine SW.seq ?_ | refine SW.block ?_ | refine SW.rowC ?_ | refine SW.skip ?_ | refine SW.exit ?_ | intro _ | refine And.intro (by omega) ?_) | simp (config := { maxSteps := 1000000 }) (disch := (first | omega | (simp only [go_sem]; try omega))) only [go_sem, Nat.reduceAdd, Nat.reduceEqDiff, Nat.reduceLeDiff, Nat.reduceMul, Nat.reduceLT, reduceIte, Int.reduceToNat, w64_id, cast_succ])
  refine hq.usel (.cons (froz_agg2 (froz_I' _) (froz_ilSS _)) (.cons (froz_row (r := H.length + 1) (ver := 0) (ty := 2) (xs := [t, k]) (Nat.zero_le _) (by simp)) .nil)) ?_
  repeat (first | (with_reducible first | refine SW.seq ?_ | refine SW.block ?_ | refine SW.rowC ?_ | refine SW.skip ?_ | refine SW.exit ?_ | intro _ | refine And.intro (by omega) ?_) | simp (config := { maxSteps := 1000000 }) (disch := (first | omega | (simp only [go_sem]; try omega))) only [go_sem, Nat.reduceAdd, Nat.reduceEqDiff, Nat.reduceLeDiff, Nat.reduceMul, Nat.reduceLT, reduceIte, Int.reduceToNat, w64_id, cast_succ])
  refine SW.condF rfl ?_
  repeat (first | (with_reducible first | refine SW.seq ?_ | refine SW.block ?_ | refine SW.rowC ?_ | refine SW.skip ?_ | refine SW.exit ?_ | refine PFn.use (hk) ?_ | refine PFn.useq (hk) ?_ | refine PFn.use (ht) ?_ | refine PFn.useq (ht) ?_ | intro _ | refine And.intro (by omega) ?_) | simp (config := { maxSteps := 1000000 }) (disch := (first | omega | (simp only [go_sem]; try omega))) only [go_sem, Nat.reduceAdd, Nat.reduceEqDiff, Nat.reduceLeDiff, Nat.reduceMul, Nat.reduceLT, reduceIte, Int.reduceToNat, w64_id, cast_succ])
  refine SW.loopE (fun E0 H0 q E' H' => ∃ (pre post : List (List (List Int))) (v : AV), rows = pre ++ post ∧ q = post.length ∧ E' = aput (aput E0 49 (I pre.length)) 10 v ∧ GrowSS H' (H.length + 2) tyLL v (kmM pre cols) ∧ H.length + 2 ≤ H'.length ∧ ∀ j, j < H.length → H'[j]? = H[j]?) rows.length ⟨[], rows, nilS, rfl, rfl, rfl, .inl ⟨rfl, rfl⟩, by simp, fun j hj => by rw [List.getElem?_append_left hj]⟩ ?_
  rintro q E' H1 ⟨pre, post, v, hpp, rfl, rfl, b2, b3, b4⟩
  have hpl : pre.length ≤ 2000 := by rw [hpp] at hlt; simp at hlt; omega
  have hml : (kmM pre cols).length = pre.length := by simp [kmM]
  have hms : ∀ y, kmM (pre ++ [y]) cols = kmM pre cols ++ [kmR (y.getD 0 []) cols] := fun y => by simp [kmM]
  have hcell := b2.cell1
  simp (config := { maxSteps := 1000000 }) (disch := (first | omega | (simp only [go_sem]; try omega))) only [go_sem, Nat.reduceAdd, Nat.reduceEqDiff, Nat.reduceLeDiff, Nat.reduceMul, Nat.reduceLT, reduceIte, Int.reduceToNat, w64_id, cast_succ]
  repeat (first | (with_reducible first | refine SW.seq ?_ | refine SW.block ?_ | refine SW.rowC ?_ | refine SW.skip ?_ | refine SW.exit ?_ | intro _ | refine And.intro (by omega) ?_) | simp (config := { maxSteps := 1000000 }) (disch := (first | omega | (simp only [go_sem]; try omega))) only [go_sem, Nat.reduceAdd, Nat.reduceEqDiff, Nat.reduceLeDiff, Nat.reduceMul, Nat.reduceLT, reduceIte, Int.reduceToNat, w64_id, cast_succ])
  (first | refine SW.condD rfl (fun h => ?_) (fun h => ?_) | refine SW.condN rfl (fun h => ?_) (fun h => ?_) | refine SW.condNB rfl (fun h => ?_) (fun h => ?_) | refine SW.condB rfl (fun h => ?_) (fun h => ?_))
  · obtain ⟨R, post, rfl, hgR, -⟩ := consOf (d := []) hpp (by omega)
    have hR := (hst R (by rw [hpp]; simp)).1
    have hR0 : 0 < R.length := by cases R with
      | nil => exact absurd rfl hR
      | cons a b => simp
    repeat (first | (with_reducible first | refine SW.seq ?_ | refine SW.block ?_ | refine SW.rowC ?_ | refine SW.skip ?_ | refine SW.exit ?_ | intro _ | refine And.intro (by omega) ?_) | simp (config := { maxSteps := 1000000 }) (disch := (first | omega | (simp only [go_sem]; try omega))) only [go_sem, Nat.reduceAdd, Nat.reduceEqDiff, Nat.reduceLeDiff, Nat.reduceMul, Nat.reduceLT, reduceIte, Int.reduceToNat, w64_id, cast_succ, hgR])
    refine SW.ghost (Gh.name 13 2 1 rfl) ?_
    simp (config := { maxSteps := 1000000 }) (disch := (first | omega | (simp only [go_sem]; try omega))) only [go_sem, Nat.reduceAdd, Nat.reduceEqDiff, Nat.reduceLeDiff, Nat.reduceMul, Nat.reduceLT, reduceIte, Int.reduceToNat, w64_id, cast_succ]
    refine SW.loopE (fun E0 H0 q E' H' => ∃ (pr po : List (List (List Int))) (v2 : Nat), cols = pr ++ po ∧ q = po.length ∧ E' = aput (aput E0 55 (I pr.length)) 13 (.nm H1.length v2 0 pr.length) ∧ H'[H1.length]? = some ⟨v2, 2, 1, (kmR (R.getD 0 []) pr).map I⟩ ∧ ∀ j, j < H1.length → H'[j]? = H1[j]?) cols.length ⟨[], cols, 0, rfl, rfl, rfl, by simp [kmR], fun j hj => by rw [List.getElem?_append_left hj]⟩ ?_
    rintro q E' H2 ⟨pr, po, v2, hp2, rfl, rfl, hrb, hpre⟩
    have hprl : pr.length ≤ 2000 := by rw [hp2] at hlk; simp at hlk; omega
    have hkl : (kmR (R.getD 0 []) pr).length = pr.length := by simp [kmR]
    have hks : ∀ y, kmR (R.getD 0 []) (pr ++ [y]) = kmR (R.getD 0 []) pr ++ [(kmC (R.getD 0 []) y : Int)] := fun y => by simp [kmR]
    generalize hK : kmR (R.getD 0 []) pr = K at *
    have hl1 := (List.getElem?_eq_some_iff.1 hrb).1
    simp (config := { maxSteps := 1000000 }) (disch := (first | omega | (simp only [go_sem]; try omega))) only [go_sem, Nat.reduceAdd, Nat.reduceEqDiff, Nat.reduceLeDiff, Nat.reduceMul, Nat.reduceLT, reduceIte, Int.reduceToNat, w64_id, cast_succ]
    repeat (first | (with_reducible first | refine SW.seq ?_ | refine SW.block ?_ | refine SW.rowC ?_ | refine SW.skip ?_ | refine SW.exit ?_ | intro _ | refine And.intro (by omega) ?_) | simp (config := { maxSteps := 1000000 }) (disch := (first | omega | (simp only [go_sem]; try omega))) only [go_sem, Nat.reduceAdd, Nat.reduceEqDiff, Nat.reduceLeDiff, Nat.reduceMul, Nat.reduceLT, reduceIte, Int.reduceToNat, w64_id, cast_succ])
    (first | refine SW.condD rfl (fun h2 => ?_) (fun h2 => ?_) | refine SW.condN rfl (fun h2 => ?_) (fun h2 => ?_) | refine SW.condNB rfl (fun h2 => ?_) (fun h2 => ?_) | refine SW.condB rfl (fun h2 => ?_) (fun h2 => ?_))
    · obtain ⟨O, po, rfl, hgO, -⟩ := consOf (d := []) hp2 (by omega)
      have hO := (hsk O (by rw [hp2]; simp)).2
      repeat (first | (with_reducible first | refine SW.seq ?_ | refine SW.block ?_ | refine SW.rowC ?_ | refine SW.skip ?_ | refine SW.exit ?_ | intro _ | refine And.intro (by omega) ?_) | simp (config := { maxSteps := 1000000 }) (disch := (first | omega | (simp only [go_sem]; try omega))) only [go_sem, Nat.reduceAdd, Nat.reduceEqDiff, Nat.reduceLeDiff, Nat.reduceMul, Nat.reduceLT, reduceIte, Int.reduceToNat, w64_id, cast_succ, hgO])
      refine SW.loopE (fun E0 H0 q E' H' => ∃ (a b : List (List Int)), O = a ++ b ∧ q = b.length ∧ E' = aput (aput E0 61 (I a.length)) 16 (I (kmC (R.getD 0 []) a)) ∧ H' = H0) O.length ⟨[], O, rfl, rfl, rfl, rfl⟩ ?_
      rintro q E' H' ⟨a, b, hab, rfl, rfl, rfl⟩
      have hal : a.length ≤ 720 := by rw [hab] at hO; simp at hO; omega
      have hcs := fun y => kmC_snoc (R.getD 0 []) a y
      have hcl := kmC_le (R.getD 0 []) a
      generalize hc : kmC (R.getD 0 []) a = c at *
      simp (config := { maxSteps := 1000000 }) (disch := (first | omega | (simp only [go_sem]; try omega))) only [go_sem, Nat.reduceAdd, Nat.reduceEqDiff, Nat.reduceLeDiff, Nat.reduceMul, Nat.reduceLT, reduceIte, Int.reduceToNat, w64_id, cast_succ]
      repeat (first | (with_reducible first | refine SW.seq ?_ | refine SW.block ?_ | refine SW.rowC ?_ | refine SW.skip ?_ | refine SW.exit ?_ | intro _ | refine And.intro (by omega) ?_) | simp (config := { maxSteps := 1000000 }) (disch := (first | omega | (simp only [go_sem]; try omega))) only [go_sem, Nat.reduceAdd, Nat.reduceEqDiff, Nat.reduceLeDiff, Nat.reduceMul, Nat.reduceLT, reduceIte, Int.reduceToNat, w64_id, cast_succ])
      (first | refine SW.condD rfl (fun h3 => ?_) (fun h3 => ?_) | refine SW.condN rfl (fun h3 => ?_) (fun h3 => ?_) | refine SW.condNB rfl (fun h3 => ?_) (fun h3 => ?_) | refine SW.condB rfl (fun h3 => ?_) (fun h3 => ?_))
      · obtain ⟨y, b, rfl, hgy, -⟩ := consOf (d := []) hab (by omega)
        have hw := contains_fn y (R.getD 0 [])
        cases hwy : (R.getD 0 []).all fun x => y.contains x
        · rw [hwy] at hw
          repeat (first | (with_reducible first | refine SW.seq ?_ | refine SW.block ?_ | refine SW.rowC ?_ | refine SW.skip ?_ | refine SW.exit ?_ | refine PFn.use (hw) ?_ | refine PFn.useq (hw) ?_ | intro _ | refine And.intro (by omega) ?_) | simp (config := { maxSteps := 1000000 }) (disch := (first | omega | (simp only [go_sem]; try omega))) only [go_sem, Nat.reduceAdd, Nat.reduceEqDiff, Nat.reduceLeDiff, Nat.reduceMul, Nat.reduceLT, reduceIte, Int.reduceToNat, w64_id, cast_succ, hgy])
          refine SW.condF rfl ?_
          repeat (first | (with_reducible first | refine SW.seq ?_ | refine SW.block ?_ | refine SW.rowC ?_ | refine SW.skip ?_ | refine SW.exit ?_ | intro _ | refine And.intro (by omega) ?_) | simp (config := { maxSteps := 1000000 }) (disch := (first | omega | (simp only [go_sem]; try omega))) only [go_sem, Nat.reduceAdd, Nat.reduceEqDiff, Nat.reduceLeDiff, Nat.reduceMul, Nat.reduceLT, reduceIte, Int.reduceToNat, w64_id, cast_succ])
          refine SLoop.next b.length (by simp) ⟨a ++ [y], b, by simp [hab], rfl, ?_, rfl⟩
          rw [hcs, if_neg (by rw [hwy]; simp)]; simp [go_sem]
        · rw [hwy] at hw
          repeat (first | (with_reducible first | refine SW.seq ?_ | refine SW.block ?_ | refine SW.rowC ?_ | refine SW.skip ?_ | refine SW.exit ?_ | refine PFn.use (hw) ?_ | refine PFn.useq (hw) ?_ | intro _ | refine And.intro (by omega) ?_) | simp (config := { maxSteps := 1000000 }) (disch := (first | omega | (simp only [go_sem]; try omega))) only [go_sem, Nat.reduceAdd, Nat.reduceEqDiff, Nat.reduceLeDiff, Nat.reduceMul, Nat.reduceLT, reduceIte, Int.reduceToNat, w64_id, cast_succ, hgy])
          refine SW.condT rfl ?_
          repeat (first | (with_reducible first | refine SW.seq ?_ | refine SW.block ?_ | refine SW.rowC ?_ | refine SW.skip ?_ | refine SW.exit ?_ | intro _ | refine And.intro (by omega) ?_) | simp (config := { maxSteps := 1000000 }) (disch := (first | omega | (simp only [go_sem]; try omega))) only [go_sem, Nat.reduceAdd, Nat.reduceEqDiff, Nat.reduceLeDiff, Nat.reduceMul, Nat.reduceLT, reduceIte, Int.reduceToNat, w64_id, cast_succ])
          refine SLoop.next b.length (by simp) ⟨a ++ [y], b, by simp [hab], rfl, ?_, rfl⟩
          rw [hcs, if_pos hwy]; simp [go_sem]
      · obtain ⟨rfl, rfl⟩ := nilOf hab (by omega)
        have hba := fun ext => get_appB2 hrb ext
        repeat (first | (with_reducible first | refine SW.seq ?_ | refine SW.block ?_ | refine SW.rowC ?_ | refine SW.skip ?_ | refine SW.exit ?_ | intro _ | refine And.intro (by omega) ?_) | simp (config := { maxSteps := 1000000 }) (disch := (first | omega | (simp only [go_sem]; try omega))) only [go_sem, Nat.reduceAdd, Nat.reduceEqDiff, Nat.reduceLeDiff, Nat.reduceMul, Nat.reduceLT, reduceIte, Int.reduceToNat, w64_id, cast_succ, hba])
        refine SLoop.next po.length (by simp) ⟨pr ++ [a], po, v2 + 1, by simp [hp2], rfl, by simp [go_sem], ?_, fun j hj => ?_⟩
        · rw [hks, hc, List.getElem?_set_self (by simp; omega), List.take_of_length_le (by simp; omega)]
          simp
        · rw [List.getElem?_set_ne (by omega), List.getElem?_append_left (by omega)]; exact hpre j hj
    · obtain ⟨rfl, rfl⟩ := nilOf hp2 (by omega)
      repeat (first | (with_reducible first | refine SW.seq ?_ | refine SW.block ?_ | refine SW.rowC ?_ | refine SW.skip ?_ | refine SW.exit ?_ | intro _ | refine And.intro (by omega) ?_) | simp (config := { maxSteps := 1000000 }) (disch := (first | omega | (simp only [go_sem]; try omega))) only [go_sem, Nat.reduceAdd, Nat.reduceEqDiff, Nat.reduceLeDiff, Nat.reduceMul, Nat.reduceLT, reduceIte, Int.reduceToNat, w64_id, cast_succ])
      refine GrowSS.appG (H1 := H1) (r := H1.length) (rv := v2) (rty := 2) (xs := K) hkl.symm b2 b3 (Nat.le_refl _) (by omega) (fun j b _ hb => ?_) ?_ ?_
      · rw [List.getElem?_append_left (by have := (List.getElem?_eq_some_iff.1 hb).1; omega), hpre j (List.getElem?_eq_some_iff.1 hb).1]; exact hb
      · rw [List.getElem?_append_left hl1]; exact hrb
      intro v3 H3 d1 d2 d3
      repeat (first | (with_reducible first | refine SW.seq ?_ | refine SW.block ?_ | refine SW.rowC ?_ | refine SW.skip ?_ | refine SW.exit ?_ | intro _ | refine And.intro (by omega) ?_) | simp (config := { maxSteps := 1000000 }) (disch := (first | omega | (simp only [go_sem]; try omega))) only [go_sem, Nat.reduceAdd, Nat.reduceEqDiff, Nat.reduceLeDiff, Nat.reduceMul, Nat.reduceLT, reduceIte, Int.reduceToNat, w64_id, cast_succ])
      simp only [List.length_append, List.length_cons, List.length_nil] at d2
      refine SLoop.next post.length (by simp) ⟨pre ++ [R], post, v3, by simp [hpp], rfl, by simp [go_sem], ?_, by omega, fun j hj => ?_⟩
      · rw [hms, hK]; exact d1
      · rw [d3 j (by omega), List.getElem?_append_left (by omega), hpre j (by omega)]; exact b4 j hj
  · obtain ⟨rfl, rfl⟩ := nilOf hpp (by omega)
    repeat (first | (with_reducible first | refine SW.seq ?_ | refine SW.block ?_ | refine SW.rowC ?_ | refine SW.skip ?_ | refine SW.exit ?_ | intro _ | refine And.intro (by omega) ?_) | simp (config := { maxSteps := 1000000 }) (disch := (first | omega | (simp only [go_sem]; try omega))) only [go_sem, Nat.reduceAdd, Nat.reduceEqDiff, Nat.reduceLeDiff, Nat.reduceMul, Nat.reduceLT, reduceIte, Int.reduceToNat, w64_id, cast_succ])
    refine SW.ret ?_; (try simp only [go_sem]); (first | refine FunPost.one ?_ | refine FunPost.two ?_ | refine FunPost.three ?_); (try simp (config := { maxSteps := 1000000 }) (disch := (first | omega | (simp only [go_sem]; try omega))) only [go_sem, Nat.reduceAdd, Nat.reduceEqDiff, Nat.reduceLeDiff, Nat.reduceMul, Nat.reduceLT, reduceIte, Int.reduceToNat, w64_id, cast_succ])
    obtain ⟨ext, he⟩ := prefix_of (by omega) b4
    exact GR.of ⟨ext, v, he, rfl, b2.own (by omega)⟩
theorem implKM_fss (n t k : Int) (els : List (List Int)) (hl : ∀ x ∈ els, x.length ≤ 2000000) (hl2 : els.length ≤ 2000000) :
    FSS Tryz.prog f_impl_KramerMesner [.agg [I n, ilSS els], I t, I k] (kmV n els t k) (kmA n els t k) := by
  unfold kmV
  by_cases h0 : kmA n els t k = 0
  · intro H
    rw [if_pos h0, h0]
    exact kmRows_ok H n t k els h0 hl hl2
  rw [if_neg h0]
  have hv := ValidGroup_fn n els hl hl2
  have hw := within_fn t 0 k
  have hq := countable_fn n els [t, k] hl hl2
  unfold askL at hq
  unfold kmA at h0 ⊢
  intro H
  by_cases hg : grpB n els = true
  · rw [if_pos hg] at hq h0 ⊢
    rw [hg] at hv
    by_cases hr : (0 ≤ k ∧ k ≤ n) ∧ 0 ≤ t ∧ t ≤ k
    · rw [if_pos hr] at h0 ⊢
      rw [if_pos (by simp; omega)] at hq
      rw [show (decide (0 ≤ t) && decide (t ≤ k)) = true by simp; omega] at hw
      have dd : decide (n < k) = false := decide_eq_false (by omega)
      by_cases hc : 2000 < chooseI n t ∨ 2000 < chooseI n k
      · rw [if_pos hc]
        rw [if_pos (by simpa using hc)] at hq
        refine ACalls.introB s_impl_KramerMesner (by simp) ?_; intro hB hA; unfold c_impl_KramerMesner; simp (config := { maxSteps := 1000000 }) (disch := (first | omega | (simp only [go_sem]; try omega))) only [go_sem, Nat.reduceAdd, Nat.reduceEqDiff, Nat.reduceLeDiff, Nat.reduceMul, Nat.reduceLT, reduceIte, Int.reduceToNat, w64_id, cast_succ]
        repeat (first | (with_reducible first | refine SW.seq ?_ | refine SW.block ?_ | refine SW.rowC ?_ | refine SW.skip ?_ | refine SW.exit ?_ | refine PFn.use (hv) ?_ | refine PFn.useq (hv) ?_ | intro _ | refine And.intro (by omega) ?_) | simp (config := { maxSteps := 1000000 }) (disch := (first | omega | (simp only [go_sem]; try omega))) only [go_sem, Nat.reduceAdd, Nat.reduceEqDiff, Nat.reduceLeDiff, Nat.reduceMul, Nat.reduceLT, reduceIte, Int.reduceToNat, w64_id, cast_succ])
        refine SW.condF rfl ?_
        repeat (first | (with_reducible first | refine SW.seq ?_ | refine SW.block ?_ | refine SW.rowC ?_ | refine SW.skip ?_ | refine SW.exit ?_ | refine PFn.use (hw) ?_ | refine PFn.useq (hw) ?_ | intro _ | refine And.intro (by omega) ?_) | simp (config := { maxSteps := 1000000 }) (disch := (first | omega | (simp only [go_sem]; try omega))) only [go_sem, Nat.reduceAdd, Nat.reduceEqDiff, Nat.reduceLeDiff, Nat.reduceMul, Nat.reduceLT, reduceIte, Int.reduceToNat, w64_id, cast_succ, dd])
        refine SW.condF rfl ?_
        repeat (first | (with_reducible first | refine SW.seq ?_ | refine SW.block ?_ | refine SW.rowC ?_ | refine SW.skip ?_ | refine SW.exit ?_ | intro _ | refine And.intro (by omega) ?_) | simp (config := { maxSteps := 1000000 }) (disch := (first | omega | (simp only [go_sem]; try omega))) only [go_sem, Nat.reduceAdd, Nat.reduceEqDiff, Nat.reduceLeDiff, Nat.reduceMul, Nat.reduceLT, reduceIte, Int.reduceToNat, w64_id, cast_succ])
        refine hq.usel (.cons (froz_agg2 (froz_I' _) (froz_ilSS _)) (.cons (froz_row (r := H.length + 1) (ver := 0) (ty := 2) (xs := [t, k]) (Nat.zero_le _) (by simp)) .nil)) ?_
        repeat (first | (with_reducible first | refine SW.seq ?_ | refine SW.block ?_ | refine SW.rowC ?_ | refine SW.skip ?_ | refine SW.exit ?_ | intro _ | refine And.intro (by omega) ?_) | simp (config := { maxSteps := 1000000 }) (disch := (first | omega | (simp only [go_sem]; try omega))) only [go_sem, Nat.reduceAdd, Nat.reduceEqDiff, Nat.reduceLeDiff, Nat.reduceMul, Nat.reduceLT, reduceIte, Int.reduceToNat, w64_id, cast_succ])
        refine SW.condT rfl ?_
        repeat (first | (with_reducible first | refine SW.seq ?_ | refine SW.block ?_ | refine SW.rowC ?_ | refine SW.skip ?_ | refine SW.exit ?_ | intro _ | refine And.intro (by omega) ?_) | simp (config := { maxSteps := 1000000 }) (disch := (first | omega | (simp only [go_sem]; try omega))) only [go_sem, Nat.reduceAdd, Nat.reduceEqDiff, Nat.reduceLeDiff, Nat.reduceMul, Nat.reduceLT, reduceIte, Int.reduceToNat, w64_id, cast_succ])
        refine SW.ret ?_; (try simp only [go_sem]); (first | refine FunPost.one ?_ | refine FunPost.two ?_ | refine FunPost.three ?_); (try simp (config := { maxSteps := 1000000 }) (disch := (first | omega | (simp only [go_sem]; try omega))) only [go_sem, Nat.reduceAdd, Nat.reduceEqDiff, Nat.reduceLeDiff, Nat.reduceMul, Nat.reduceLT, reduceIte, Int.reduceToNat, w64_id, cast_succ])
        exact GR.of nilFSS
      · rw [if_neg hc] at h0; exact absurd rfl h0
    · rw [if_neg hr]
      by_cases ht : 0 ≤ t ∧ t ≤ k
      · rw [show (decide (0 ≤ t) && decide (t ≤ k)) = true by simp; omega] at hw
        have dd : decide (n < k) = true := decide_eq_true (by omega)
        refine ACalls.introB s_impl_KramerMesner (by simp) ?_; intro hB hA; unfold c_impl_KramerMesner; simp (config := { maxSteps := 1000000 }) (disch := (first | omega | (simp only [go_sem]; try omega))) only [go_sem, Nat.reduceAdd, Nat.reduceEqDiff, Nat.reduceLeDiff, Nat.reduceMul, Nat.reduceLT, reduceIte, Int.reduceToNat, w64_id, cast_succ]
        repeat (first | (with_reducible first | refine SW.seq ?_ | refine SW.block ?_ | refine SW.rowC ?_ | refine SW.skip ?_ | refine SW.exit ?_ | refine PFn.use (hv) ?_ | refine PFn.useq (hv) ?_ | intro _ | refine And.intro (by omega) ?_) | simp (config := { maxSteps := 1000000 }) (disch := (first | omega | (simp only [go_sem]; try omega))) only [go_sem, Nat.reduceAdd, Nat.reduceEqDiff, Nat.reduceLeDiff, Nat.reduceMul, Nat.reduceLT, reduceIte, Int.reduceToNat, w64_id, cast_succ])
        refine SW.condF rfl ?_
        repeat (first | (with_reducible first | refine SW.seq ?_ | refine SW.block ?_ | refine SW.rowC ?_ | refine SW.skip ?_ | refine SW.exit ?_ | refine PFn.use (hw) ?_ | refine PFn.useq (hw) ?_ | intro _ | refine And.intro (by omega) ?_) | simp (config := { maxSteps := 1000000 }) (disch := (first | omega | (simp only [go_sem]; try omega))) only [go_sem, Nat.reduceAdd, Nat.reduceEqDiff, Nat.reduceLeDiff, Nat.reduceMul, Nat.reduceLT, reduceIte, Int.reduceToNat, w64_id, cast_succ, dd])
        refine SW.condT rfl ?_
        repeat (first | (with_reducible first | refine SW.seq ?_ | refine SW.block ?_ | refine SW.rowC ?_ | refine SW.skip ?_ | refine SW.exit ?_ | intro _ | refine And.intro (by omega) ?_) | simp (config := { maxSteps := 1000000 }) (disch := (first | omega | (simp only [go_sem]; try omega))) only [go_sem, Nat.reduceAdd, Nat.reduceEqDiff, Nat.reduceLeDiff, Nat.reduceMul, Nat.reduceLT, reduceIte, Int.reduceToNat, w64_id, cast_succ])
        refine SW.ret ?_; (try simp only [go_sem]); (first | refine FunPost.one ?_ | refine FunPost.two ?_ | refine FunPost.three ?_); (try simp (config := { maxSteps := 1000000 }) (disch := (first | omega | (simp only [go_sem]; try omega))) only [go_sem, Nat.reduceAdd, Nat.reduceEqDiff, Nat.reduceLeDiff, Nat.reduceMul, Nat.reduceLT, reduceIte, Int.reduceToNat, w64_id, cast_succ])
        exact GR.of nilFSS
      · rw [show (decide (0 ≤ t) && decide (t ≤ k)) = false by rw [Bool.and_eq_false_iff, decide_eq_false_iff_not, decide_eq_false_iff_not]; omega] at hw
        refine ACalls.introB s_impl_KramerMesner (by simp) ?_; intro hB hA; unfold c_impl_KramerMesner; simp (config := { maxSteps := 1000000 }) (disch := (first | omega | (simp only [go_sem]; try omega))) only [go_sem, Nat.reduceAdd, Nat.reduceEqDiff, Nat.reduceLeDiff, Nat.reduceMul, Nat.reduceLT, reduceIte, Int.reduceToNat, w64_id, cast_succ]
        repeat (first | (with_reducible first | refine SW.seq ?_ | refine SW.block ?_ | refine SW.rowC ?_ | refine SW.skip ?_ | refine SW.exit ?_ | refine PFn.use (hv) ?_ | refine PFn.useq (hv) ?_ | intro _ | refine And.intro (by omega) ?_) | simp (config := { maxSteps := 1000000 }) (disch := (first | omega | (simp only [go_sem]; try omega))) only [go_sem, Nat.reduceAdd, Nat.reduceEqDiff, Nat.reduceLeDiff, Nat.reduceMul, Nat.reduceLT, reduceIte, Int.reduceToNat, w64_id, cast_succ])
        refine SW.condF rfl ?_
        repeat (first | (with_reducible first | refine SW.seq ?_ | refine SW.block ?_ | refine SW.rowC ?_ | refine SW.skip ?_ | refine SW.exit ?_ | refine PFn.use (hw) ?_ | refine PFn.useq (hw) ?_ | intro _ | refine And.intro (by omega) ?_) | simp (config := { maxSteps := 1000000 }) (disch := (first | omega | (simp only [go_sem]; try omega))) only [go_sem, Nat.reduceAdd, Nat.reduceEqDiff, Nat.reduceLeDiff, Nat.reduceMul, Nat.reduceLT, reduceIte, Int.reduceToNat, w64_id, cast_succ])
        refine SW.condT rfl ?_
        repeat (first | (with_reducible first | refine SW.seq ?_ | refine SW.block ?_ | refine SW.rowC ?_ | refine SW.skip ?_ | refine SW.exit ?_ | intro _ | refine And.intro (by omega) ?_) | simp (config := { maxSteps := 1000000 }) (disch := (first | omega | (simp only [go_sem]; try omega))) only [go_sem, Nat.reduceAdd, Nat.reduceEqDiff, Nat.reduceLeDiff, Nat.reduceMul, Nat.reduceLT, reduceIte, Int.reduceToNat, w64_id, cast_succ])
        refine SW.ret ?_; (try simp only [go_sem]); (first | refine FunPost.one ?_ | refine FunPost.two ?_ | refine FunPost.three ?_); (try simp (config := { maxSteps := 1000000 }) (disch := (first | omega | (simp only [go_sem]; try omega))) only [go_sem, Nat.reduceAdd, Nat.reduceEqDiff, Nat.reduceLeDiff, Nat.reduceMul, Nat.reduceLT, reduceIte, Int.reduceToNat, w64_id, cast_succ])
        exact GR.of nilFSS
  · rw [if_neg hg]
    rw [Bool.not_eq_true] at hg
    rw [hg] at hv
    refine ACalls.introB s_impl_KramerMesner (by simp) ?_; intro hB hA; unfold c_impl_KramerMesner; simp (config := { maxSteps := 1000000 }) (disch := (first | omega | (simp only [go_sem]; try omega))) only [go_sem, Nat.reduceAdd, Nat.reduceEqDiff, Nat.reduceLeDiff, Nat.reduceMul, Nat.reduceLT, reduceIte, Int.reduceToNat, w64_id, cast_succ]
    repeat (first | (with_reducible first | refine SW.seq ?_ | refine SW.block ?_ | refine SW.rowC ?_ | refine SW.skip ?_ | refine SW.exit ?_ | refine PFn.use (hv) ?_ | refine PFn.useq (hv) ?_ | intro _ | refine And.intro (by omega) ?_) | simp (config := { maxSteps := 1000000 }) (disch := (first | omega | (simp only [go_sem]; try omega))) only [go_sem, Nat.reduceAdd, Nat.reduceEqDiff, Nat.reduceLeDiff, Nat.reduceMul, Nat.reduceLT, reduceIte, Int.reduceToNat, w64_id, cast_succ])
    refine SW.condT rfl ?_
    repeat (first | (with_reducible first | refine SW.seq ?_ | refine SW.block ?_ | refine SW.rowC ?_ | refine SW.skip ?_ | refine SW.exit ?_ | intro _ | refine And.intro (by omega) ?_) | simp (config := { maxSteps := 1000000 }) (disch := (first | omega | (simp only [go_sem]; try omega))) only [go_sem, Nat.reduceAdd, Nat.reduceEqDiff, Nat.reduceLeDiff, Nat.reduceMul, Nat.reduceLT, reduceIte, Int.reduceToNat, w64_id, cast_succ])
    refine SW.ret ?_; (try simp only [go_sem]); (first | refine FunPost.one ?_ | refine FunPost.two ?_ | refine FunPost.three ?_); (try simp (config := { maxSteps := 1000000 }) (disch := (first | omega | (simp only [go_sem]; try omega))) only [go_sem, Nat.reduceAdd, Nat.reduceEqDiff, Nat.reduceLeDiff, Nat.reduceMul, Nat.reduceLT, reduceIte, Int.reduceToNat, w64_id, cast_succ])
    exact GR.of nilFSS
end Go.Proofs.YthogadbnddmkdaaGreat
