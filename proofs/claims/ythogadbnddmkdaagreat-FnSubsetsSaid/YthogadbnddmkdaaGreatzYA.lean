/- Orbits of all sets: the program, lists of its own. -/
import Derived.Test.YthogadbnddmkdaaGreatProg
import Derived.KernelRfl
import Derived.Test.YthogadbnddmkdaaGreatzY2
import Derived.Test.YthogadbnddmkdaaGreatzY0
import Derived.Test.YthogadbnddmkdaaGreatzAv17
set_option linter.unusedSimpArgs false
set_option linter.unusedVariables false
set_option maxHeartbeats 4000000
set_option maxRecDepth 100000
namespace Go.Proofs.YthogadbnddmkdaaGreat
open Go.Av
abbrev f_impl_subsetOrbits : Nat := 61
def c_impl_subsetOrbits : SC :=
 .seq (.reg [
     ⟨(some 2), .box 44 (.tmp 0), none⟩,
     ⟨(some 4), .mv (.const (.slice none 0 0)), none⟩] [1, 2])
 (.seq (.reg [
     ⟨(some 14), .faddr 0 (.tmp 2), none⟩,
     ⟨(some 15), .load 1 false (.tmp 14), none⟩,
     ⟨(some 16), .mv (.tmp 1), none⟩,
     ⟨(some 17), .call 24 [(.tmp 15), (.tmp 16)], none⟩,
     ⟨(some 18), .mslice 4 1 (.bool false) (.tmp 17) (.tmp 17), none⟩,
     ⟨(some 5), .mv (.tmp 18), none⟩] [1, 2, 5])
 (.seq (.reg [
     ⟨(some 6), .mv (.const (.slice none 0 0)), none⟩] [1, 2, 5, 6])
 (.seq (.seq (.reg [
     ⟨(some 19), .faddr 0 (.tmp 2), none⟩,
     ⟨(some 20), .load 1 false (.tmp 19), none⟩,
     ⟨(some 21), .mv (.tmp 1), none⟩,
     ⟨(some 22), .call 38 [(.tmp 20), (.tmp 21)], none⟩,
     ⟨(some 23), .len (.tmp 22), none⟩,
     ⟨(some 24), .mv (.const (.int .i64 0)), none⟩] [2, 5, 6, 22, 23, 24])
 (.block 0 (.loop [2, 5, 6, 22, 23, 24]
   (.seq (.reg [
       ⟨(some 25), .bin .lss (.tmp 24) (.tmp 23), none⟩] [2, 5, 6, 22, 23, 24, 25])
   (.seq (.cond (.tmp 25)
    (.skip)
    (.exit 0))
   (.seq (.block 1 (.seq (.reg [
        ⟨(some 26), .mv (.tmp 24), none⟩,
        ⟨(some 27), .iaddr 1 (.tmp 22) (.tmp 24), none⟩,
        ⟨(some 28), .load 1 false (.tmp 27), none⟩,
        ⟨(some 7), .mv (.tmp 26), none⟩,
        ⟨(some 8), .mv (.tmp 28), none⟩] [2, 5, 6, 7, 8, 22, 23, 24])
    (.seq (.seq (.reg [
        ⟨(some 29), .mv (.tmp 5), none⟩,
        ⟨(some 30), .mv (.tmp 7), none⟩,
        ⟨(some 31), .iaddr 1 (.tmp 29) (.tmp 30), none⟩,
        ⟨(some 32), .load 1 false (.tmp 31), none⟩] [2, 5, 6, 8, 22, 23, 24, 32])
    (.cond (.tmp 32)
     (.exit 1)
     (.skip)))
    (.seq (.reg [
        ⟨(some 33), .load 2 true (.tmp 2), none⟩,
        ⟨(some 34), .mv (.tmp 8), none⟩,
        ⟨(some 35), .call 67 [(.tmp 33), (.tmp 34)], none⟩,
        ⟨(some 9), .mv (.tmp 35), none⟩] [2, 5, 6, 9, 22, 23, 24])
    (.seq (.seq (.reg [
        ⟨(some 36), .mv (.tmp 9), none⟩,
        ⟨(some 37), .len (.tmp 36), none⟩,
        ⟨(some 38), .mv (.const (.int .i64 0)), none⟩] [2, 5, 6, 9, 22, 23, 24, 36, 37, 38])
    (.block 2 (.loop [2, 5, 6, 9, 22, 23, 24, 36, 37, 38]
      (.seq (.reg [
          ⟨(some 39), .bin .lss (.tmp 38) (.tmp 37), none⟩] [2, 5, 6, 9, 22, 23, 24, 36, 37, 38, 39])
      (.seq (.cond (.tmp 39)
       (.skip)
       (.exit 2))
      (.seq (.block 3 (.seq (.reg [
           ⟨(some 40), .iaddr 1 (.tmp 36) (.tmp 38), none⟩,
           ⟨(some 41), .load 1 false (.tmp 40), none⟩,
           ⟨(some 11), .mv (.tmp 41), none⟩] [2, 5, 6, 9, 11, 22, 23, 24, 36, 37, 38])
       (.seq (.reg [
           ⟨(some 43), .faddr 0 (.tmp 2), none⟩,
           ⟨(some 44), .load 1 false (.tmp 43), none⟩,
           ⟨(some 45), .mv (.tmp 11), none⟩,
           ⟨(some 46), .call 110 [(.tmp 44), (.tmp 45)], none⟩,
           ⟨(some 42), .mv (.tmp 46), none⟩,
           ⟨(some 47), .ext (.tmp 42) 0, none⟩,
           ⟨(some 48), .ext (.tmp 42) 1, none⟩,
           ⟨(some 12), .mv (.tmp 47), none⟩,
           ⟨(some 13), .mv (.tmp 48), none⟩] [2, 5, 6, 9, 12, 22, 23, 24, 36, 37, 38])
       (.reg [
           ⟨(some 49), .mv (.tmp 5), none⟩,
           ⟨(some 50), .mv (.tmp 12), none⟩,
           ⟨(some 51), .iaddr 1 (.tmp 49) (.tmp 50), none⟩,
           ⟨none, .store 1 (.tmp 51) (.const (.bool true)), none⟩] [2, 5, 6, 9, 22, 23, 24, 36, 37, 38]))))
      (.reg [
          ⟨(some 52), .bin .add (.tmp 38) (.const (.int .i64 1)), none⟩,
          ⟨(some 38), .mv (.tmp 52), none⟩] [2, 5, 6, 9, 22, 23, 24, 36, 37, 38])))))))
    (.reg [
        ⟨(some 53), .mv (.tmp 6), none⟩,
        ⟨(some 54), .mv (.tmp 9), none⟩,
        ⟨(some 55), .bslice 31 1 1 [(.slice none 0 0)] [(0, (.tmp 54))], none⟩,
        ⟨(some 56), .app 31 1 24 (.tmp 53) (.tmp 55), none⟩,
        ⟨(some 6), .mv (.tmp 56), none⟩] [2, 5, 6, 22, 23, 24]))))))
   (.reg [
       ⟨(some 57), .bin .add (.tmp 24) (.const (.int .i64 1)), none⟩,
       ⟨(some 24), .mv (.tmp 57), none⟩] [2, 5, 6, 22, 23, 24])))))))
 (.seq (.reg [
     ⟨(some 58), .mv (.tmp 6), none⟩,
     ⟨(some 4), .mv (.tmp 58), none⟩] [4])
 (.ret)))))
theorem s_impl_subsetOrbits : stripF Tryz.prog 61 [[1, 2], [1, 2, 5], [1, 2, 5, 6], [2, 5, 6, 22, 23, 24], [2, 5, 6, 22, 23, 24], [2, 5, 6, 22, 23, 24, 25], [2, 5, 6, 7, 8, 22, 23, 24], [2, 5, 6, 8, 22, 23, 24, 32], [2, 5, 6, 9, 22, 23, 24], [2, 5, 6, 9, 22, 23, 24, 36, 37, 38], [2, 5, 6, 9, 22, 23, 24, 36, 37, 38], [2, 5, 6, 9, 22, 23, 24, 36, 37, 38, 39], [2, 5, 6, 9, 11, 22, 23, 24, 36, 37, 38], [2, 5, 6, 9, 12, 22, 23, 24, 36, 37, 38], [2, 5, 6, 9, 22, 23, 24, 36, 37, 38], [2, 5, 6, 9, 22, 23, 24, 36, 37, 38], [2, 5, 6, 22, 23, 24], [2, 5, 6, 22, 23, 24], [4]] = some (c_impl_subsetOrbits, [.tmp 4], 59) := by kernel_rfl
theorem subsetOrbits_own (H : List Blk) (n k : Nat) (els : List (List Int)) (hn : n ≤ 32) (hel : 1 ≤ els.length) (hl : els.length ≤ 720) (ho : ∀ q ∈ els, permOk n q) (hk : k ≤ n) (hm : ch n k ≤ 2000) :
    ACalls Tryz.prog f_impl_subsetOrbits [.agg [I n, ilSS els], I k] H (fun r H' => ∃ ext, H' = H ++ ext ∧ OwnX H' (Btw H.length H'.length) r (orbL n k els (ch n k)).1) := by
  have hch := implChoose_fn n k
  rw [chooseI_ch n k hn hk] at hch
  have hsb := subs_fn n k hn (by omega)
  have hsl : (subsN n k).length = ch n k := by unfold subsN; exact subsL_len _ _ _
  generalize hC : ch n k = C at *
  refine ACalls.introB s_impl_subsetOrbits (by simp) ?_; intro hB hA; unfold c_impl_subsetOrbits; simp (config := { maxSteps := 1000000 }) (disch := (first | omega | (simp only [go_sem]; try omega))) only [go_sem, Nat.reduceAdd, Nat.reduceEqDiff, Nat.reduceLeDiff, Nat.reduceMul, Nat.reduceLT, reduceIte, Int.reduceToNat, w64_id, cast_succ]
  repeat (first | (with_reducible first | refine SW.seq ?_ | refine SW.block ?_ | refine SW.rowC ?_ | refine SW.skip ?_ | refine SW.exit ?_ | refine PFn.use (hch) ?_ | refine PFn.useq (hch) ?_ | refine PFn.use (hsb) ?_ | refine PFn.useq (hsb) ?_ | intro _ | refine And.intro (by omega) ?_) | simp (config := { maxSteps := 1000000 }) (disch := (first | omega | (simp only [go_sem]; try omega))) only [go_sem, Nat.reduceAdd, Nat.reduceEqDiff, Nat.reduceLeDiff, Nat.reduceMul, Nat.reduceLT, reduceIte, Int.reduceToNat, w64_id, cast_succ])
  refine SW.ghost (Gh.name 6 31 1 rfl) ?_
  simp (config := { maxSteps := 1000000 }) (disch := (first | omega | (simp only [go_sem]; try omega))) only [go_sem, Nat.reduceAdd, Nat.reduceEqDiff, Nat.reduceLeDiff, Nat.reduceMul, Nat.reduceLT, reduceIte, Int.reduceToNat, w64_id, cast_succ]
  refine SW.loopE (fun E0 H0 q E' H' => ∃ (x ver : Nat) (cells : List AV) (M : Nat → Nat → Prop), x ≤ C ∧ q = C - x ∧ E' = aput (aput E0 24 (I x)) 6 (.nm (H.length + 2) ver 0 (orbL n k els x).1.length) ∧ H'[H.length + 1]? = some ⟨0, 4, 1, (orbL n k els x).2.map Bv⟩ ∧ OwnXC H' (Btw (H.length + 2) H'.length) M (H.length + 2) ver 31 cells (orbL n k els x).1 ∧ H'[H.length]? = some ⟨0, tyG, 1, [I n, ilSS els]⟩ ∧ ∀ j, j < H.length → H'[j]? = H[j]?) C
    ⟨0, 0, [], fun _ _ => False, by omega, by omega, by rw [orbL_zero]; rfl, by rw [orbL_zero, hC]; simp, by rw [orbL_zero]; exact ⟨⟨by omega, by simp⟩, by simp, rfl, by simp, by simp, by simp⟩, by simp, fun j hj => by rw [List.getElem?_append_left hj]⟩ ?_
  rintro q E' H1 ⟨x, ver, cells, M, hx, rfl, rfl, hseen, hown, hgr, hpre⟩
  have hinv := orbL_len n k els x
  have hsu := orbL_succ n k els x
  generalize hL : orbL n k els x = st at *
  obtain ⟨os, s0⟩ := st
  simp only at hinv hseen hown
  unfold orbS at hsu
  simp only at hsu
  rw [hsl]
  simp (config := { maxSteps := 1000000 }) (disch := (first | omega | (simp only [go_sem]; try omega))) only [go_sem, Nat.reduceAdd, Nat.reduceEqDiff, Nat.reduceLeDiff, Nat.reduceMul, Nat.reduceLT, reduceIte, Int.reduceToNat, w64_id, cast_succ]
  repeat (first | (with_reducible first | refine SW.seq ?_ | refine SW.block ?_ | refine SW.rowC ?_ | refine SW.skip ?_ | refine SW.exit ?_ | intro _ | refine And.intro (by omega) ?_) | simp (config := { maxSteps := 1000000 }) (disch := (first | omega | (simp only [go_sem]; try omega))) only [go_sem, Nat.reduceAdd, Nat.reduceEqDiff, Nat.reduceLeDiff, Nat.reduceMul, Nat.reduceLT, reduceIte, Int.reduceToNat, w64_id, cast_succ])
  (first | refine SW.condD rfl (fun h => ?_) (fun h => ?_) | refine SW.condN rfl (fun h => ?_) (fun h => ?_) | refine SW.condNB rfl (fun h => ?_) (fun h => ?_) | refine SW.condB rfl (fun h => ?_) (fun h => ?_))
  · have hxs : x < s0.length := by omega
    have hxl : x < (subsN n k).length := by omega
    have hgb0 : (s0.map Bv)[x]? = some (Bv (s0.getD x false)) := getB hxs
    have hvs : aview H1 (.nm (H.length + 1) 0 0 C) = some (C, s0.map Bv) := view_nm hseen (by simp; omega)
    have hxC : x < C := by omega
    by_cases hs0 : s0.getD x false = true
    · rw [if_pos hs0] at hsu
      repeat (first | (with_reducible first | refine SW.seq ?_ | refine SW.block ?_ | refine SW.rowC ?_ | refine SW.skip ?_ | refine SW.exit ?_ | intro _ | refine And.intro (by omega) ?_) | simp (config := { maxSteps := 1000000 }) (disch := (first | omega | (simp only [go_sem]; try omega))) only [go_sem, Nat.reduceAdd, Nat.reduceEqDiff, Nat.reduceLeDiff, Nat.reduceMul, Nat.reduceLT, reduceIte, Int.reduceToNat, w64_id, cast_succ, hvs, idxc hvs hxC, ldc hvs hgb0, hs0])
      refine SW.condT rfl ?_
      repeat (first | (with_reducible first | refine SW.seq ?_ | refine SW.block ?_ | refine SW.rowC ?_ | refine SW.skip ?_ | refine SW.exit ?_ | intro _ | refine And.intro (by omega) ?_) | simp (config := { maxSteps := 1000000 }) (disch := (first | omega | (simp only [go_sem]; try omega))) only [go_sem, Nat.reduceAdd, Nat.reduceEqDiff, Nat.reduceLeDiff, Nat.reduceMul, Nat.reduceLT, reduceIte, Int.reduceToNat, w64_id, cast_succ])
      refine SLoop.next (C - (x + 1)) (by omega) ⟨x + 1, ver, cells, M, by omega, rfl, ?_, ?_, ?_, hgr, hpre⟩
      · rw [hsu]; simp [go_sem]
      · rw [hsu]; exact hseen
      · rw [hsu]; exact hown
    rw [if_neg hs0] at hsu
    rw [Bool.not_eq_true] at hs0
    have hrk := orb_rank (i := x) hn ho (by rw [hC]; omega)
    have hsr := subsN_row (n := n) (k := k) (i := x) (by rw [hC]; omega)
    generalize hW : (subsN n k).getD x [] = W at *
    have himg := imagesOf_own H1 n els W hn hel hl ho hsr.2
    have hol : (sortU cmpL (imgsOf els W)).length ≤ 720 := by
      have := sortU_len (cf := cmpL) (imgsOf els W)
      simp [imgsOf] at this ⊢; omega
    generalize hO : sortU cmpL (imgsOf els W) = O at *
    have hgl : acells H1 2 (.pc H.length 0 0) = some [I n, ilSS els] := pc_lds hgr (by simp)
    repeat (first | (with_reducible first | refine SW.seq ?_ | refine SW.block ?_ | refine SW.rowC ?_ | refine SW.skip ?_ | refine SW.exit ?_ | intro _ | refine And.intro (by omega) ?_) | simp (config := { maxSteps := 1000000 }) (disch := (first | omega | (simp only [go_sem]; try omega))) only [go_sem, Nat.reduceAdd, Nat.reduceEqDiff, Nat.reduceLeDiff, Nat.reduceMul, Nat.reduceLT, reduceIte, Int.reduceToNat, w64_id, cast_succ, hvs, idxc hvs hxC, ldc hvs hgb0, hs0, hW, pc_alive hgr, hgl])
    refine SW.condF rfl ?_
    repeat (first | (with_reducible first | refine SW.seq ?_ | refine SW.block ?_ | refine SW.rowC ?_ | refine SW.skip ?_ | refine SW.exit ?_ | intro _ | refine And.intro (by omega) ?_) | simp (config := { maxSteps := 1000000 }) (disch := (first | omega | (simp only [go_sem]; try omega))) only [go_sem, Nat.reduceAdd, Nat.reduceEqDiff, Nat.reduceLeDiff, Nat.reduceMul, Nat.reduceLT, reduceIte, Int.reduceToNat, w64_id, cast_succ, pc_alive hgr, hgl])
    refine himg.mono ?_
    rintro r H2 ⟨ext, hH2, own⟩
    have hl12 : H2.length = H1.length + ext.length := by rw [hH2]; simp
    have hlt1 : H.length + 2 < H1.length := (List.getElem?_eq_some_iff.1 hown.2.1).1
    have h12 : ∀ j, j < H1.length → H2[j]? = H1[j]? := fun j hj => by rw [hH2, List.getElem?_append_left hj]
    clear hH2
    have hMl : ∀ j r, M j r → r < H1.length := fun j r q => (hown.2.2.2.2.1 j r q).1.2
    rcases own with ⟨t2, v2, ty2, co, rfl, oc⟩ | ⟨h0, -⟩
    rotate_left
    · exfalso
      have := sortU_ne (els := els) (set := W) hel
      rw [hO, h0] at this
      simp at this
    have hv2 : aview H2 (.nm t2 v2 0 O.length) = some (O.length, co) := view_nm oc.2.1 oc.2.2.1
    have hgr2 := (h12 _ (by omega)).trans hgr
    have ht2 : H1.length ≤ t2 := oc.1.1
    repeat (first | (with_reducible first | refine SW.seq ?_ | refine SW.block ?_ | refine SW.rowC ?_ | refine SW.skip ?_ | refine SW.exit ?_ | intro _ | refine And.intro (by omega) ?_) | simp (config := { maxSteps := 1000000 }) (disch := (first | omega | (simp only [go_sem]; try omega))) only [go_sem, Nat.reduceAdd, Nat.reduceEqDiff, Nat.reduceLeDiff, Nat.reduceMul, Nat.reduceLT, reduceIte, Int.reduceToNat, w64_id, cast_succ, hv2])
    refine SW.loopE (fun E0 H0 q E' H' => ∃ (pre post : List (List Int)), O = pre ++ post ∧ q = post.length ∧ E' = aput E0 38 (I pre.length) ∧ H'[H.length + 1]? = some ⟨0, 4, 1, (pre.foldl (fun s x => s.set (rkN n 0 x) true) s0).map Bv⟩ ∧ H'.length = H2.length ∧ ∀ j, j ≠ H.length + 1 → H'[j]? = H2[j]?) O.length ⟨[], O, rfl, rfl, rfl, (h12 _ (by omega)).trans hseen, rfl, fun _ _ => rfl⟩ ?_
    rintro q E' H3 ⟨pre, post, hpp, rfl, rfl, hse3, hl23, h23⟩
    have hprl : pre.length ≤ 720 := by rw [hpp] at hol; simp at hol; omega
    have hsl2 := foldset_len (rkN n 0) pre s0
    have hsn : ∀ y, (pre ++ [y]).foldl (fun s x => s.set (rkN n 0 x) true) s0 = (pre.foldl (fun s x => s.set (rkN n 0 x) true) s0).set (rkN n 0 y) true := fun y => by rw [List.foldl_append]; rfl
    generalize hS : pre.foldl (fun s x => s.set (rkN n 0 x) true) s0 = s at *
    have oc3 : OwnC H3 (Btw H1.length H2.length) t2 v2 ty2 co O := oc.same (fun j b q hb => by rw [h23 j (by have := q.1; omega)]; exact hb)
    have hv3 : aview H3 (.nm t2 v2 0 O.length) = some (O.length, co) := view_nm oc3.2.1 oc3.2.2.1
    have hgr3 : H3[H.length]? = some ⟨0, tyG, 1, [I n, ilSS els]⟩ := (h23 _ (by omega)).trans hgr2
    have hgl3 : acells H3 2 (.pc H.length 0 0) = some [I n, ilSS els] := pc_lds hgr3 (by simp)
    simp (config := { maxSteps := 1000000 }) (disch := (first | omega | (simp only [go_sem]; try omega))) only [go_sem, Nat.reduceAdd, Nat.reduceEqDiff, Nat.reduceLeDiff, Nat.reduceMul, Nat.reduceLT, reduceIte, Int.reduceToNat, w64_id, cast_succ]
    repeat (first | (with_reducible first | refine SW.seq ?_ | refine SW.block ?_ | refine SW.rowC ?_ | refine SW.skip ?_ | refine SW.exit ?_ | intro _ | refine And.intro (by omega) ?_) | simp (config := { maxSteps := 1000000 }) (disch := (first | omega | (simp only [go_sem]; try omega))) only [go_sem, Nat.reduceAdd, Nat.reduceEqDiff, Nat.reduceLeDiff, Nat.reduceMul, Nat.reduceLT, reduceIte, Int.reduceToNat, w64_id, cast_succ])
    (first | refine SW.condD rfl (fun h2 => ?_) (fun h2 => ?_) | refine SW.condN rfl (fun h2 => ?_) (fun h2 => ?_) | refine SW.condNB rfl (fun h2 => ?_) (fun h2 => ?_) | refine SW.condB rfl (fun h2 => ?_) (fun h2 => ?_))
    · obtain ⟨y, post, rfl, hg, -⟩ := consOf (d := []) hpp (by omega)
      have hry := hrk y (by rw [hpp]; simp)
      have hrf := RankSubset_fn n y hry.1 (by omega) (by omega)
      rw [hry.2.1] at hrf
      have hrl : rkN n 0 y < s.length := by omega
      have hpO : pre.length < O.length := by rw [hpp]; simp
      have hcp : pre.length < co.length := by rw [oc3.2.2.1]; exact hpO
      have hci : co[pre.length]? = some co[pre.length] := List.getElem?_eq_getElem hcp
      have hyi : O[pre.length]? = some y := by rw [hpp]; simp
      have hvs3 : aview H3 (.nm (H.length + 1) 0 0 C) = some (C, s.map Bv) := view_nm hse3 (by simp; omega)
      repeat (first | (with_reducible first | refine SW.seq ?_ | refine SW.block ?_ | refine SW.rowC ?_ | refine SW.skip ?_ | refine SW.exit ?_ | intro _ | refine And.intro (by omega) ?_) | simp (config := { maxSteps := 1000000 }) (disch := (first | omega | (simp only [go_sem]; try omega))) only [go_sem, Nat.reduceAdd, Nat.reduceEqDiff, Nat.reduceLeDiff, Nat.reduceMul, Nat.reduceLT, reduceIte, Int.reduceToNat, w64_id, cast_succ, hv3, idxc hv3 hpO, ldc hv3 hci, pc_alive hgr3, pc_ld (off := 0) hgr3])
      refine (hrf.lendv (OV.tup2 (.I _) (.I _)) (sh_II _ _ _) (.cons (froz_I' _) (.cons ((oc3.2.2.2.1 _ _ _ hci hyi).froz (fun r _ => Nat.zero_le _)) .nil))).mono ?_
      rintro r H4 ⟨rfl, rfl⟩
      have hrC : rkN n 0 y < C := by omega
      have hst := store_nm (n := C) (c := Bv true) hse3 (i := rkN n 0 y) (by simpa using hrl)
      repeat (first | (with_reducible first | refine SW.seq ?_ | refine SW.block ?_ | refine SW.rowC ?_ | refine SW.skip ?_ | refine SW.exit ?_ | intro _ | refine And.intro (by omega) ?_) | simp (config := { maxSteps := 1000000 }) (disch := (first | omega | (simp only [go_sem]; try omega))) only [go_sem, Nat.reduceAdd, Nat.reduceEqDiff, Nat.reduceLeDiff, Nat.reduceMul, Nat.reduceLT, reduceIte, Int.reduceToNat, w64_id, cast_succ, hvs3, idxc hvs3 hrC, hst])
      refine SLoop.next post.length (by simp) ⟨pre ++ [y], post, by simp [hpp], rfl, by simp [go_sem], ?_, by simp [hl23], fun j hj => ?_⟩
      · rw [hsn, List.getElem?_set_self (by have := (List.getElem?_eq_some_iff.1 hse3).1; omega)]
      · rw [List.getElem?_set_ne (Ne.symm hj)]; exact h23 j hj
    · obtain ⟨rfl, rfl⟩ := nilOf hpp (by omega)
      rw [hS] at hsu
      repeat (first | (with_reducible first | refine SW.seq ?_ | refine SW.block ?_ | refine SW.rowC ?_ | refine SW.skip ?_ | refine SW.exit ?_ | intro _ | refine And.intro (by omega) ?_) | simp (config := { maxSteps := 1000000 }) (disch := (first | omega | (simp only [go_sem]; try omega))) only [go_sem, Nat.reduceAdd, Nat.reduceEqDiff, Nat.reduceLeDiff, Nat.reduceMul, Nat.reduceLT, reduceIte, Int.reduceToNat, w64_id, cast_succ])
      refine OwnXC.appN (H1 := H1) (N := Btw (H.length + 2) H3.length) (Pn := Btw H1.length H2.length) (xss := pre) (hown.mono (fun r hr => ⟨hr.1, by have := hr.2; omega⟩)) ?_ (fun r hr => ⟨⟨by have := hr.1; omega, by have := hr.2; omega⟩, by have := hr.1; omega, fun j _ q => by have := hMl j r q; have := hr.1; omega⟩) (by omega) ?_ ?_
      · exact .inl ⟨t2, v2, ty2, co, rfl, oc3.same (fun j b _ hb => by rw [List.getElem?_append_left (List.getElem?_eq_some_iff.1 hb).1]; exact hb)⟩
      · intro j b hj hb
        rw [List.getElem?_append_left hj.2, h23 j (by have := hj.1; omega), h12 j (List.getElem?_eq_some_iff.1 hb).1]
        exact hb
      · rintro v' H4 rfl ⟨M', cells', o4⟩ hl4 h4
        repeat (first | (with_reducible first | refine SW.seq ?_ | refine SW.block ?_ | refine SW.rowC ?_ | refine SW.skip ?_ | refine SW.exit ?_ | intro _ | refine And.intro (by omega) ?_) | simp (config := { maxSteps := 1000000 }) (disch := (first | omega | (simp only [go_sem]; try omega))) only [go_sem, Nat.reduceAdd, Nat.reduceEqDiff, Nat.reduceLeDiff, Nat.reduceMul, Nat.reduceLT, reduceIte, Int.reduceToNat, w64_id, cast_succ])
        rw [List.length_append] at hl4
        refine SLoop.next (C - (x + 1)) (by omega) ⟨x + 1, ver + 1, cells', M', by omega, rfl, ?_, ?_, ?_, ?_, fun j hj => ?_⟩
        · rw [hsu]; simp [go_sem]
        · rw [h4 _ (by omega), List.getElem?_append_left (by omega), hsu]; exact hse3
        · rw [hsu]; exact o4.mono (fun r hr => ⟨hr.1, by have := hr.2; omega⟩)
        · rw [h4 _ (by omega), List.getElem?_append_left (by omega)]; exact hgr3
        · rw [h4 _ (by omega), List.getElem?_append_left (by omega), h23 _ (by omega), h12 _ (by omega)]; exact hpre j hj
  · have : x = C := by omega
    subst this
    repeat (first | (with_reducible first | refine SW.seq ?_ | refine SW.block ?_ | refine SW.rowC ?_ | refine SW.skip ?_ | refine SW.exit ?_ | intro _ | refine And.intro (by omega) ?_) | simp (config := { maxSteps := 1000000 }) (disch := (first | omega | (simp only [go_sem]; try omega))) only [go_sem, Nat.reduceAdd, Nat.reduceEqDiff, Nat.reduceLeDiff, Nat.reduceMul, Nat.reduceLT, reduceIte, Int.reduceToNat, w64_id, cast_succ])
    refine SW.ret ?_; (try simp only [go_sem]); (first | refine FunPost.one ?_ | refine FunPost.two ?_ | refine FunPost.three ?_); (try simp (config := { maxSteps := 1000000 }) (disch := (first | omega | (simp only [go_sem]; try omega))) only [go_sem, Nat.reduceAdd, Nat.reduceEqDiff, Nat.reduceLeDiff, Nat.reduceMul, Nat.reduceLT, reduceIte, Int.reduceToNat, w64_id, cast_succ])
    have hltl : H.length ≤ H1.length := by have := (List.getElem?_eq_some_iff.1 hgr).1; omega
    obtain ⟨ext, hext⟩ := prefix_of hltl hpre
    refine GR.of ⟨ext, hext, .inl ⟨H.length + 2, ver, 31, cells, M, ?_, ?_⟩⟩
    · rw [hL]
    · rw [hL]; exact hown.mono (fun r hr => ⟨by have := hr.1; omega, hr.2⟩)
end Go.Proofs.YthogadbnddmkdaaGreat
