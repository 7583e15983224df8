/- Lists of lists of lists; orbits of all sets: the reference. -/
import Derived.Test.YtkifdjjnbplghaaGreatProg
import Derived.KernelRfl
import Derived.Test.YtkifdjjnbplghaaGreatzY2
import Derived.Test.YtkifdjjnbplghaaGreatzY0
set_option linter.unusedSimpArgs false
set_option linter.unusedVariables false
set_option maxHeartbeats 4000000
set_option maxRecDepth 100000
namespace Go.Proofs.YtkifdjjnbplghaaGreat
open Go.Av
abbrev f_spec_l25Orbits : Nat := 52
def c_spec_l25Orbits : SC :=
 .seq (.reg [
     ⟨(some 4), .mv (.const (.slice none 0 0)), none⟩] [0, 1])
 (.seq (.reg [
     ⟨(some 11), .mv (.tmp 0), none⟩,
     ⟨(some 12), .nilc (.tmp 11), none⟩,
     ⟨(some 13), .faddr 0 (.tmp 12), none⟩,
     ⟨(some 14), .load 1 false (.tmp 13), none⟩,
     ⟨(some 15), .mv (.tmp 1), none⟩,
     ⟨(some 16), .call 57 [(.tmp 14), (.tmp 15)], none⟩,
     ⟨(some 5), .mv (.tmp 16), none⟩] [0, 1, 5])
 (.seq (.reg [
     ⟨(some 17), .mv (.tmp 5), none⟩,
     ⟨(some 18), .mslice 4 1 (.bool false) (.tmp 17) (.tmp 17), none⟩,
     ⟨(some 6), .mv (.tmp 18), none⟩] [0, 1, 5, 6])
 (.seq (.reg [
     ⟨(some 19), .bslice 22 1 0 [] [], none⟩,
     ⟨(some 7), .mv (.tmp 19), none⟩] [0, 1, 5, 6, 7])
 (.seq (.seq (.reg [
     ⟨(some 8), .mv (.const (.int .i64 0)), none⟩] [0, 1, 5, 6, 7, 8])
 (.block 0 (.loop [0, 1, 5, 6, 7, 8]
   (.seq (.seq (.reg [
       ⟨(some 20), .mv (.tmp 8), none⟩,
       ⟨(some 21), .mv (.tmp 5), none⟩,
       ⟨(some 22), .bin .lss (.tmp 20) (.tmp 21), none⟩] [0, 1, 5, 6, 7, 8, 22])
   (.cond (.tmp 22)
    (.skip)
    (.exit 0)))
   (.seq (.block 1 (.seq (.seq (.reg [
        ⟨(some 25), .mv (.tmp 6), none⟩,
        ⟨(some 26), .mv (.tmp 8), none⟩,
        ⟨(some 27), .iaddr 1 (.tmp 25) (.tmp 26), none⟩,
        ⟨(some 28), .load 1 false (.tmp 27), none⟩] [0, 1, 5, 6, 7, 8, 28])
    (.cond (.tmp 28)
     (.exit 1)
     (.skip)))
    (.seq (.reg [
        ⟨(some 29), .mv (.tmp 0), none⟩,
        ⟨(some 30), .mv (.tmp 0), none⟩,
        ⟨(some 31), .nilc (.tmp 30), none⟩,
        ⟨(some 32), .faddr 0 (.tmp 31), none⟩,
        ⟨(some 33), .load 1 false (.tmp 32), none⟩,
        ⟨(some 34), .mv (.tmp 1), none⟩,
        ⟨(some 35), .mv (.tmp 8), none⟩,
        ⟨(some 36), .call 86 [(.tmp 33), (.tmp 34), (.tmp 35)], none⟩,
        ⟨(some 37), .call 85 [(.tmp 29), (.tmp 36)], none⟩,
        ⟨(some 9), .mv (.tmp 37), none⟩] [0, 1, 5, 6, 7, 8, 9])
    (.seq (.seq (.reg [
        ⟨(some 10), .mv (.const (.int .i64 0)), none⟩] [0, 1, 5, 6, 7, 8, 9, 10])
    (.block 2 (.loop [0, 1, 5, 6, 7, 8, 9, 10]
      (.seq (.seq (.reg [
          ⟨(some 38), .mv (.tmp 10), none⟩,
          ⟨(some 39), .mv (.tmp 9), none⟩,
          ⟨(some 40), .len (.tmp 39), none⟩,
          ⟨(some 41), .bin .lss (.tmp 38) (.tmp 40), none⟩] [0, 1, 5, 6, 7, 8, 9, 10, 41])
      (.cond (.tmp 41)
       (.skip)
       (.exit 2)))
      (.seq (.block 3 (.reg [
           ⟨(some 44), .mv (.tmp 6), none⟩,
           ⟨(some 45), .mv (.tmp 0), none⟩,
           ⟨(some 46), .nilc (.tmp 45), none⟩,
           ⟨(some 47), .faddr 0 (.tmp 46), none⟩,
           ⟨(some 48), .load 1 false (.tmp 47), none⟩,
           ⟨(some 49), .mv (.tmp 9), none⟩,
           ⟨(some 50), .mv (.tmp 10), none⟩,
           ⟨(some 51), .iaddr 1 (.tmp 49) (.tmp 50), none⟩,
           ⟨(some 52), .load 1 false (.tmp 51), none⟩,
           ⟨(some 53), .qcall 87 [(.tmp 48), (.tmp 52)], none⟩,
           ⟨(some 54), .iaddr 1 (.tmp 44) (.tmp 53), none⟩,
           ⟨none, .store 1 (.tmp 54) (.const (.bool true)), none⟩] [0, 1, 5, 6, 7, 8, 9, 10]))
      (.reg [
          ⟨(some 42), .mv (.tmp 10), none⟩,
          ⟨(some 43), .bin .add (.tmp 42) (.const (.int .i64 1)), none⟩,
          ⟨(some 10), .mv (.tmp 43), none⟩] [0, 1, 5, 6, 7, 8, 9, 10]))))))
    (.reg [
        ⟨(some 55), .mv (.tmp 7), none⟩,
        ⟨(some 56), .mv (.tmp 9), none⟩,
        ⟨(some 57), .bslice 22 1 1 [(.slice none 0 0)] [(0, (.tmp 56))], none⟩,
        ⟨(some 58), .app 22 1 24 (.tmp 55) (.tmp 57), none⟩,
        ⟨(some 7), .mv (.tmp 58), none⟩] [0, 1, 5, 6, 7, 8])))))
   (.reg [
       ⟨(some 23), .mv (.tmp 8), none⟩,
       ⟨(some 24), .bin .add (.tmp 23) (.const (.int .i64 1)), none⟩,
       ⟨(some 8), .mv (.tmp 24), none⟩] [0, 1, 5, 6, 7, 8]))))))
 (.seq (.reg [
     ⟨(some 59), .mv (.tmp 7), none⟩,
     ⟨(some 4), .mv (.tmp 59), none⟩] [4])
 (.ret))))))
theorem s_spec_l25Orbits : stripF Tryz.prog 52 [[0, 1], [0, 1, 5], [0, 1, 5, 6], [0, 1, 5, 6, 7], [0, 1, 5, 6, 7, 8], [0, 1, 5, 6, 7, 8], [0, 1, 5, 6, 7, 8, 22], [0, 1, 5, 6, 7, 8, 28], [0, 1, 5, 6, 7, 8, 9], [0, 1, 5, 6, 7, 8, 9, 10], [0, 1, 5, 6, 7, 8, 9, 10], [0, 1, 5, 6, 7, 8, 9, 10, 41], [0, 1, 5, 6, 7, 8, 9, 10], [0, 1, 5, 6, 7, 8, 9, 10], [0, 1, 5, 6, 7, 8], [0, 1, 5, 6, 7, 8], [4]] = some (c_spec_l25Orbits, [.tmp 4], 60) := by kernel_rfl
theorem l25Orbits_ok (H : List Blk) (p : Nat) (n k : Nat) (els : List (List Int)) (hn : n ≤ 32) (hl : els.length ≤ 720) (ho : ∀ q ∈ els, permOk n q) (hk : k ≤ n) (hm : ch n k ≤ 2000) (hp : H[p]? = some ⟨0, tyG, 1, [I n, ilSS els]⟩) :
    ACalls Tryz.prog f_spec_l25Orbits [.pc p 0 0, I k] H (fun r H' => r = il3 (orbL n k els (ch n k)).1 ∧ H' = H) := by
  have hpa := fun (ext : List Blk) (o : Nat) => pc_alive (off := o) (get_appB2 hp ext)
  have hpl := fun (ext : List Blk) (o : Nat) => pc_ld (off := o) (get_appB2 hp ext)
  have hpa0 := fun (o : Nat) => pc_alive (off := o) hp
  have hpl0 := fun (o : Nat) => pc_ld (off := o) hp
  have hplt := (List.getElem?_eq_some_iff.1 hp).1
  have hch := specChoose_fn n k
  rw [chooseI_ch n k hn hk] at hch
  generalize hC : ch n k = C at *
  refine ACalls.introB s_spec_l25Orbits (by simp) ?_; intro hB hA; unfold c_spec_l25Orbits; simp (config := { maxSteps := 1000000 }) (disch := (first | omega | (simp only [go_sem]; try omega))) only [go_sem, Nat.reduceAdd, Nat.reduceEqDiff, Nat.reduceLeDiff, Nat.reduceMul, Nat.reduceLT, reduceIte, Int.reduceToNat, w64_id, cast_succ]
  repeat (first | (with_reducible first | refine SW.seq ?_ | refine SW.block ?_ | refine SW.rowC ?_ | refine SW.skip ?_ | refine SW.exit ?_ | refine PFn.use (hch) ?_ | refine PFn.useq (hch) ?_ | intro _ | refine And.intro (by omega) ?_) | simp (config := { maxSteps := 1000000 }) (disch := (first | omega | (simp only [go_sem]; try omega))) only [go_sem, Nat.reduceAdd, Nat.reduceEqDiff, Nat.reduceLeDiff, Nat.reduceMul, Nat.reduceLT, reduceIte, Int.reduceToNat, w64_id, cast_succ, hpa0, hpl0, hpa, hpl])
  refine SW.loopE (fun E0 H0 q E' H' => ∃ (x ver : Nat), x ≤ C ∧ q = C - x ∧ E' = aput (aput E0 8 (I x)) 7 (.nm (H.length + 1) ver 0 (orbL n k els x).1.length) ∧ H' = H ++ [⟨0, 4, 1, (orbL n k els x).2.map Bv⟩, ⟨ver, 22, 1, (orbL n k els x).1.map ilSS⟩]) C ⟨0, 0, by omega, by omega, by rw [orbL_zero]; rfl, by rw [orbL_zero, hC]; simp [List.map_replicate]⟩ ?_
  rintro q E' H' ⟨x, ver, hx, rfl, rfl, rfl⟩
  have hinv := orbL_len n k els x
  have hsu := orbL_succ n k els x
  generalize hL : orbL n k els x = st at *
  obtain ⟨os, s0⟩ := st
  simp only at hinv
  unfold orbS at hsu
  simp only at hsu
  simp (config := { maxSteps := 1000000 }) (disch := (first | omega | (simp only [go_sem]; try omega))) only [go_sem, Nat.reduceAdd, Nat.reduceEqDiff, Nat.reduceLeDiff, Nat.reduceMul, Nat.reduceLT, reduceIte, Int.reduceToNat, w64_id, cast_succ]
  repeat (first | (with_reducible first | refine SW.seq ?_ | refine SW.block ?_ | refine SW.rowC ?_ | refine SW.skip ?_ | refine SW.exit ?_ | intro _ | refine And.intro (by omega) ?_) | simp (config := { maxSteps := 1000000 }) (disch := (first | omega | (simp only [go_sem]; try omega))) only [go_sem, Nat.reduceAdd, Nat.reduceEqDiff, Nat.reduceLeDiff, Nat.reduceMul, Nat.reduceLT, reduceIte, Int.reduceToNat, w64_id, cast_succ])
  (first | refine SW.condD rfl (fun h => ?_) (fun h => ?_) | refine SW.condN rfl (fun h => ?_) (fun h => ?_) | refine SW.condNB rfl (fun h => ?_) (fun h => ?_) | refine SW.condB rfl (fun h => ?_) (fun h => ?_))
  · have hxs : x < s0.length := by omega
    have htk0 : (s0.map Bv).take C = s0.map Bv := List.take_of_length_le (by simp; omega)
    have hgb0 : (s0.map Bv)[x]? = some (Bv (s0.getD x false)) := getB hxs
    by_cases hs0 : s0.getD x false = true
    · rw [if_pos hs0] at hsu
      repeat (first | (with_reducible first | refine SW.seq ?_ | refine SW.block ?_ | refine SW.rowC ?_ | refine SW.skip ?_ | refine SW.exit ?_ | intro _ | refine And.intro (by omega) ?_) | simp (config := { maxSteps := 1000000 }) (disch := (first | omega | (simp only [go_sem]; try omega))) only [go_sem, Nat.reduceAdd, Nat.reduceEqDiff, Nat.reduceLeDiff, Nat.reduceMul, Nat.reduceLT, reduceIte, Int.reduceToNat, w64_id, cast_succ, htk0, hgb0, hs0])
      refine SW.condT rfl ?_
      repeat (first | (with_reducible first | refine SW.seq ?_ | refine SW.block ?_ | refine SW.rowC ?_ | refine SW.skip ?_ | refine SW.exit ?_ | intro _ | refine And.intro (by omega) ?_) | simp (config := { maxSteps := 1000000 }) (disch := (first | omega | (simp only [go_sem]; try omega))) only [go_sem, Nat.reduceAdd, Nat.reduceEqDiff, Nat.reduceLeDiff, Nat.reduceMul, Nat.reduceLT, reduceIte, Int.reduceToNat, w64_id, cast_succ])
      refine SLoop.nextT 2 (C - (x + 1)) hB (by omega) (by omega) (by simp) ?_ ?_ ⟨x + 1, ver, by omega, rfl, ?_, ?_⟩
      · (simp only [go_sem, Nat.reduceAdd, Nat.reduceEqDiff, reduceIte, go_sem, and_self, and_true, true_and, implies_true, List.take_succ_cons, List.take_zero, and_true, true_and, all_map3]; try omega)
      · (simp only [go_sem, Nat.reduceAdd, Nat.reduceEqDiff, reduceIte, go_sem, and_self, and_true, true_and, implies_true, List.take_succ_cons, List.take_zero, and_true, true_and, all_map3]; try omega)
      · rw [hsu]; simp [go_sem]
      · rw [hsu]; simp
    rw [if_neg hs0] at hsu
    rw [Bool.not_eq_true] at hs0
    have hrk := orb_rank (i := x) hn ho (by rw [hC]; omega)
    have hsr := subsN_row (n := n) (k := k) (i := x) (by rw [hC]; omega)
    have hsub := subset_fn n k x hn (by omega) (by rw [hC]; omega)
    generalize hW : (subsN n k).getD x [] = W at *
    have himg := fun H hp => l25Images_ok H p n els W hn hl ho hsr.2 hp
    have hol : (sortU cmpL (imgsOf els W)).length ≤ 720 := by
      have := sortU_len (cf := cmpL) (imgsOf els W)
      simp [imgsOf] at this ⊢; omega
    generalize hO : sortU cmpL (imgsOf els W) = O at *
    repeat (first | (with_reducible first | refine SW.seq ?_ | refine SW.block ?_ | refine SW.rowC ?_ | refine SW.skip ?_ | refine SW.exit ?_ | intro _ | refine And.intro (by omega) ?_) | simp (config := { maxSteps := 1000000 }) (disch := (first | omega | (simp only [go_sem]; try omega))) only [go_sem, Nat.reduceAdd, Nat.reduceEqDiff, Nat.reduceLeDiff, Nat.reduceMul, Nat.reduceLT, reduceIte, Int.reduceToNat, w64_id, cast_succ, htk0, hgb0, hs0])
    refine SW.condF rfl ?_
    repeat (first | (with_reducible first | refine SW.seq ?_ | refine SW.block ?_ | refine SW.rowC ?_ | refine SW.skip ?_ | refine SW.exit ?_ | refine PFn.use (hsub) ?_ | refine PFn.useq (hsub) ?_ | intro _ | refine And.intro (by omega) ?_) | simp (config := { maxSteps := 1000000 }) (disch := (first | omega | (simp only [go_sem]; try omega))) only [go_sem, Nat.reduceAdd, Nat.reduceEqDiff, Nat.reduceLeDiff, Nat.reduceMul, Nat.reduceLT, reduceIte, Int.reduceToNat, w64_id, cast_succ, hpa, hpl])
    refine ACalls.fn (himg _ (get_appB2 hp _)) ?_
    repeat (first | (with_reducible first | refine SW.seq ?_ | refine SW.block ?_ | refine SW.rowC ?_ | refine SW.skip ?_ | refine SW.exit ?_ | intro _ | refine And.intro (by omega) ?_) | simp (config := { maxSteps := 1000000 }) (disch := (first | omega | (simp only [go_sem]; try omega))) only [go_sem, Nat.reduceAdd, Nat.reduceEqDiff, Nat.reduceLeDiff, Nat.reduceMul, Nat.reduceLT, reduceIte, Int.reduceToNat, w64_id, cast_succ, hpa, hpl])
    refine SW.loopE (fun E0 H0 q E' H' => ∃ (pre post : List (List Int)), O = pre ++ post ∧ q = post.length ∧ E' = aput E0 10 (I pre.length) ∧ H' = H ++ [⟨0, 4, 1, (pre.foldl (fun s x => s.set (rkN n 0 x) true) s0).map Bv⟩, ⟨ver, 22, 1, os.map ilSS⟩]) O.length ⟨[], O, rfl, rfl, rfl, rfl⟩ ?_
    rintro q E' H' ⟨pre, post, hpp, rfl, rfl, rfl⟩
    have hprl : pre.length ≤ 720 := by rw [hpp] at hol; simp at hol; omega
    have hsl := foldset_len (rkN n 0) pre s0
    have hsn : ∀ y, (pre ++ [y]).foldl (fun s x => s.set (rkN n 0 x) true) s0 = (pre.foldl (fun s x => s.set (rkN n 0 x) true) s0).set (rkN n 0 y) true := fun y => by rw [List.foldl_append]; rfl
    generalize hS : pre.foldl (fun s x => s.set (rkN n 0 x) true) s0 = s at *
    simp (config := { maxSteps := 1000000 }) (disch := (first | omega | (simp only [go_sem]; try omega))) only [go_sem, Nat.reduceAdd, Nat.reduceEqDiff, Nat.reduceLeDiff, Nat.reduceMul, Nat.reduceLT, reduceIte, Int.reduceToNat, w64_id, cast_succ]
    repeat (first | (with_reducible first | refine SW.seq ?_ | refine SW.block ?_ | refine SW.rowC ?_ | refine SW.skip ?_ | refine SW.exit ?_ | intro _ | refine And.intro (by omega) ?_) | simp (config := { maxSteps := 1000000 }) (disch := (first | omega | (simp only [go_sem]; try omega))) only [go_sem, Nat.reduceAdd, Nat.reduceEqDiff, Nat.reduceLeDiff, Nat.reduceMul, Nat.reduceLT, reduceIte, Int.reduceToNat, w64_id, cast_succ])
    (first | refine SW.condD rfl (fun h2 => ?_) (fun h2 => ?_) | refine SW.condN rfl (fun h2 => ?_) (fun h2 => ?_) | refine SW.condNB rfl (fun h2 => ?_) (fun h2 => ?_) | refine SW.condB rfl (fun h2 => ?_) (fun h2 => ?_))
    · obtain ⟨y, post, rfl, hg, -⟩ := consOf (d := []) hpp (by omega)
      have hry := hrk y (by rw [hpp]; simp)
      have hrf := l01Rank_fn n y hry.1 (by omega) (by omega)
      rw [hry.2.1] at hrf
      have hrl : rkN n 0 y < s.length := by omega
      repeat (first | (with_reducible first | refine SW.seq ?_ | refine SW.block ?_ | refine SW.rowC ?_ | refine SW.skip ?_ | refine SW.exit ?_ | refine PFn.use (hrf) ?_ | refine PFn.useq (hrf) ?_ | intro _ | refine And.intro (by omega) ?_) | simp (config := { maxSteps := 1000000 }) (disch := (first | omega | (simp only [go_sem]; try omega))) only [go_sem, Nat.reduceAdd, Nat.reduceEqDiff, Nat.reduceLeDiff, Nat.reduceMul, Nat.reduceLT, reduceIte, Int.reduceToNat, w64_id, cast_succ, hpa, hpl, hg])
      refine SLoop.nextT 2 post.length hB (by omega) (by simp) (by simp) ?_ ?_ ⟨pre ++ [y], post, by simp [hpp], rfl, ?_, ?_⟩
      · (simp only [go_sem, Nat.reduceAdd, Nat.reduceEqDiff, reduceIte, go_sem, and_self, and_true, true_and, implies_true, List.take_succ_cons, List.take_zero, and_true, true_and, all_map3]; try omega)
      · (simp only [go_sem, Nat.reduceAdd, Nat.reduceEqDiff, reduceIte, go_sem, and_self, and_true, true_and, implies_true, List.take_succ_cons, List.take_zero, and_true, true_and, all_map3]; try omega)
      · simp [go_sem]
      · rw [hsn]; simp
    · obtain ⟨rfl, rfl⟩ := nilOf hpp (by omega)
      have htl : (os.map ilSS).take os.length = os.map ilSS := List.take_of_length_le (by simp)
      repeat (first | (with_reducible first | refine SW.seq ?_ | refine SW.block ?_ | refine SW.rowC ?_ | refine SW.skip ?_ | refine SW.exit ?_ | intro _ | refine And.intro (by omega) ?_) | simp (config := { maxSteps := 1000000 }) (disch := (first | omega | (simp only [go_sem]; try omega))) only [go_sem, Nat.reduceAdd, Nat.reduceEqDiff, Nat.reduceLeDiff, Nat.reduceMul, Nat.reduceLT, reduceIte, Int.reduceToNat, w64_id, cast_succ, htl])
      rw [hS] at hsu
      refine SLoop.nextT 2 (C - (x + 1)) hB (by omega) (by omega) (by simp) ?_ ?_ ⟨x + 1, ver + 1, by omega, rfl, ?_, ?_⟩
      · (simp only [go_sem, Nat.reduceAdd, Nat.reduceEqDiff, reduceIte, go_sem, and_self, and_true, true_and, implies_true, List.take_succ_cons, List.take_zero, and_true, true_and, all_map3]; try omega)
      · (simp only [go_sem, Nat.reduceAdd, Nat.reduceEqDiff, reduceIte, go_sem, and_self, and_true, true_and, implies_true, List.take_succ_cons, List.take_zero, and_true, true_and, all_map3]; try omega)
      · rw [hsu]; simp [go_sem]
      · rw [hsu]; rfl
  · have : x = C := by omega
    subst this
    repeat (first | (with_reducible first | refine SW.seq ?_ | refine SW.block ?_ | refine SW.rowC ?_ | refine SW.skip ?_ | refine SW.exit ?_ | intro _ | refine And.intro (by omega) ?_) | simp (config := { maxSteps := 1000000 }) (disch := (first | omega | (simp only [go_sem]; try omega))) only [go_sem, Nat.reduceAdd, Nat.reduceEqDiff, Nat.reduceLeDiff, Nat.reduceMul, Nat.reduceLT, reduceIte, Int.reduceToNat, w64_id, cast_succ])
    refine SW.ret ?_; (try simp only [go_sem]); (first | refine FunPost.one ?_ | refine FunPost.two ?_ | refine FunPost.three ?_); (try simp (config := { maxSteps := 1000000 }) (disch := (first | omega | (simp only [go_sem]; try omega))) only [go_sem, Nat.reduceAdd, Nat.reduceEqDiff, Nat.reduceLeDiff, Nat.reduceMul, Nat.reduceLT, reduceIte, Int.reduceToNat, w64_id, cast_succ])
    exact GR.froz (froz_row3 (r := H.length + 1) (ver := ver) (ty := 22) (xs := os) (by omega) (by simp)) ⟨by rw [hL], rfl⟩
end Go.Proofs.YtkifdjjnbplghaaGreat
