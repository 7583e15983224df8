/- Sets in blocks, counted: the law. -/
import Derived.Test.YtnlfokkljgbaaaaProg
import Derived.KernelRfl
import Derived.Test.YtnlfokkljgbaaaazIM
import Derived.Test.YtnlfokkljgbaaaazK25
import Derived.Test.YtnlfokkljgbaaaazVL
set_option linter.unusedSimpArgs false
set_option linter.unusedVariables false
set_option maxHeartbeats 4000000
set_option maxRecDepth 100000
namespace Go.Proofs.Ytnlfokkljgbaaaa
open Go.Av
abbrev f_laws_FnLambdas : Nat := 3
def c_laws_FnLambdas : SC :=
 .seq (.reg [
     ⟨(some 2), .mv (.const (.bool false)), none⟩] [0])
 (.seq (.seq (.reg [
     ⟨(some 10), .mv (.tmp 0), none⟩,
     ⟨(some 11), .call 5 [(.tmp 10)], none⟩] [0, 11])
 (.cond (.tmp 11)
  (.seq (.reg [
      ⟨(some 2), .mv (.const (.bool true)), none⟩] [2])
  (.ret))
  (.skip)))
 (.seq (.reg [
     ⟨(some 13), .mv (.tmp 0), none⟩,
     ⟨(some 14), .call 6 [(.tmp 13)], none⟩,
     ⟨(some 12), .mv (.tmp 14), none⟩,
     ⟨(some 15), .ext (.tmp 12) 0, none⟩,
     ⟨(some 16), .ext (.tmp 12) 1, none⟩,
     ⟨(some 3), .alloc 26 [(.int .i64 0), (.slice none 0 0)], none⟩,
     ⟨none, .store 2 (.tmp 3) (.tmp 15), none⟩,
     ⟨(some 4), .mv (.tmp 16), none⟩] [3, 4])
 (.seq (.reg [
     ⟨(some 18), .load 2 true (.tmp 3), none⟩,
     ⟨(some 19), .mv (.tmp 4), none⟩,
     ⟨(some 20), .call 7 [(.tmp 18), (.tmp 19)], none⟩,
     ⟨(some 17), .mv (.tmp 20), none⟩,
     ⟨(some 21), .ext (.tmp 17) 0, none⟩,
     ⟨(some 22), .ext (.tmp 17) 1, none⟩,
     ⟨(some 5), .mv (.tmp 21), none⟩,
     ⟨(some 6), .mv (.tmp 22), none⟩] [3, 4, 5, 6])
 (.seq (.seq (.reg [
     ⟨(some 23), .mv (.tmp 6), none⟩,
     ⟨(some 24), .bin .neq (.tmp 23) (.const (.int .i64 0)), none⟩] [3, 4, 5, 24])
 (.cond (.tmp 24)
  (.seq (.reg [
      ⟨(some 25), .mv (.tmp 5), none⟩,
      ⟨(some 26), .len (.tmp 25), none⟩,
      ⟨(some 27), .bin .eql (.tmp 26) (.const (.int .i64 0)), none⟩,
      ⟨(some 2), .mv (.tmp 27), none⟩] [2])
  (.ret))
  (.skip)))
 (.seq (.seq (.reg [
     ⟨(some 28), .mv (.tmp 5), none⟩,
     ⟨(some 29), .qlen (.tmp 28), none⟩,
     ⟨(some 30), .mv (.tmp 4), none⟩,
     ⟨(some 31), .bin .add (.tmp 30) (.const (.int .i64 1)), none⟩,
     ⟨(some 32), .bin .neq (.tmp 29) (.tmp 31), none⟩,
     ⟨(some 33), .mv (.tmp 32), none⟩,
     ⟨(some 34), .faddr 1 (.tmp 3), (some (33, false))⟩,
     ⟨(some 35), .load 1 false (.tmp 34), (some (33, false))⟩,
     ⟨(some 36), .qlen (.tmp 35), (some (33, false))⟩,
     ⟨(some 37), .bin .eql (.tmp 36) (.const (.int .i64 0)), (some (33, false))⟩,
     ⟨(some 38), .pick (.tmp 33) (.const (.bool true)) (.tmp 37), none⟩,
     ⟨(some 39), .mv (.tmp 38), none⟩,
     ⟨(some 40), .mv (.tmp 5), (some (39, false))⟩,
     ⟨(some 41), .iaddr 1 (.tmp 40) (.const (.int .i64 0)), (some (39, false))⟩,
     ⟨(some 42), .load 1 false (.tmp 41), (some (39, false))⟩,
     ⟨(some 43), .faddr 1 (.tmp 3), (some (39, false))⟩,
     ⟨(some 44), .load 1 false (.tmp 43), (some (39, false))⟩,
     ⟨(some 45), .qlen (.tmp 44), (some (39, false))⟩,
     ⟨(some 46), .bin .neq (.tmp 42) (.tmp 45), (some (39, false))⟩,
     ⟨(some 47), .pick (.tmp 39) (.const (.bool true)) (.tmp 46), none⟩] [3, 4, 5, 47])
 (.cond (.tmp 47)
  (.seq (.reg [
      ⟨(some 2), .mv (.const (.bool false)), none⟩] [2])
  (.ret))
  (.skip)))
 (.seq (.reg [
     ⟨(some 48), .faddr 1 (.tmp 3), none⟩,
     ⟨(some 49), .load 1 false (.tmp 48), none⟩,
     ⟨(some 50), .iaddr 1 (.tmp 49) (.const (.int .i64 0)), none⟩,
     ⟨(some 51), .load 1 false (.tmp 50), none⟩,
     ⟨(some 52), .len (.tmp 51), none⟩,
     ⟨(some 7), .mv (.tmp 52), none⟩] [3, 4, 5, 7])
 (.seq (.seq (.reg [
     ⟨(some 8), .mv (.const (.int .i64 1)), none⟩] [3, 4, 5, 7, 8])
 (.block 0 (.loop [3, 4, 5, 7, 8]
   (.seq (.seq (.reg [
       ⟨(some 53), .mv (.tmp 8), none⟩,
       ⟨(some 54), .faddr 1 (.tmp 3), none⟩,
       ⟨(some 55), .load 1 false (.tmp 54), none⟩,
       ⟨(some 56), .len (.tmp 55), none⟩,
       ⟨(some 57), .bin .lss (.tmp 53) (.tmp 56), none⟩] [3, 4, 5, 7, 8, 57])
   (.cond (.tmp 57)
    (.skip)
    (.exit 0)))
   (.seq (.block 1 (.seq (.reg [
        ⟨(some 60), .faddr 1 (.tmp 3), none⟩,
        ⟨(some 61), .load 1 false (.tmp 60), none⟩,
        ⟨(some 62), .mv (.tmp 8), none⟩,
        ⟨(some 63), .iaddr 1 (.tmp 61) (.tmp 62), none⟩,
        ⟨(some 64), .load 1 false (.tmp 63), none⟩,
        ⟨(some 65), .len (.tmp 64), none⟩,
        ⟨(some 66), .mv (.tmp 7), none⟩,
        ⟨(some 67), .bin .neq (.tmp 65) (.tmp 66), none⟩] [3, 4, 5, 7, 8, 67])
    (.cond (.tmp 67)
     (.seq (.reg [
         ⟨(some 2), .mv (.const (.bool true)), none⟩] [2])
     (.ret))
     (.skip))))
   (.reg [
       ⟨(some 58), .mv (.tmp 8), none⟩,
       ⟨(some 59), .bin .add (.tmp 58) (.const (.int .i64 1)), none⟩,
       ⟨(some 8), .mv (.tmp 59), none⟩] [3, 4, 5, 7, 8]))))))
 (.seq (.seq (.reg [
     ⟨(some 9), .mv (.const (.int .i64 0)), none⟩] [3, 4, 5, 7, 9])
 (.block 2 (.loop [3, 4, 5, 7, 9]
   (.seq (.seq (.reg [
       ⟨(some 68), .mv (.tmp 9), none⟩,
       ⟨(some 69), .mv (.tmp 4), none⟩,
       ⟨(some 70), .bin .lss (.tmp 68) (.tmp 69), none⟩] [3, 4, 5, 7, 9, 70])
   (.cond (.tmp 70)
    (.skip)
    (.exit 2)))
   (.seq (.block 3 (.seq (.reg [
        ⟨(some 73), .mv (.tmp 5), none⟩,
        ⟨(some 74), .mv (.tmp 9), none⟩,
        ⟨(some 75), .iaddr 1 (.tmp 73) (.tmp 74), none⟩,
        ⟨(some 76), .load 1 false (.tmp 75), none⟩,
        ⟨(some 77), .mv (.tmp 7), none⟩,
        ⟨(some 78), .mv (.tmp 9), none⟩,
        ⟨(some 79), .bin .sub (.tmp 77) (.tmp 78), none⟩,
        ⟨(some 80), .bin .mul (.tmp 76) (.tmp 79), none⟩,
        ⟨(some 81), .mv (.tmp 5), none⟩,
        ⟨(some 82), .mv (.tmp 9), none⟩,
        ⟨(some 83), .bin .add (.tmp 82) (.const (.int .i64 1)), none⟩,
        ⟨(some 84), .iaddr 1 (.tmp 81) (.tmp 83), none⟩,
        ⟨(some 85), .load 1 false (.tmp 84), none⟩,
        ⟨(some 86), .faddr 0 (.tmp 3), none⟩,
        ⟨(some 87), .load 1 false (.tmp 86), none⟩,
        ⟨(some 88), .mv (.tmp 9), none⟩,
        ⟨(some 89), .bin .sub (.tmp 87) (.tmp 88), none⟩,
        ⟨(some 90), .bin .mul (.tmp 85) (.tmp 89), none⟩,
        ⟨(some 91), .bin .neq (.tmp 80) (.tmp 90), none⟩] [3, 4, 5, 7, 9, 91])
    (.cond (.tmp 91)
     (.seq (.reg [
         ⟨(some 2), .mv (.const (.bool false)), none⟩] [2])
     (.ret))
     (.skip))))
   (.reg [
       ⟨(some 71), .mv (.tmp 9), none⟩,
       ⟨(some 72), .bin .add (.tmp 71) (.const (.int .i64 1)), none⟩,
       ⟨(some 9), .mv (.tmp 72), none⟩] [3, 4, 5, 7, 9]))))))
 (.seq (.reg [
     ⟨(some 2), .mv (.const (.bool true)), none⟩] [2])
 (.ret))))))))))
theorem s_laws_FnLambdas : stripF Try.prog 3 [[0], [0, 11], [2], [3, 4], [3, 4, 5, 6], [3, 4, 5, 24], [2], [3, 4, 5, 47], [2], [3, 4, 5, 7], [3, 4, 5, 7, 8], [3, 4, 5, 7, 8], [3, 4, 5, 7, 8, 57], [3, 4, 5, 7, 8, 67], [2], [3, 4, 5, 7, 8], [3, 4, 5, 7, 9], [3, 4, 5, 7, 9], [3, 4, 5, 7, 9, 70], [3, 4, 5, 7, 9, 91], [2], [3, 4, 5, 7, 9], [2]] = some (c_laws_FnLambdas, [.tmp 2], 92) := by kernel_rfl
theorem FS.pfnL {P : Program} {f : FuncId} {args : List AV} {xs : List Int} {code : Int} (h : FS P f args xs code) : PFn P f args (.tup [ilS xs, I code]) := by
  intro H
  refine (h H).gr ?_
  rintro r H' ⟨ext, v, t, rfl, rfl, ho, rfl⟩
  exact GR.froz (froz_tup2 (ho.froz (fun i hi => hi.1)) (froz_I' _)) ⟨rfl, rfl⟩
theorem lamV_bad {v : Int} {xss : List (List Int)} {t : Int} (h : (lamV v xss t).2 ≠ 0) : (lamV v xss t).1 = [] := by
  unfold lamV at h ⊢
  split
  · rfl
  · split
    · rfl
    · rename_i h1 h2
      rw [if_neg h1, if_neg h2] at h
      exact absurd rfl h
theorem lamV_good {v : Int} {xss : List (List Int)} {t : Int} (h : (lamV v xss t).2 = 0) : designB v xss = true ∧ 0 ≤ t ∧ t ≤ 3 ∧ tIdx v.toNat xss t.toNat ≠ 0 ∧ (lamV v xss t).1 = (List.range (t.toNat + 1)).map fun s => tIdx v.toNat xss s := by
  unfold lamV at h ⊢
  split at h
  · rename_i h1
    exact absurd h h1
  · split at h
    · simp at h
    · rename_i h1 h2
      have hg := tiV_good (Decidable.not_not.1 h1)
      rw [if_neg h1, if_neg h2]
      refine ⟨hg.1, hg.2.1, hg.2.2, fun e => h2 ?_, rfl⟩
      unfold tiV
      rw [hg.1, if_neg (by simp), if_neg (by simp; omega)]
      exact e
theorem tIdx_rng (n : Nat) (xss : List (List Int)) (s : Nat) (h : xss.length ≤ 128) : 0 ≤ tIdx n xss s ∧ tIdx n xss s ≤ 128 := by
  unfold tIdx
  by_cases h0 : sameV ((subsN n s).map (cntB xss)) = 0
  · rw [h0]; omega
  · obtain ⟨h1, h2⟩ := sameV_ne h0
    obtain ⟨c, hc⟩ := List.exists_mem_of_ne_nil _ h1
    have h3 := h2 c hc
    obtain ⟨U, -, rfl⟩ := List.mem_map.1 hc
    rw [← h3]
    exact cntB_range xss U h
theorem mulB {a c : Int} (h0 : 0 ≤ a) (h1 : a ≤ 128) (h2 : -200 ≤ c) (h3 : c ≤ 200) : -25600 ≤ a * c ∧ a * c ≤ 25600 := by
  have g1 := Int.mul_le_mul_of_nonneg_left h3 h0
  have g2 := Int.mul_le_mul_of_nonneg_left h2 h0
  omega
theorem lawFnLambdas_ok (H : List Blk) (ns : List Int) (hz : ∀ z ∈ ns, 0 ≤ z ∧ z < 256) : ACalls Try.prog f_laws_FnLambdas [ilY ns] H (fun r _ => r = Bv true) := by
  have hbn := fun k => Bel_ilY k ns
  have l1 := b10Long_fn ns
  by_cases h1 : (1048576 : Int) < ns.length
  · rw [decide_eq_true h1] at l1
    refine ACalls.introB s_laws_FnLambdas (by simp) ?_; intro hB hA; unfold c_laws_FnLambdas; simp (config := { maxSteps := 1000000 }) (disch := (first | omega | (simp only [go_sem]; try omega))) only [go_sem, Nat.reduceAdd, Nat.reduceEqDiff, Nat.reduceLeDiff, Nat.reduceMul, Nat.reduceLT, reduceIte, Int.reduceToNat, w64_id, cast_succ]
    repeat (first | (with_reducible first | refine SW.seq ?_ | refine SW.block ?_ | refine SW.rowC ?_ | refine SW.skip ?_ | refine SW.exit ?_ | refine PFn.use (l1) ?_ | refine PFn.useq (l1) ?_ | intro _ | refine And.intro (by omega) ?_) | simp (config := { maxSteps := 1000000 }) (disch := (first | omega | (simp only [go_sem]; try omega))) only [go_sem, Nat.reduceAdd, Nat.reduceEqDiff, Nat.reduceLeDiff, Nat.reduceMul, Nat.reduceLT, reduceIte, Int.reduceToNat, w64_id, cast_succ])
    refine SW.condT rfl ?_
    repeat (first | (with_reducible first | refine SW.seq ?_ | refine SW.block ?_ | refine SW.rowC ?_ | refine SW.skip ?_ | refine SW.exit ?_ | intro _ | refine And.intro (by omega) ?_) | simp (config := { maxSteps := 1000000 }) (disch := (first | omega | (simp only [go_sem]; try omega))) only [go_sem, Nat.reduceAdd, Nat.reduceEqDiff, Nat.reduceLeDiff, Nat.reduceMul, Nat.reduceLT, reduceIte, Int.reduceToNat, w64_id, cast_succ])
    refine SW.ret ?_; (try simp only [go_sem]); (first | refine FunPost.one ?_ | refine FunPost.two ?_ | refine FunPost.three ?_); (try simp (config := { maxSteps := 1000000 }) (disch := (first | omega | (simp only [go_sem]; try omega))) only [go_sem, Nat.reduceAdd, Nat.reduceEqDiff, Nat.reduceLeDiff, Nat.reduceMul, Nat.reduceLT, reduceIte, Int.reduceToNat, w64_id, cast_succ])
    exact GR.of rfl
  rw [decide_eq_false h1] at l1
  refine ACalls.introB s_laws_FnLambdas (by simp) ?_; intro hB hA; unfold c_laws_FnLambdas; simp (config := { maxSteps := 1000000 }) (disch := (first | omega | (simp only [go_sem]; try omega))) only [go_sem, Nat.reduceAdd, Nat.reduceEqDiff, Nat.reduceLeDiff, Nat.reduceMul, Nat.reduceLT, reduceIte, Int.reduceToNat, w64_id, cast_succ]
  repeat (first | (with_reducible first | refine SW.seq ?_ | refine SW.block ?_ | refine SW.rowC ?_ | refine SW.skip ?_ | refine SW.exit ?_ | refine PFn.use (l1) ?_ | refine PFn.useq (l1) ?_ | intro _ | refine And.intro (by omega) ?_) | simp (config := { maxSteps := 1000000 }) (disch := (first | omega | (simp only [go_sem]; try omega))) only [go_sem, Nat.reduceAdd, Nat.reduceEqDiff, Nat.reduceLeDiff, Nat.reduceMul, Nat.reduceLT, reduceIte, Int.reduceToNat, w64_id, cast_succ])
  refine SW.condF rfl ?_
  repeat (first | (with_reducible first | refine SW.seq ?_ | refine SW.block ?_ | refine SW.rowC ?_ | refine SW.skip ?_ | refine SW.exit ?_ | intro _ | refine And.intro (by omega) ?_) | simp (config := { maxSteps := 1000000 }) (disch := (first | omega | (simp only [go_sem]; try omega))) only [go_sem, Nat.reduceAdd, Nat.reduceEqDiff, Nat.reduceLeDiff, Nat.reduceMul, Nat.reduceLT, reduceIte, Int.reduceToNat, w64_id, cast_succ])
  refine (DrawLambdas_ok _ ns hz (by omega)).mono ?_
  rintro r H1 ⟨rfl, v, t, xss, rfl, hsm⟩
  have hx : ∀ xs ∈ xss, ∀ x ∈ xs, (Lit.int .i64 x).wf = true := fun xs hxs x hx => wfOfD (by have := (hsm.2 xs hxs).2 x hx; omega)
  have him := FS.pfnL (implLambdasOf_fs v xss t hx)
  repeat (first | (with_reducible first | refine SW.seq ?_ | refine SW.block ?_ | refine SW.rowC ?_ | refine SW.skip ?_ | refine SW.exit ?_ | refine PFn.use (him) ?_ | refine PFn.useq (him) ?_ | intro _ | refine And.intro (by omega) ?_) | simp (config := { maxSteps := 1000000 }) (disch := (first | omega | (simp only [go_sem]; try omega))) only [go_sem, Nat.reduceAdd, Nat.reduceEqDiff, Nat.reduceLeDiff, Nat.reduceMul, Nat.reduceLT, reduceIte, Int.reduceToNat, w64_id, cast_succ])
  by_cases hc : (lamV v xss t).2 = 0
  · obtain ⟨hd, ht0, ht3, hne, hl⟩ := lamV_good hc
    obtain ⟨hv1, hv2, hx128, hasc⟩ := designB_facts hd
    obtain ⟨n, rfl⟩ := Int.eq_ofNat_of_zero_le (show 0 ≤ v by omega)
    obtain ⟨m, rfl⟩ := Int.eq_ofNat_of_zero_le ht0
    have hrg := fun s => tIdx_rng n xss s hx128
    have hsome := lam_some (v := n) hne
    have hz0 := tIdx_zero n xss
    have hzl : ((List.range ((m : Int).toNat + 1)).map fun s => tIdx (n : Int).toNat xss s).length = m + 1 := by simp
    have hzg : ∀ i, i ≤ m → ((List.range ((m : Int).toNat + 1)).map fun s => tIdx (n : Int).toNat xss s)[i]? = some (tIdx n xss i) := fun i hi => by
      rw [List.getElem?_map, List.getElem?_range (by simp; omega)]; rfl
    rw [hc, hl]
    generalize ((List.range ((m : Int).toNat + 1)).map fun s => tIdx (n : Int).toNat xss s) = zs at *
    have hzd : ∀ i, i ≤ m → zs.getD i 0 = tIdx n xss i := fun i hi => by rw [List.getD_eq_getElem?_getD, hzg i hi]; rfl
    have z0 := hzd 0 (by omega)
    have e1 : decide ((zs.length : Int) = ((m + 1 : Nat) : Int)) = true := decide_eq_true (by omega)
    have e2 : decide ((xss.length : Int) = 0) = false := decide_eq_false (by
      intro e
      exact hsome (List.length_eq_zero_iff.1 (by omega)))
    have e3 : decide (zs.getD 0 0 = (xss.length : Int)) = true := decide_eq_true (by rw [z0, hz0])
    refine SW.condF rfl ?_
    repeat (first | (with_reducible first | refine SW.seq ?_ | refine SW.block ?_ | refine SW.rowC ?_ | refine SW.skip ?_ | refine SW.exit ?_ | intro _ | refine And.intro (by omega) ?_) | simp (config := { maxSteps := 1000000 }) (disch := (first | omega | (simp only [go_sem]; try omega))) only [go_sem, Nat.reduceAdd, Nat.reduceEqDiff, Nat.reduceLeDiff, Nat.reduceMul, Nat.reduceLT, reduceIte, Int.reduceToNat, w64_id, cast_succ, e1, e2, e3])
    refine SW.condF rfl ?_
    repeat (first | (with_reducible first | refine SW.seq ?_ | refine SW.block ?_ | refine SW.rowC ?_ | refine SW.skip ?_ | refine SW.exit ?_ | intro _ | refine And.intro (by omega) ?_) | simp (config := { maxSteps := 1000000 }) (disch := (first | omega | (simp only [go_sem]; try omega))) only [go_sem, Nat.reduceAdd, Nat.reduceEqDiff, Nat.reduceLeDiff, Nat.reduceMul, Nat.reduceLT, reduceIte, Int.reduceToNat, w64_id, cast_succ])
    have hxl : 0 < xss.length := List.length_pos_iff.2 hsome
    have hb0 : (xss.map ilS)[0]? = some (ilS (xss.getD 0 [])) := by rw [List.getElem?_map, List.getElem?_eq_getElem hxl, getD_get hxl]; rfl
    have hrl : ∀ i, i < xss.length → (xss.getD i []).length ≤ 200 := fun i hi => (hsm.2 _ (by rw [getD_get hi]; exact List.getElem_mem _)).1
    have hr0 := hrl 0 hxl
    repeat (first | (with_reducible first | refine SW.seq ?_ | refine SW.block ?_ | refine SW.rowC ?_ | refine SW.skip ?_ | refine SW.exit ?_ | intro _ | refine And.intro (by omega) ?_) | simp (config := { maxSteps := 1000000 }) (disch := (first | omega | (simp only [go_sem]; try omega))) only [go_sem, Nat.reduceAdd, Nat.reduceEqDiff, Nat.reduceLeDiff, Nat.reduceMul, Nat.reduceLT, reduceIte, Int.reduceToNat, w64_id, cast_succ, hb0])
    obtain ⟨k, hk⟩ : ∃ k, k = (xss.getD 0 []).length := ⟨_, rfl⟩
    rw [← hk]
    refine SW.loopE (fun E0 H0 q E' H' => ∃ i : Nat, 1 ≤ i ∧ i ≤ xss.length ∧ q = xss.length - i ∧ E' = aput E0 8 (I i) ∧ H' = H0 ∧ ∀ j, j < i → (xss.getD j []).length = k) (xss.length - 1) ⟨1, by omega, by omega, rfl, rfl, rfl, fun j hj => by rw [show j = 0 by omega, hk]⟩ ?_
    rintro q E' H' ⟨i, hi1, hi, rfl, rfl, rfl, hall⟩
    simp (config := { maxSteps := 1000000 }) (disch := (first | omega | (simp only [go_sem]; try omega))) only [go_sem, Nat.reduceAdd, Nat.reduceEqDiff, Nat.reduceLeDiff, Nat.reduceMul, Nat.reduceLT, reduceIte, Int.reduceToNat, w64_id, cast_succ]
    repeat (first | (with_reducible first | refine SW.seq ?_ | refine SW.block ?_ | refine SW.rowC ?_ | refine SW.skip ?_ | refine SW.exit ?_ | intro _ | refine And.intro (by omega) ?_) | simp (config := { maxSteps := 1000000 }) (disch := (first | omega | (simp only [go_sem]; try omega))) only [go_sem, Nat.reduceAdd, Nat.reduceEqDiff, Nat.reduceLeDiff, Nat.reduceMul, Nat.reduceLT, reduceIte, Int.reduceToNat, w64_id, cast_succ])
    (first | refine SW.condD rfl (fun h5 => ?_) (fun h5 => ?_) | refine SW.condN rfl (fun h5 => ?_) (fun h5 => ?_) | refine SW.condNB rfl (fun h5 => ?_) (fun h5 => ?_) | refine SW.condB rfl (fun h5 => ?_) (fun h5 => ?_))
    · have hil : i < xss.length := by omega
      have hbi : (xss.map ilS)[i]? = some (ilS (xss.getD i [])) := by rw [List.getElem?_map, List.getElem?_eq_getElem hil, getD_get hil]; rfl
      have hri := hrl i hil
      repeat (first | (with_reducible first | refine SW.seq ?_ | refine SW.block ?_ | refine SW.rowC ?_ | refine SW.skip ?_ | refine SW.exit ?_ | intro _ | refine And.intro (by omega) ?_) | simp (config := { maxSteps := 1000000 }) (disch := (first | omega | (simp only [go_sem]; try omega))) only [go_sem, Nat.reduceAdd, Nat.reduceEqDiff, Nat.reduceLeDiff, Nat.reduceMul, Nat.reduceLT, reduceIte, Int.reduceToNat, w64_id, cast_succ, hbi])
      (first | refine SW.condD rfl (fun h6 => ?_) (fun h6 => ?_) | refine SW.condN rfl (fun h6 => ?_) (fun h6 => ?_) | refine SW.condNB rfl (fun h6 => ?_) (fun h6 => ?_) | refine SW.condB rfl (fun h6 => ?_) (fun h6 => ?_))
      · repeat (first | (with_reducible first | refine SW.seq ?_ | refine SW.block ?_ | refine SW.rowC ?_ | refine SW.skip ?_ | refine SW.exit ?_ | intro _ | refine And.intro (by omega) ?_) | simp (config := { maxSteps := 1000000 }) (disch := (first | omega | (simp only [go_sem]; try omega))) only [go_sem, Nat.reduceAdd, Nat.reduceEqDiff, Nat.reduceLeDiff, Nat.reduceMul, Nat.reduceLT, reduceIte, Int.reduceToNat, w64_id, cast_succ])
        refine SW.ret ?_; (try simp only [go_sem]); (first | refine FunPost.one ?_ | refine FunPost.two ?_ | refine FunPost.three ?_); (try simp (config := { maxSteps := 1000000 }) (disch := (first | omega | (simp only [go_sem]; try omega))) only [go_sem, Nat.reduceAdd, Nat.reduceEqDiff, Nat.reduceLeDiff, Nat.reduceMul, Nat.reduceLT, reduceIte, Int.reduceToNat, w64_id, cast_succ])
        exact GR.of rfl
      · repeat (first | (with_reducible first | refine SW.seq ?_ | refine SW.block ?_ | refine SW.rowC ?_ | refine SW.skip ?_ | refine SW.exit ?_ | intro _ | refine And.intro (by omega) ?_) | simp (config := { maxSteps := 1000000 }) (disch := (first | omega | (simp only [go_sem]; try omega))) only [go_sem, Nat.reduceAdd, Nat.reduceEqDiff, Nat.reduceLeDiff, Nat.reduceMul, Nat.reduceLT, reduceIte, Int.reduceToNat, w64_id, cast_succ])
        exact SLoop.next (xss.length - (i + 1)) (by omega) ⟨i + 1, by omega, by omega, rfl, by simp [go_sem], rfl, fun j hj => by
          by_cases hji : j = i
          · rw [hji]; omega
          · exact hall j (by omega)⟩
    · repeat (first | (with_reducible first | refine SW.seq ?_ | refine SW.block ?_ | refine SW.rowC ?_ | refine SW.skip ?_ | refine SW.exit ?_ | intro _ | refine And.intro (by omega) ?_) | simp (config := { maxSteps := 1000000 }) (disch := (first | omega | (simp only [go_sem]; try omega))) only [go_sem, Nat.reduceAdd, Nat.reduceEqDiff, Nat.reduceLeDiff, Nat.reduceMul, Nat.reduceLT, reduceIte, Int.reduceToNat, w64_id, cast_succ])
      have hall := fun i' (hi' : i' < xss.length) => hall i' (by omega)
      have hth := lam_theory (v := n) (t := m) (k := k) (xss := xss) (fun b hb => by
        obtain ⟨i, hi, rfl⟩ := List.getElem_of_mem hb
        refine ⟨hasc _ hb, ?_⟩
        have := hall i hi
        rwa [getD_get hi] at this) hne
      repeat (first | (with_reducible first | refine SW.seq ?_ | refine SW.block ?_ | refine SW.rowC ?_ | refine SW.skip ?_ | refine SW.exit ?_ | intro _ | refine And.intro (by omega) ?_) | simp (config := { maxSteps := 1000000 }) (disch := (first | omega | (simp only [go_sem]; try omega))) only [go_sem, Nat.reduceAdd, Nat.reduceEqDiff, Nat.reduceLeDiff, Nat.reduceMul, Nat.reduceLT, reduceIte, Int.reduceToNat, w64_id, cast_succ])
      refine SW.loopE (fun E0 H0 q E' H' => ∃ i : Nat, i ≤ m ∧ q = m - i ∧ E' = aput E0 9 (I i) ∧ H' = H0) m ⟨0, by omega, by omega, rfl, rfl⟩ ?_
      rintro q E' H' ⟨i, hi, rfl, rfl, rfl⟩
      simp (config := { maxSteps := 1000000 }) (disch := (first | omega | (simp only [go_sem]; try omega))) only [go_sem, Nat.reduceAdd, Nat.reduceEqDiff, Nat.reduceLeDiff, Nat.reduceMul, Nat.reduceLT, reduceIte, Int.reduceToNat, w64_id, cast_succ]
      repeat (first | (with_reducible first | refine SW.seq ?_ | refine SW.block ?_ | refine SW.rowC ?_ | refine SW.skip ?_ | refine SW.exit ?_ | intro _ | refine And.intro (by omega) ?_) | simp (config := { maxSteps := 1000000 }) (disch := (first | omega | (simp only [go_sem]; try omega))) only [go_sem, Nat.reduceAdd, Nat.reduceEqDiff, Nat.reduceLeDiff, Nat.reduceMul, Nat.reduceLT, reduceIte, Int.reduceToNat, w64_id, cast_succ])
      (first | refine SW.condD rfl (fun h5 => ?_) (fun h5 => ?_) | refine SW.condN rfl (fun h5 => ?_) (fun h5 => ?_) | refine SW.condNB rfl (fun h5 => ?_) (fun h5 => ?_) | refine SW.condB rfl (fun h5 => ?_) (fun h5 => ?_))
      · have him : i < m := by omega
        have ha := hrg i
        have hb := hrg (i + 1)
        have za := hzd i (by omega)
        have zb := hzd (i + 1) (by omega)
        have hti := hth i him
        have w1 : w64 ((k : Int) - i) = (k : Int) - i := w64_id (by omega) (by omega)
        have w2 : w64 ((n : Int) - i) = (n : Int) - i := w64_id (by omega) (by omega)
        have q1 := mulB (a := tIdx n xss i) (c := (k : Int) - i) ha.1 ha.2 (by omega) (by omega)
        have q2 := mulB (a := tIdx n xss (i + 1)) (c := (n : Int) - i) hb.1 hb.2 (by omega) (by omega)
        have w3 : w64 (tIdx n xss i * ((k : Int) - i)) = tIdx n xss i * ((k : Int) - i) := w64_id (by omega) (by omega)
        have w4 : w64 (tIdx n xss (i + 1) * ((n : Int) - i)) = tIdx n xss i * ((k : Int) - i) := by rw [hti]; exact w64_id (by omega) (by omega)
        have e4 : decide (tIdx n xss i * ((k : Int) - i) = tIdx n xss (i + 1) * ((n : Int) - i)) = true := decide_eq_true hti
        repeat (first | (with_reducible first | refine SW.seq ?_ | refine SW.block ?_ | refine SW.rowC ?_ | refine SW.skip ?_ | refine SW.exit ?_ | intro _ | refine And.intro (by omega) ?_) | simp (config := { maxSteps := 1000000 }) (disch := (first | omega | (simp only [go_sem]; try omega))) only [go_sem, Nat.reduceAdd, Nat.reduceEqDiff, Nat.reduceLeDiff, Nat.reduceMul, Nat.reduceLT, reduceIte, Int.reduceToNat, w64_id, cast_succ, za, zb, w1, w2, w3, w4, e4])
        refine SW.condF rfl ?_
        repeat (first | (with_reducible first | refine SW.seq ?_ | refine SW.block ?_ | refine SW.rowC ?_ | refine SW.skip ?_ | refine SW.exit ?_ | intro _ | refine And.intro (by omega) ?_) | simp (config := { maxSteps := 1000000 }) (disch := (first | omega | (simp only [go_sem]; try omega))) only [go_sem, Nat.reduceAdd, Nat.reduceEqDiff, Nat.reduceLeDiff, Nat.reduceMul, Nat.reduceLT, reduceIte, Int.reduceToNat, w64_id, cast_succ])
        exact SLoop.next (m - (i + 1)) (by omega) ⟨i + 1, by omega, rfl, by simp [go_sem], rfl⟩
      · repeat (first | (with_reducible first | refine SW.seq ?_ | refine SW.block ?_ | refine SW.rowC ?_ | refine SW.skip ?_ | refine SW.exit ?_ | intro _ | refine And.intro (by omega) ?_) | simp (config := { maxSteps := 1000000 }) (disch := (first | omega | (simp only [go_sem]; try omega))) only [go_sem, Nat.reduceAdd, Nat.reduceEqDiff, Nat.reduceLeDiff, Nat.reduceMul, Nat.reduceLT, reduceIte, Int.reduceToNat, w64_id, cast_succ])
        refine SW.ret ?_; (try simp only [go_sem]); (first | refine FunPost.one ?_ | refine FunPost.two ?_ | refine FunPost.three ?_); (try simp (config := { maxSteps := 1000000 }) (disch := (first | omega | (simp only [go_sem]; try omega))) only [go_sem, Nat.reduceAdd, Nat.reduceEqDiff, Nat.reduceLeDiff, Nat.reduceMul, Nat.reduceLT, reduceIte, Int.reduceToNat, w64_id, cast_succ])
        exact GR.of rfl
  · rw [lamV_bad hc]
    have e0 : decide ((lamV v xss t).2 = 0) = false := decide_eq_false hc
    rw [e0]
    refine SW.condT rfl ?_
    repeat (first | (with_reducible first | refine SW.seq ?_ | refine SW.block ?_ | refine SW.rowC ?_ | refine SW.skip ?_ | refine SW.exit ?_ | intro _ | refine And.intro (by omega) ?_) | simp (config := { maxSteps := 1000000 }) (disch := (first | omega | (simp only [go_sem]; try omega))) only [go_sem, Nat.reduceAdd, Nat.reduceEqDiff, Nat.reduceLeDiff, Nat.reduceMul, Nat.reduceLT, reduceIte, Int.reduceToNat, w64_id, cast_succ])
    refine SW.ret ?_; (try simp only [go_sem]); (first | refine FunPost.one ?_ | refine FunPost.two ?_ | refine FunPost.three ?_); (try simp (config := { maxSteps := 1000000 }) (disch := (first | omega | (simp only [go_sem]; try omega))) only [go_sem, Nat.reduceAdd, Nat.reduceEqDiff, Nat.reduceLeDiff, Nat.reduceMul, Nat.reduceLT, reduceIte, Int.reduceToNat, w64_id, cast_succ])
    exact GR.of rfl
end Go.Proofs.Ytnlfokkljgbaaaa
