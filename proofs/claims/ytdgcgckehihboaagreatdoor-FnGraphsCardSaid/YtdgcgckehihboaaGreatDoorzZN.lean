/- The other edges: the program. -/
import Derived.Test.YtdgcgckehihboaaGreatDoorProg
import Derived.KernelRfl
import Derived.Test.YtdgcgckehihboaaGreatDoorzBE
import Derived.Test.YtdgcgckehihboaaGreatDoorzZM
import Derived.Test.YtdgcgckehihboaaGreatDoorzIX
import Derived.Test.YtdgcgckehihboaaGreatDoorzZE
import Derived.Test.YtdgcgckehihboaaGreatDoorzK8
set_option linter.unusedSimpArgs false
set_option linter.unusedVariables false
set_option linter.unusedSectionVars false
set_option maxHeartbeats 4000000
set_option maxRecDepth 100000
namespace Go.Proofs.YtdgcgckehihboaaGreatDoor
variable [Go.Av.DoorC]
open Go.Av
abbrev f_impl_ComplementGraph : Nat := 13
def c_impl_ComplementGraph : SC :=
 .seq (.reg [
     ⟨(some 1), .box 27 (.tmp 0), none⟩,
     ⟨(some 2), .alloc 27 [(.slice none 0 0), (.slice none 0 0)], none⟩,
     ⟨(some 3), .mv (.const (.int .i64 0)), none⟩] [1, 2])
 (.seq (.seq (.reg [
     ⟨(some 10), .load 2 true (.tmp 1), none⟩,
     ⟨(some 11), .call 12 [(.tmp 10)], none⟩,
     ⟨(some 12), .un .not (.tmp 11), none⟩] [1, 2, 12])
 (.cond (.tmp 12)
  (.seq (.reg [
      ⟨(some 13), .build [(.slice none 0 0), (.slice none 0 0)] [], none⟩,
      ⟨none, .store 2 (.tmp 2) (.tmp 13), none⟩,
      ⟨(some 3), .mv (.const (.int .i64 1)), none⟩] [2, 3])
  (.ret))
  (.skip)))
 (.seq (.reg [
     ⟨(some 14), .faddr 0 (.tmp 1), none⟩,
     ⟨(some 15), .load 1 false (.tmp 14), none⟩,
     ⟨(some 16), .call 32 [(.tmp 15)], none⟩,
     ⟨(some 17), .build [(.slice none 0 0), (.slice none 0 0)] [(0, 1, (.tmp 16))], none⟩,
     ⟨(some 4), .alloc 27 [(.slice none 0 0), (.slice none 0 0)], none⟩,
     ⟨none, .store 2 (.tmp 4) (.tmp 17), none⟩] [1, 2, 4])
 (.seq (.seq (.reg [
     ⟨(some 18), .faddr 0 (.tmp 1), none⟩,
     ⟨(some 19), .load 1 false (.tmp 18), none⟩,
     ⟨(some 20), .call 28 [(.tmp 19)], none⟩,
     ⟨(some 21), .mv (.const (.int .i64 0)), none⟩] [1, 2, 4, 20, 21])
 (.block 0 (.loop [1, 2, 4, 20, 21]
   (.seq (.reg [
       ⟨(some 22), .bin .lss (.tmp 21) (.tmp 20), none⟩] [1, 2, 4, 20, 21, 22])
   (.seq (.cond (.tmp 22)
    (.skip)
    (.exit 0))
   (.seq (.block 1 (.seq (.reg [
        ⟨(some 23), .mv (.tmp 21), none⟩,
        ⟨(some 5), .mv (.tmp 23), none⟩] [1, 2, 4, 5, 20, 21])
    (.seq (.reg [
        ⟨(some 24), .mv (.tmp 5), none⟩,
        ⟨(some 25), .bin .add (.tmp 24) (.const (.int .i64 1)), none⟩,
        ⟨(some 6), .mv (.tmp 25), none⟩] [1, 2, 4, 5, 6, 20, 21])
    (.block 2 (.loop [1, 2, 4, 5, 6, 20, 21]
      (.seq (.seq (.reg [
          ⟨(some 26), .mv (.tmp 6), none⟩,
          ⟨(some 27), .faddr 0 (.tmp 1), none⟩,
          ⟨(some 28), .load 1 false (.tmp 27), none⟩,
          ⟨(some 29), .call 28 [(.tmp 28)], none⟩,
          ⟨(some 30), .bin .lss (.tmp 26) (.tmp 29), none⟩] [1, 2, 4, 5, 6, 20, 21, 30])
      (.cond (.tmp 30)
       (.skip)
       (.exit 2)))
      (.seq (.block 3 (.seq (.reg [
           ⟨(some 33), .mv (.tmp 5), none⟩,
           ⟨(some 34), .mv (.tmp 6), none⟩,
           ⟨(some 35), .build [(.int .i64 0), (.int .i64 0)] [(0, 1, (.tmp 33)), (1, 1, (.tmp 34))], none⟩,
           ⟨(some 7), .alloc 49 [(.int .i64 0), (.int .i64 0)], none⟩,
           ⟨none, .store 2 (.tmp 7) (.tmp 35), none⟩] [1, 2, 4, 5, 6, 7, 20, 21])
       (.seq (.reg [
           ⟨(some 37), .faddr 1 (.tmp 1), none⟩,
           ⟨(some 38), .load 1 false (.tmp 37), none⟩,
           ⟨(some 39), .load 2 true (.tmp 7), none⟩,
           ⟨(some 40), .call 33 [(.tmp 38), (.tmp 39), (.func 30)], none⟩,
           ⟨(some 36), .mv (.tmp 40), none⟩,
           ⟨(some 41), .ext (.tmp 36) 0, none⟩,
           ⟨(some 42), .ext (.tmp 36) 1, none⟩,
           ⟨(some 8), .mv (.tmp 41), none⟩,
           ⟨(some 9), .mv (.tmp 42), none⟩] [1, 2, 4, 5, 6, 7, 9, 20, 21])
       (.seq (.reg [
           ⟨(some 43), .mv (.tmp 9), none⟩,
           ⟨(some 44), .un .not (.tmp 43), none⟩] [1, 2, 4, 5, 6, 7, 20, 21, 44])
       (.cond (.tmp 44)
        (.reg [
            ⟨(some 45), .faddr 1 (.tmp 4), none⟩,
            ⟨(some 46), .load 1 false (.tmp 45), none⟩,
            ⟨(some 47), .load 2 true (.tmp 7), none⟩,
            ⟨(some 48), .bslice 49 2 1 [(.int .i64 0), (.int .i64 0)] [(0, (.tmp 47))], none⟩,
            ⟨(some 49), .app 49 2 16 (.tmp 46) (.tmp 48), none⟩,
            ⟨(some 50), .faddr 1 (.tmp 4), none⟩,
            ⟨none, .store 1 (.tmp 50) (.tmp 49), none⟩] [1, 2, 4, 5, 6, 20, 21])
        (.skip))))))
      (.reg [
          ⟨(some 31), .mv (.tmp 6), none⟩,
          ⟨(some 32), .bin .add (.tmp 31) (.const (.int .i64 1)), none⟩,
          ⟨(some 6), .mv (.tmp 32), none⟩] [1, 2, 4, 5, 6, 20, 21]))))))))
   (.reg [
       ⟨(some 51), .bin .add (.tmp 21) (.const (.int .i64 1)), none⟩,
       ⟨(some 21), .mv (.tmp 51), none⟩] [1, 2, 4, 20, 21])))))))
 (.seq (.seq (.reg [
     ⟨(some 52), .faddr 1 (.tmp 4), none⟩,
     ⟨(some 53), .load 1 false (.tmp 52), none⟩,
     ⟨(some 54), .len (.tmp 53), none⟩,
     ⟨(some 55), .bin .gtr (.tmp 54) (.const (.int .i64 512)), none⟩] [2, 4, 55])
 (.cond (.tmp 55)
  (.seq (.reg [
      ⟨(some 56), .build [(.slice none 0 0), (.slice none 0 0)] [], none⟩,
      ⟨none, .store 2 (.tmp 2) (.tmp 56), none⟩,
      ⟨(some 3), .mv (.const (.int .i64 5)), none⟩] [2, 3])
  (.ret))
  (.skip)))
 (.seq (.reg [
     ⟨(some 57), .load 2 true (.tmp 4), none⟩,
     ⟨none, .store 2 (.tmp 2) (.tmp 57), none⟩,
     ⟨(some 3), .mv (.const (.int .i64 0)), none⟩] [2, 3])
 (.ret))))))
theorem s_impl_ComplementGraph : stripF Tryz.prog 13 [[1, 2], [1, 2, 12], [2, 3], [1, 2, 4], [1, 2, 4, 20, 21], [1, 2, 4, 20, 21], [1, 2, 4, 20, 21, 22], [1, 2, 4, 5, 20, 21], [1, 2, 4, 5, 6, 20, 21], [1, 2, 4, 5, 6, 20, 21], [1, 2, 4, 5, 6, 20, 21, 30], [1, 2, 4, 5, 6, 7, 20, 21], [1, 2, 4, 5, 6, 7, 9, 20, 21], [1, 2, 4, 5, 6, 7, 20, 21, 44], [1, 2, 4, 5, 6, 20, 21], [1, 2, 4, 5, 6, 20, 21], [1, 2, 4, 20, 21], [2, 4, 55], [2, 3], [2, 3]] = some (c_impl_ComplementGraph, [.cell 2 2, .tmp 3], 58) := by kernel_rfl
def cpV (cols : List Int) (es : List (Int × Int)) : (List Int × List (Int × Int)) × Int :=
  if grB cols es = true then (if (cplE cols.length es).length > 512 then (([], []), 5) else ((cols, cplE cols.length es), 0)) else (([], []), 1)
def cplS (n : Nat) (es : List (Int × Int)) (a : Nat) : List (Int × Int) := (prs n a).filter fun e => !es.contains e
def cplR (es : List (Int × Int)) (a m : Nat) : List (Int × Int) := (prR a m).filter fun e => !es.contains e
theorem cplS_succ (n : Nat) (es : List (Int × Int)) (a : Nat) : cplS n es (a + 1) = cplS n es a ++ cplR es a n := by
  unfold cplS cplR
  rw [prs_succ, List.filter_append]
theorem cplR_succ (es : List (Int × Int)) {a m : Nat} (h : a < m) : cplR es a (m + 1) = cplR es a m ++ (if decide (((a : Int), (m : Int)) ∈ es) = true then [] else [((a : Int), (m : Int))]) := by
  unfold cplR
  rw [prR_succ, if_pos h, List.filter_append]
  congr 1
  by_cases hm : ((a : Int), (m : Int)) ∈ es
  · rw [if_pos (decide_eq_true hm), List.filter_cons_of_neg (by simpa using hm)]; rfl
  · rw [if_neg (by simpa using hm), List.filter_cons_of_pos (by simpa using hm)]; rfl
theorem cplR_start (es : List (Int × Int)) (a : Nat) : cplR es a (a + 1) = [] := by
  have h := prR_len a (a + 1)
  unfold cplR
  rw [List.length_eq_zero_iff.1 (by omega : (prR a (a + 1)).length = 0)]; rfl
theorem cplS_len {n : Nat} (es : List (Int × Int)) {a : Nat} (ha : a ≤ n) (hn : n ≤ 64) : (cplS n es a).length ≤ 5000 := by
  have h1 := prs_len n a ha
  have h2 := List.length_filter_le (fun e => !es.contains e) (prs n a)
  have h3 : a * n ≤ 64 * 64 := Nat.mul_le_mul (by omega) hn
  unfold cplS; omega
theorem cplR_len (es : List (Int × Int)) {a m : Nat} (hm : m ≤ 64) : (cplR es a m).length ≤ 64 := by
  have h1 := prR_len a m
  have h2 := List.length_filter_le (fun e => !es.contains e) (prR a m)
  unfold cplR; omega
structure CpH (H X : List Blk) (cols : List Int) (es : List (Int × Int)) (ver : Nat) (ev : AV) (L : List (Int × Int)) : Prop where
  m0 : X[H.length]? = some ⟨0, tyGr, 1, [ilS cols, ilE es]⟩
  m1 : X[H.length + 1]? = some ⟨0, tyGr, 1, [nilS, nilS]⟩
  m2 : X[H.length + 2]? = some ⟨ver, 2, 1, cols.map I⟩
  m3 : X[H.length + 3]? = some ⟨0, tyGr, 1, [.nm (H.length + 2) ver 0 cols.length, ev]⟩
  gw : GrowF X (H.length + 4) tyE 2 ev L.length (flatE L)
  ln : H.length + 4 ≤ X.length
  fr : ∀ j, j < H.length → X[j]? = H[j]?
theorem CpH.app {H X : List Blk} {cols : List Int} {es : List (Int × Int)} {ver : Nat} {ev : AV} {L : List (Int × Int)} (h : CpH H X cols es ver ev L) (ext : List Blk) : CpH H (X ++ ext) cols es ver ev L :=
  ⟨get_appU h.m0 _, get_appU h.m1 _, get_appU h.m2 _, get_appU h.m3 _, h.gw.same (fun j b _ hb => get_appU hb _), by rw [List.length_append]; have := h.ln; omega, fun j hj => by
    have := h.ln
    rw [List.getElem?_append_left (by omega)]; exact h.fr j hj⟩
theorem complement_fn (cols : List Int) (es : List (Int × Int)) : PFn Tryz.prog f_impl_ComplementGraph [.agg [ilS cols, ilE es]] (.tup [.agg [ilS (cpV cols es).1.1, ilE (cpV cols es).1.2], I (cpV cols es).2]) := by
  have hv := ValidGraphI_fn cols es
  unfold cpV
  have hbe := fun b => Bel_ilE b es
  intro H
  cases hg : grB cols es
  · rw [hg] at hv
    rw [if_neg (by simp)]
    refine ACalls.introB s_impl_ComplementGraph (by simp) ?_; intro hB hA; unfold c_impl_ComplementGraph; simp (config := { maxSteps := 1000000 }) (disch := (first | omega | (simp only [go_sem]; try omega))) only [go_sem, Nat.reduceAdd, Nat.reduceEqDiff, Nat.reduceLeDiff, Nat.reduceMul, Nat.reduceLT, reduceIte, Int.reduceToNat, w64_id, cast_succ]
    repeat (first | (with_reducible first | refine SW.seq ?_ | refine SW.block ?_ | refine SW.rowC ?_ | refine SW.skip ?_ | refine SW.exit ?_ | refine PFn.use (hv) ?_ | refine PFn.useq (hv) ?_ | intro _ | refine And.intro (by omega) ?_) | simp (config := { maxSteps := 1000000 }) (disch := (first | omega | (simp only [go_sem]; try omega))) only [go_sem, Nat.reduceAdd, Nat.reduceEqDiff, Nat.reduceLeDiff, Nat.reduceMul, Nat.reduceLT, reduceIte, Int.reduceToNat, w64_id, cast_succ])
    refine SW.condT rfl ?_
    repeat (first | (with_reducible first | refine SW.seq ?_ | refine SW.block ?_ | refine SW.rowC ?_ | refine SW.skip ?_ | refine SW.exit ?_ | intro _ | refine And.intro (by omega) ?_) | simp (config := { maxSteps := 1000000 }) (disch := (first | omega | (simp only [go_sem]; try omega))) only [go_sem, Nat.reduceAdd, Nat.reduceEqDiff, Nat.reduceLeDiff, Nat.reduceMul, Nat.reduceLT, reduceIte, Int.reduceToNat, w64_id, cast_succ])
    refine SW.ret ?_
    refine FunPost.cell_tmp (cs := [nilS, nilS]) (by simp (config := { maxSteps := 1000000 }) (disch := (first | omega | (simp only [go_sem]; try omega))) only [go_sem, Nat.reduceAdd, Nat.reduceEqDiff, Nat.reduceLeDiff, Nat.reduceMul, Nat.reduceLT, reduceIte, Int.reduceToNat, w64_id, cast_succ]) ?_
    exact GR.froz (r' := .tup [.agg [ilS [], ilE []], I 1]) (froz_tup2 (froz_agg2 .nil .nil) (froz_I' _)) ⟨rfl, rfl⟩
  · rw [hg] at hv
    rw [if_pos rfl]
    refine ACalls.introB s_impl_ComplementGraph (by simp) ?_; intro hB hA; unfold c_impl_ComplementGraph; simp (config := { maxSteps := 1000000 }) (disch := (first | omega | (simp only [go_sem]; try omega))) only [go_sem, Nat.reduceAdd, Nat.reduceEqDiff, Nat.reduceLeDiff, Nat.reduceMul, Nat.reduceLT, reduceIte, Int.reduceToNat, w64_id, cast_succ]
    repeat (first | (with_reducible first | refine SW.seq ?_ | refine SW.block ?_ | refine SW.rowC ?_ | refine SW.skip ?_ | refine SW.exit ?_ | refine PFn.use (hv) ?_ | refine PFn.useq (hv) ?_ | intro _ | refine And.intro (by omega) ?_) | simp (config := { maxSteps := 1000000 }) (disch := (first | omega | (simp only [go_sem]; try omega))) only [go_sem, Nat.reduceAdd, Nat.reduceEqDiff, Nat.reduceLeDiff, Nat.reduceMul, Nat.reduceLT, reduceIte, Int.reduceToNat, w64_id, cast_succ])
    obtain ⟨g1, g2, g3, g4⟩ := grB_facts hg
    refine SW.condF rfl ?_
    repeat (first | (with_reducible first | refine SW.seq ?_ | refine SW.block ?_ | refine SW.rowC ?_ | refine SW.skip ?_ | refine SW.exit ?_ | intro _ | refine And.intro (by omega) ?_) | simp (config := { maxSteps := 1000000 }) (disch := (first | omega | (simp only [go_sem]; try omega))) only [go_sem, Nat.reduceAdd, Nat.reduceEqDiff, Nat.reduceLeDiff, Nat.reduceMul, Nat.reduceLT, reduceIte, Int.reduceToNat, w64_id, cast_succ])
    refine (clone_ok _ (ilS cols) cols (rd_ilS _ _) (by omega)).mono ?_
    rintro r H1 ⟨ver, rfl, rfl⟩
    have hsz := size_fn cols
    have hasc : Asc cmpE es := by
      unfold grB edsB at hg
      simp only [Bool.and_eq_true, decide_eq_true_eq] at hg
      exact hg.1.2
    repeat (first | (with_reducible first | refine SW.seq ?_ | refine SW.block ?_ | refine SW.rowC ?_ | refine SW.skip ?_ | refine SW.exit ?_ | refine PFn.use (hsz) ?_ | refine PFn.useq (hsz) ?_ | intro _ | refine And.intro (by omega) ?_) | simp (config := { maxSteps := 1000000 }) (disch := (first | omega | (simp only [go_sem]; try omega))) only [go_sem, Nat.reduceAdd, Nat.reduceEqDiff, Nat.reduceLeDiff, Nat.reduceMul, Nat.reduceLT, reduceIte, Int.reduceToNat, w64_id, cast_succ])
    generalize hn : cols.length = n at *
    refine SW.loopE (fun E0 H0 m E' X => ∃ (a : Nat) (ev : AV), a ≤ n ∧ m = n - a ∧ E' = aput E0 21 (I a) ∧ CpH H X cols es ver ev (cplS n es a)) n ⟨0, nilS, by omega, by omega, rfl, by simp, by simp, by simp, by simp [hn], .inl ⟨rfl, by simp [cplS, prs], by simp [cplS, prs, flatE]⟩, by simp, fun j hj => by rw [List.getElem?_append_left hj]⟩ ?_
    rintro m E' X ⟨a, ev, ha, rfl, rfl, hX⟩
    simp (config := { maxSteps := 1000000 }) (disch := (first | omega | (simp only [go_sem]; try omega))) only [go_sem, Nat.reduceAdd, Nat.reduceEqDiff, Nat.reduceLeDiff, Nat.reduceMul, Nat.reduceLT, reduceIte, Int.reduceToNat, w64_id, cast_succ]
    repeat (first | (with_reducible first | refine SW.seq ?_ | refine SW.block ?_ | refine SW.rowC ?_ | refine SW.skip ?_ | refine SW.exit ?_ | intro _ | refine And.intro (by omega) ?_) | simp (config := { maxSteps := 1000000 }) (disch := (first | omega | (simp only [go_sem]; try omega))) only [go_sem, Nat.reduceAdd, Nat.reduceEqDiff, Nat.reduceLeDiff, Nat.reduceMul, Nat.reduceLT, reduceIte, Int.reduceToNat, w64_id, cast_succ])
    (first | refine SW.condD rfl (fun h2 => ?_) (fun h2 => ?_) | refine SW.condN rfl (fun h2 => ?_) (fun h2 => ?_) | refine SW.condNB rfl (fun h2 => ?_) (fun h2 => ?_) | refine SW.condB rfl (fun h2 => ?_) (fun h2 => ?_))
    · have han : a < n := by omega
      repeat (first | (with_reducible first | refine SW.seq ?_ | refine SW.block ?_ | refine SW.rowC ?_ | refine SW.skip ?_ | refine SW.exit ?_ | intro _ | refine And.intro (by omega) ?_) | simp (config := { maxSteps := 1000000 }) (disch := (first | omega | (simp only [go_sem]; try omega))) only [go_sem, Nat.reduceAdd, Nat.reduceEqDiff, Nat.reduceLeDiff, Nat.reduceMul, Nat.reduceLT, reduceIte, Int.reduceToNat, w64_id, cast_succ])
      refine SW.loopE (fun E0 H0 m E' Y => ∃ (b : Nat) (ev : AV), a + 1 ≤ b ∧ b ≤ n ∧ m = n - b ∧ E' = aput E0 6 (I b) ∧ CpH H Y cols es ver ev (cplS n es a ++ cplR es a b)) (n - (a + 1)) ⟨a + 1, ev, by omega, by omega, rfl, by simp [go_sem], by rw [cplR_start, List.append_nil]; exact hX⟩ ?_
      clear hX
      rintro m E' Y ⟨b, ev, hb1, hb, rfl, rfl, hY⟩
      have ha0 := fun o => pc_alive (off := o) hY.m0
      have hl0 := fun o => pc_ld (off := o) hY.m0
      simp (config := { maxSteps := 1000000 }) (disch := (first | omega | (simp only [go_sem]; try omega))) only [go_sem, Nat.reduceAdd, Nat.reduceEqDiff, Nat.reduceLeDiff, Nat.reduceMul, Nat.reduceLT, reduceIte, Int.reduceToNat, w64_id, cast_succ]
      repeat (first | (with_reducible first | refine SW.seq ?_ | refine SW.block ?_ | refine SW.rowC ?_ | refine SW.skip ?_ | refine SW.exit ?_ | refine PFn.use (hsz) ?_ | refine PFn.useq (hsz) ?_ | intro _ | refine And.intro (by omega) ?_) | simp (config := { maxSteps := 1000000 }) (disch := (first | omega | (simp only [go_sem]; try omega))) only [go_sem, Nat.reduceAdd, Nat.reduceEqDiff, Nat.reduceLeDiff, Nat.reduceMul, Nat.reduceLT, reduceIte, Int.reduceToNat, w64_id, cast_succ, ha0, hl0])
      (first | refine SW.condD rfl (fun h3 => ?_) (fun h3 => ?_) | refine SW.condN rfl (fun h3 => ?_) (fun h3 => ?_) | refine SW.condNB rfl (fun h3 => ?_) (fun h3 => ?_) | refine SW.condB rfl (fun h3 => ?_) (fun h3 => ?_))
      · have hbn : b < n := by omega
        have hbs := BinarySearchE_fn es ((a : Int), (b : Int)) hasc (by omega)
        have hsn := cplR_succ es (show a < b by omega)
        have hLl : (cplS n es a ++ cplR es a b).length ≤ 6000 := by
          have h1 := cplS_len es (show a ≤ n by omega) g1
          have h2 := cplR_len es (a := a) (m := b) (by omega)
          rw [List.length_append]; omega
        have hZ := hY.app [(⟨0, tyE, 1, [I (a : Int), I (b : Int)]⟩ : Blk)]
        have me : (Y ++ [(⟨0, tyE, 1, [I (a : Int), I (b : Int)]⟩ : Blk)])[Y.length]? = some ⟨0, tyE, 1, [I (a : Int), I (b : Int)]⟩ := by simp
        have el : acells (Y ++ [(⟨0, tyE, 1, [I (a : Int), I (b : Int)]⟩ : Blk)]) 2 (.pc Y.length 0 0) = some [I (a : Int), I (b : Int)] := pc_lds me (by simp)
        have hme := fun o => pc_alive (off := o) me
        have ha0 := fun o => pc_alive (off := o) hZ.m0
        have hl0 := fun o => pc_ld (off := o) hZ.m0
        have ha3 := fun o => pc_alive (off := o) hZ.m3
        have hl3 := fun o => pc_ld (off := o) hZ.m3
        clear me
        have hlnY := hY.ln
        repeat (first | (with_reducible first | refine SW.seq ?_ | refine SW.block ?_ | refine SW.rowC ?_ | refine SW.skip ?_ | refine SW.exit ?_ | intro _ | refine And.intro (by omega) ?_) | simp (config := { maxSteps := 1000000 }) (disch := (first | omega | (simp only [go_sem]; try omega))) only [go_sem, Nat.reduceAdd, Nat.reduceEqDiff, Nat.reduceLeDiff, Nat.reduceMul, Nat.reduceLT, reduceIte, Int.reduceToNat, w64_id, cast_succ])
        generalize Y ++ [(⟨0, tyE, 1, [I (a : Int), I (b : Int)]⟩ : Blk)] = Z at *
        replace hbs : PFn Tryz.prog f_slices_BinarySearchFunc_Limpl_Edge_impl_Edge_impl_Edge [ilE es, .agg [I (a : Int), I (b : Int)], .fn f_impl_compareEdges []] (.tup [I (cntE es (a, b)), Bv (decide (((a : Int), (b : Int)) ∈ es))]) := hbs
        cases hm : decide (((a : Int), (b : Int)) ∈ es)
        · rw [hm] at hbs
          rw [hm, if_neg (by simp)] at hsn
          have hsn2 : cplS n es a ++ cplR es a (b + 1) = (cplS n es a ++ cplR es a b) ++ [((a : Int), (b : Int))] := by rw [hsn, List.append_assoc]
          repeat (first | (with_reducible first | refine SW.seq ?_ | refine SW.block ?_ | refine SW.rowC ?_ | refine SW.skip ?_ | refine SW.exit ?_ | refine PFn.use (hbs) ?_ | refine PFn.useq (hbs) ?_ | intro _ | refine And.intro (by omega) ?_) | simp (config := { maxSteps := 1000000 }) (disch := (first | omega | (simp only [go_sem]; try omega))) only [go_sem, Nat.reduceAdd, Nat.reduceEqDiff, Nat.reduceLeDiff, Nat.reduceMul, Nat.reduceLT, reduceIte, Int.reduceToNat, w64_id, cast_succ, ha0, hl0, el, hme])
          refine SW.condT rfl ?_
          have nm2 : ∀ (ty : Nat) (a b : AV), NmV 0 0 1 (some ⟨0, ty, 2, [a, b]⟩) = some (1, [a, b]) := fun ty a b => by simp [NmV]
          repeat (first | (with_reducible first | refine SW.seq ?_ | refine SW.block ?_ | refine SW.rowC ?_ | refine SW.skip ?_ | refine SW.exit ?_ | intro _ | refine And.intro (by omega) ?_) | simp (config := { maxSteps := 1000000 }) (disch := (first | omega | (simp only [go_sem]; try omega))) only [go_sem, Nat.reduceAdd, Nat.reduceEqDiff, Nat.reduceLeDiff, Nat.reduceMul, Nat.reduceLT, reduceIte, Int.reduceToNat, w64_id, cast_succ, ha3, hl3, el, hme, nm2])
          refine GrowF.appX hZ.gw hZ.ln rfl (by simp [AV.cell1]; exact ⟨rfl, rfl⟩) (by omega) (by omega) ?_
          intro v3 Z3 d1 d2 d3
          have e3 : Z3[H.length + 3]? = some ⟨0, tyGr, 1, [.nm (H.length + 2) ver 0 cols.length, ev]⟩ := by rw [d3 _ (by omega)]; exact hZ.m3
          have hlZ := hZ.ln
          repeat (first | (with_reducible first | refine SW.seq ?_ | refine SW.block ?_ | refine SW.rowC ?_ | refine SW.skip ?_ | refine SW.exit ?_ | intro _ | refine And.intro (by omega) ?_) | simp (config := { maxSteps := 1000000 }) (disch := (first | omega | (simp only [go_sem]; try omega))) only [go_sem, Nat.reduceAdd, Nat.reduceEqDiff, Nat.reduceLeDiff, Nat.reduceMul, Nat.reduceLT, reduceIte, Int.reduceToNat, w64_id, cast_succ, pc_alive e3, pc_ld e3, d1.one.1, d1.one.2])
          rw [pc_st e3 (by simp)]
          repeat (first | (with_reducible first | refine SW.seq ?_ | refine SW.block ?_ | refine SW.rowC ?_ | refine SW.skip ?_ | refine SW.exit ?_ | intro _ | refine And.intro (by omega) ?_) | simp (config := { maxSteps := 1000000 }) (disch := (first | omega | (simp only [go_sem]; try omega))) only [go_sem, Nat.reduceAdd, Nat.reduceEqDiff, Nat.reduceLeDiff, Nat.reduceMul, Nat.reduceLT, reduceIte, Int.reduceToNat, w64_id, cast_succ])
          refine SLoop.next (n - (b + 1)) (by omega) ⟨b + 1, v3, by omega, by omega, rfl, by simp [go_sem], ?_⟩
          rw [hsn2]
          refine ⟨?_, ?_, ?_, List.getElem?_set_self (by omega), ?_, by simp; omega, fun j hj => ?_⟩
          · rw [List.getElem?_set_ne (by omega), d3 _ (by omega)]; exact hZ.m0
          · rw [List.getElem?_set_ne (by omega), d3 _ (by omega)]; exact hZ.m1
          · rw [List.getElem?_set_ne (by omega), d3 _ (by omega)]; exact hZ.m2
          · rw [flatE_snoc, List.length_append, List.length_singleton]
            exact d1.same (fun j b h1 h2 => by rw [List.getElem?_set_ne (by omega)]; exact h2)
          · rw [List.getElem?_set_ne (by omega), d3 _ (by omega)]; exact hZ.fr j hj
        · rw [hm] at hbs
          rw [hm, if_pos rfl, List.append_nil] at hsn
          repeat (first | (with_reducible first | refine SW.seq ?_ | refine SW.block ?_ | refine SW.rowC ?_ | refine SW.skip ?_ | refine SW.exit ?_ | refine PFn.use (hbs) ?_ | refine PFn.useq (hbs) ?_ | intro _ | refine And.intro (by omega) ?_) | simp (config := { maxSteps := 1000000 }) (disch := (first | omega | (simp only [go_sem]; try omega))) only [go_sem, Nat.reduceAdd, Nat.reduceEqDiff, Nat.reduceLeDiff, Nat.reduceMul, Nat.reduceLT, reduceIte, Int.reduceToNat, w64_id, cast_succ, ha0, hl0, el, hme])
          refine SW.condF rfl ?_
          repeat (first | (with_reducible first | refine SW.seq ?_ | refine SW.block ?_ | refine SW.rowC ?_ | refine SW.skip ?_ | refine SW.exit ?_ | intro _ | refine And.intro (by omega) ?_) | simp (config := { maxSteps := 1000000 }) (disch := (first | omega | (simp only [go_sem]; try omega))) only [go_sem, Nat.reduceAdd, Nat.reduceEqDiff, Nat.reduceLeDiff, Nat.reduceMul, Nat.reduceLT, reduceIte, Int.reduceToNat, w64_id, cast_succ])
          refine SLoop.next (n - (b + 1)) (by omega) ⟨b + 1, ev, by omega, by omega, rfl, by simp [go_sem], ?_⟩
          rw [hsn]
          exact hZ
      · have : b = n := by omega
        subst this
        repeat (first | (with_reducible first | refine SW.seq ?_ | refine SW.block ?_ | refine SW.rowC ?_ | refine SW.skip ?_ | refine SW.exit ?_ | intro _ | refine And.intro (by omega) ?_) | simp (config := { maxSteps := 1000000 }) (disch := (first | omega | (simp only [go_sem]; try omega))) only [go_sem, Nat.reduceAdd, Nat.reduceEqDiff, Nat.reduceLeDiff, Nat.reduceMul, Nat.reduceLT, reduceIte, Int.reduceToNat, w64_id, cast_succ])
        refine SLoop.next (b - (a + 1)) (by omega) ⟨a + 1, ev, by omega, rfl, by simp [go_sem], ?_⟩
        rw [cplS_succ]
        exact hY
    · have : a = n := by omega
      subst this
      repeat (first | (with_reducible first | refine SW.seq ?_ | refine SW.block ?_ | refine SW.rowC ?_ | refine SW.skip ?_ | refine SW.exit ?_ | intro _ | refine And.intro (by omega) ?_) | simp (config := { maxSteps := 1000000 }) (disch := (first | omega | (simp only [go_sem]; try omega))) only [go_sem, Nat.reduceAdd, Nat.reduceEqDiff, Nat.reduceLeDiff, Nat.reduceMul, Nat.reduceLT, reduceIte, Int.reduceToNat, w64_id, cast_succ, pc_alive hX.m3, pc_ld hX.m3, hX.gw.view])
      have hSe : cplS a es a = cplE a es := rfl
      rw [← hSe]
      have hgw := hX.gw
      generalize cplS a es a = L at *
      by_cases h512 : L.length > 512
      · have d2 : decide ((512 : Int) < (L.length : Int)) = true := decide_eq_true (by omega)
        rw [if_pos h512, d2]
        refine SW.condT rfl ?_
        repeat (first | (with_reducible first | refine SW.seq ?_ | refine SW.block ?_ | refine SW.rowC ?_ | refine SW.skip ?_ | refine SW.exit ?_ | intro _ | refine And.intro (by omega) ?_) | simp (config := { maxSteps := 1000000 }) (disch := (first | omega | (simp only [go_sem]; try omega))) only [go_sem, Nat.reduceAdd, Nat.reduceEqDiff, Nat.reduceLeDiff, Nat.reduceMul, Nat.reduceLT, reduceIte, Int.reduceToNat, w64_id, cast_succ, pc_alive hX.m1])
        rw [pc_st hX.m1 (by simp)]
        repeat (first | (with_reducible first | refine SW.seq ?_ | refine SW.block ?_ | refine SW.rowC ?_ | refine SW.skip ?_ | refine SW.exit ?_ | intro _ | refine And.intro (by omega) ?_) | simp (config := { maxSteps := 1000000 }) (disch := (first | omega | (simp only [go_sem]; try omega))) only [go_sem, Nat.reduceAdd, Nat.reduceEqDiff, Nat.reduceLeDiff, Nat.reduceMul, Nat.reduceLT, reduceIte, Int.reduceToNat, w64_id, cast_succ])
        refine SW.ret ?_
        have c0 : (X.set (H.length + 1) ⟨0, tyGr, 1, [nilS, nilS]⟩)[H.length + 1]? = some ⟨0, tyGr, 1, [nilS, nilS]⟩ := List.getElem?_set_self (by have := hX.ln; omega)
        refine FunPost.cell_tmp (cs := [nilS, nilS]) (by simp (config := { maxSteps := 1000000 }) (disch := (first | omega | (simp only [go_sem]; try omega))) only [go_sem, Nat.reduceAdd, Nat.reduceEqDiff, Nat.reduceLeDiff, Nat.reduceMul, Nat.reduceLT, reduceIte, Int.reduceToNat, w64_id, cast_succ, pc_lds c0]) ?_
        exact GR.frozP (prefix_of (by have := hX.ln; simp; omega) (fun j hj => by rw [List.getElem?_set_ne (by omega)]; exact hX.fr j hj)) (r' := .tup [.agg [ilS [], ilE []], I 5]) (froz_tup2 (froz_agg2 .nil .nil) (froz_I' _)) ⟨rfl, rfl⟩
      · have d2 : decide ((512 : Int) < (L.length : Int)) = false := decide_eq_false (by omega)
        rw [if_neg h512, d2]
        refine SW.condF rfl ?_
        repeat (first | (with_reducible first | refine SW.seq ?_ | refine SW.block ?_ | refine SW.rowC ?_ | refine SW.skip ?_ | refine SW.exit ?_ | intro _ | refine And.intro (by omega) ?_) | simp (config := { maxSteps := 1000000 }) (disch := (first | omega | (simp only [go_sem]; try omega))) only [go_sem, Nat.reduceAdd, Nat.reduceEqDiff, Nat.reduceLeDiff, Nat.reduceMul, Nat.reduceLT, reduceIte, Int.reduceToNat, w64_id, cast_succ, pc_lds hX.m3, pc_alive hX.m3, hgw.one.1, hgw.one.2, pc_alive hX.m1])
        rw [pc_st hX.m1 (by simp)]
        repeat (first | (with_reducible first | refine SW.seq ?_ | refine SW.block ?_ | refine SW.rowC ?_ | refine SW.skip ?_ | refine SW.exit ?_ | intro _ | refine And.intro (by omega) ?_) | simp (config := { maxSteps := 1000000 }) (disch := (first | omega | (simp only [go_sem]; try omega))) only [go_sem, Nat.reduceAdd, Nat.reduceEqDiff, Nat.reduceLeDiff, Nat.reduceMul, Nat.reduceLT, reduceIte, Int.reduceToNat, w64_id, cast_succ])
        refine SW.ret ?_
        have c0 : (X.set (H.length + 1) ⟨0, tyGr, 1, [.nm (H.length + 2) ver 0 cols.length, ev]⟩)[H.length + 1]? = some ⟨0, tyGr, 1, [.nm (H.length + 2) ver 0 cols.length, ev]⟩ := List.getElem?_set_self (by have := hX.ln; omega)
        refine FunPost.cell_tmp (cs := [.nm (H.length + 2) ver 0 cols.length, ev]) (by simp (config := { maxSteps := 1000000 }) (disch := (first | omega | (simp only [go_sem]; try omega))) only [go_sem, Nat.reduceAdd, Nat.reduceEqDiff, Nat.reduceLeDiff, Nat.reduceMul, Nat.reduceLT, reduceIte, Int.reduceToNat, w64_id, cast_succ, pc_lds c0]) ?_
        refine GR.frozP (prefix_of (by have := hX.ln; simp; omega) (fun j hj => by rw [List.getElem?_set_ne (by omega)]; exact hX.fr j hj)) (r' := .tup [.agg [ilS cols, ilE L], I 0]) (froz_tup2 (froz_agg2 ?_ ?_) (froz_I' _)) ⟨rfl, rfl⟩
        · exact froz_rowI (ver := ver) (ty := 2) (by omega) (by rw [List.getElem?_set_ne (by omega)]; exact hX.m2)
        · exact (hgw.same (fun j b h1 h2 => by rw [List.getElem?_set_ne (by omega)]; exact h2)).frozE (by omega)
end Go.Proofs.YtdgcgckehihboaaGreatDoor
