/- Exact covers: the program's choice of an item. -/
import Derived.Test.YtnlfokkljgbaaaaProg
import Derived.KernelRfl
import Derived.Test.YtnlfokkljgbaaaazCB
set_option linter.unusedSimpArgs false
set_option linter.unusedVariables false
set_option maxHeartbeats 4000000
set_option maxRecDepth 100000
namespace Go.Proofs.Ytnlfokkljgbaaaa
open Go.Av
abbrev f_impl_coverer_choices : Nat := 79
def c_impl_coverer_choices : SC :=
 .seq (.reg [
     ⟨(some 2), .mv (.const (.slice none 0 0)), none⟩] [0])
 (.seq (.reg [
     ⟨(some 3), .mv (.const (.slice none 0 0)), none⟩] [0, 3])
 (.seq (.reg [
     ⟨(some 4), .mv (.const (.bool false)), none⟩] [0, 3, 4])
 (.seq (.seq (.reg [
     ⟨(some 10), .mv (.tmp 0), none⟩,
     ⟨(some 11), .nilc (.tmp 10), none⟩,
     ⟨(some 12), .faddr 6 (.tmp 11), none⟩,
     ⟨(some 13), .load 1 false (.tmp 12), none⟩,
     ⟨(some 14), .len (.tmp 13), none⟩,
     ⟨(some 15), .mv (.const (.int .i64 0)), none⟩] [0, 3, 4, 13, 14, 15])
 (.block 0 (.loop [0, 3, 4, 13, 14, 15]
   (.seq (.reg [
       ⟨(some 16), .bin .lss (.tmp 15) (.tmp 14), none⟩] [0, 3, 4, 13, 14, 15, 16])
   (.seq (.cond (.tmp 16)
    (.skip)
    (.exit 0))
   (.seq (.block 1 (.seq (.reg [
        ⟨(some 17), .mv (.tmp 15), none⟩,
        ⟨(some 18), .iaddr 1 (.tmp 13) (.tmp 15), none⟩,
        ⟨(some 19), .load 1 false (.tmp 18), none⟩,
        ⟨(some 5), .mv (.tmp 17), none⟩,
        ⟨(some 6), .mv (.tmp 19), none⟩] [0, 3, 4, 5, 6, 13, 14, 15])
    (.seq (.seq (.reg [
        ⟨(some 20), .mv (.tmp 6), none⟩] [0, 3, 4, 5, 13, 14, 15, 20])
    (.cond (.tmp 20)
     (.exit 1)
     (.skip)))
    (.seq (.reg [
        ⟨(some 7), .mv (.const (.slice none 0 0)), none⟩] [0, 3, 4, 5, 7, 13, 14, 15])
    (.seq (.seq (.reg [
        ⟨(some 21), .mv (.tmp 0), none⟩,
        ⟨(some 22), .nilc (.tmp 21), none⟩,
        ⟨(some 23), .faddr 4 (.tmp 22), none⟩,
        ⟨(some 24), .load 1 false (.tmp 23), none⟩,
        ⟨(some 25), .mv (.tmp 5), none⟩,
        ⟨(some 26), .iaddr 1 (.tmp 24) (.tmp 25), none⟩,
        ⟨(some 27), .load 1 false (.tmp 26), none⟩,
        ⟨(some 28), .len (.tmp 27), none⟩,
        ⟨(some 29), .mv (.const (.int .i64 0)), none⟩] [0, 3, 4, 7, 13, 14, 15, 27, 28, 29])
    (.block 2 (.loop [0, 3, 4, 7, 13, 14, 15, 27, 28, 29]
      (.seq (.reg [
          ⟨(some 30), .bin .lss (.tmp 29) (.tmp 28), none⟩] [0, 3, 4, 7, 13, 14, 15, 27, 28, 29, 30])
      (.seq (.cond (.tmp 30)
       (.skip)
       (.exit 2))
      (.seq (.block 3 (.seq (.reg [
           ⟨(some 31), .iaddr 1 (.tmp 27) (.tmp 29), none⟩,
           ⟨(some 32), .load 1 false (.tmp 31), none⟩,
           ⟨(some 9), .mv (.tmp 32), none⟩] [0, 3, 4, 7, 9, 13, 14, 15, 27, 28, 29])
       (.seq (.reg [
           ⟨(some 33), .mv (.tmp 0), none⟩,
           ⟨(some 34), .mv (.tmp 9), none⟩,
           ⟨(some 35), .call 97 [(.tmp 33), (.tmp 34)], none⟩] [0, 3, 4, 7, 9, 13, 14, 15, 27, 28, 29, 35])
       (.cond (.tmp 35)
        (.reg [
            ⟨(some 36), .mv (.tmp 7), none⟩,
            ⟨(some 37), .mv (.tmp 9), none⟩,
            ⟨(some 38), .bslice 2 1 1 [(.int .i64 0)] [(0, (.tmp 37))], none⟩,
            ⟨(some 39), .app 2 1 8 (.tmp 36) (.tmp 38), none⟩,
            ⟨(some 7), .mv (.tmp 39), none⟩] [0, 3, 4, 7, 13, 14, 15, 27, 28, 29])
        (.skip)))))
      (.reg [
          ⟨(some 40), .bin .add (.tmp 29) (.const (.int .i64 1)), none⟩,
          ⟨(some 29), .mv (.tmp 40), none⟩] [0, 3, 4, 7, 13, 14, 15, 27, 28, 29])))))))
    (.seq (.reg [
        ⟨(some 41), .mv (.tmp 4), none⟩,
        ⟨(some 42), .un .not (.tmp 41), none⟩,
        ⟨(some 43), .mv (.tmp 42), none⟩,
        ⟨(some 44), .mv (.tmp 7), (some (43, false))⟩,
        ⟨(some 45), .len (.tmp 44), (some (43, false))⟩,
        ⟨(some 46), .mv (.tmp 3), (some (43, false))⟩,
        ⟨(some 47), .len (.tmp 46), (some (43, false))⟩,
        ⟨(some 48), .bin .lss (.tmp 45) (.tmp 47), (some (43, false))⟩,
        ⟨(some 49), .pick (.tmp 43) (.const (.bool true)) (.tmp 48), none⟩] [0, 3, 4, 7, 13, 14, 15, 49])
    (.cond (.tmp 49)
     (.reg [
         ⟨(some 50), .mv (.tmp 7), none⟩,
         ⟨(some 3), .mv (.tmp 50), none⟩,
         ⟨(some 4), .mv (.const (.bool true)), none⟩] [0, 3, 4, 13, 14, 15])
     (.skip))))))))
   (.reg [
       ⟨(some 51), .bin .add (.tmp 15) (.const (.int .i64 1)), none⟩,
       ⟨(some 15), .mv (.tmp 51), none⟩] [0, 3, 4, 13, 14, 15])))))))
 (.seq (.reg [
     ⟨(some 52), .mv (.tmp 3), none⟩,
     ⟨(some 2), .mv (.tmp 52), none⟩] [2])
 (.ret)))))
theorem s_impl_coverer_choices : stripF Try.prog 79 [[0], [0, 3], [0, 3, 4], [0, 3, 4, 13, 14, 15], [0, 3, 4, 13, 14, 15], [0, 3, 4, 13, 14, 15, 16], [0, 3, 4, 5, 6, 13, 14, 15], [0, 3, 4, 5, 13, 14, 15, 20], [0, 3, 4, 5, 7, 13, 14, 15], [0, 3, 4, 7, 13, 14, 15, 27, 28, 29], [0, 3, 4, 7, 13, 14, 15, 27, 28, 29], [0, 3, 4, 7, 13, 14, 15, 27, 28, 29, 30], [0, 3, 4, 7, 9, 13, 14, 15, 27, 28, 29], [0, 3, 4, 7, 9, 13, 14, 15, 27, 28, 29, 35], [0, 3, 4, 7, 13, 14, 15, 27, 28, 29], [0, 3, 4, 7, 13, 14, 15, 27, 28, 29], [0, 3, 4, 7, 13, 14, 15, 49], [0, 3, 4, 13, 14, 15], [0, 3, 4, 13, 14, 15], [2]] = some (c_impl_coverer_choices, [.tmp 2], 53) := by kernel_rfl
def lstC (O : List (List Int)) (D : List Int) (acc : Option Nat) : List Int := match acc with
  | none => []
  | some x => chL O D (x : Int)
def accC (O : List (List Int)) (D : List Int) (i : Nat) : Option Nat := (List.range i).foldl (bstS O D) none
theorem accC_succ (O : List (List Int)) (D : List Int) (i : Nat) : accC O D (i + 1) = bstS O D (accC O D i) i := by unfold accC; rw [List.range_succ, List.foldl_append]; rfl
theorem chs_acc (O : List (List Int)) (D : List Int) (n : Nat) : chs O D n = lstC O D (accC O D n) := rfl
theorem chL_len (O : List (List Int)) (D : List Int) (x : Int) : (chL O D x).length ≤ O.length := Nat.le_trans (List.length_filter_le _ _) (optW_len x O)
theorem bstS_none {O : List (List Int)} {D : List Int} {i : Nat} (hD : D.contains (i : Int) = false) : bstS O D none i = some i := by
  unfold bstS; rw [if_neg (by rw [hD]; simp)]
theorem bstS_lt {O : List (List Int)} {D : List Int} {i y : Nat} (hD : D.contains (i : Int) = false) (h : (chL O D (i : Int)).length < (chL O D (y : Int)).length) : bstS O D (some y) i = some i := by
  unfold bstS; rw [if_neg (by rw [hD]; simp)]; simp only; rw [if_pos h]
theorem bstS_ge {O : List (List Int)} {D : List Int} {i y : Nat} (hD : D.contains (i : Int) = false) (h : ¬ (chL O D (i : Int)).length < (chL O D (y : Int)).length) : bstS O D (some y) i = some y := by
  unfold bstS; rw [if_neg (by rw [hD]; simp)]; simp only; rw [if_neg h]
def bstA (O : List (List Int)) (D : List Int) (acc : Option Nat) : AV := match acc with
  | none => nilS
  | some x => ilS (chL O D (x : Int))
section
variable {H : List Blk} {q p n : Nat} {O W : List (List Int)} {one : Bool} {b0 : Nat} {D : List Int} {st : VS} {v fv : AV}
theorem cvChoices_ok (h : CvH H q p n O W one b0 D st v fv) (hn : n ≤ 64) (hW : W = (List.range n).map fun (x : Nat) => optW (x : Int) O) (hO : ∀ o ∈ O, ∀ x ∈ o, 0 ≤ x ∧ x < (n : Int)) (hOl : O.length ≤ 256) :
    ACalls Try.prog f_impl_coverer_choices [.pc p 0 0] H (fun r H' => r = ilS (chs O D n) ∧ H' = H) := by
  have hpa := fun o => pc_alive (off := o) h.box
  have hpl := fun o => pc_ld (off := o) h.box
  have hv := h.view
  have hp := (List.getElem?_eq_some_iff.1 h.box).1
  have hq := (List.getElem?_eq_some_iff.1 h.cov).1
  refine ACalls.introB s_impl_coverer_choices (by simp) ?_; intro hB hA; unfold c_impl_coverer_choices; simp (config := { maxSteps := 1000000 }) (disch := (first | omega | (simp only [go_sem]; try omega))) only [go_sem, Nat.reduceAdd, Nat.reduceEqDiff, Nat.reduceLeDiff, Nat.reduceMul, Nat.reduceLT, reduceIte, Int.reduceToNat, w64_id, cast_succ]
  repeat (first | (with_reducible first | refine SW.seq ?_ | refine SW.block ?_ | refine SW.rowC ?_ | refine SW.skip ?_ | refine SW.exit ?_ | intro _ | refine And.intro (by omega) ?_) | simp (config := { maxSteps := 1000000 }) (disch := (first | omega | (simp only [go_sem]; try omega))) only [go_sem, Nat.reduceAdd, Nat.reduceEqDiff, Nat.reduceLeDiff, Nat.reduceMul, Nat.reduceLT, reduceIte, Int.reduceToNat, w64_id, cast_succ, hpa, hpl, hv])
  refine SW.loopE (fun E0 H0 m E' H' => ∃ (i : Nat), i ≤ n ∧ m = n - i ∧ E' = aput (aput (aput E0 15 (I i)) 3 (bstA O D (accC O D i))) 4 (Bv (accC O D i).isSome) ∧ H' = H) n
    ⟨0, by omega, by omega, rfl, rfl⟩ ?_
  rintro m E' H' ⟨i, hi, rfl, rfl, rfl⟩
  have hsn := accC_succ O D i
  generalize hacc : accC O D i = acc at *
  simp (config := { maxSteps := 1000000 }) (disch := (first | omega | (simp only [go_sem]; try omega))) only [go_sem, Nat.reduceAdd, Nat.reduceEqDiff, Nat.reduceLeDiff, Nat.reduceMul, Nat.reduceLT, reduceIte, Int.reduceToNat, w64_id, cast_succ]
  repeat (first | (with_reducible first | refine SW.seq ?_ | refine SW.block ?_ | refine SW.rowC ?_ | refine SW.skip ?_ | refine SW.exit ?_ | intro _ | refine And.intro (by omega) ?_) | simp (config := { maxSteps := 1000000 }) (disch := (first | omega | (simp only [go_sem]; try omega))) only [go_sem, Nat.reduceAdd, Nat.reduceEqDiff, Nat.reduceLeDiff, Nat.reduceMul, Nat.reduceLT, reduceIte, Int.reduceToNat, w64_id, cast_succ])
  (first | refine SW.condD rfl (fun h2 => ?_) (fun h2 => ?_) | refine SW.condN rfl (fun h2 => ?_) (fun h2 => ?_) | refine SW.condNB rfl (fun h2 => ?_) (fun h2 => ?_) | refine SW.condB rfl (fun h2 => ?_) (fun h2 => ?_))
  · have hin : i < n := by omega
    have hg := marksB_get (n := n) (D := D) (x := (i : Int)) (by omega) (by omega)
    rw [Int.toNat_natCast] at hg
    cases hD : D.contains (i : Int)
    · rw [hD] at hg
      have hWi : W.getD i [] = optW (i : Int) O := by rw [hW, getD_get (by simpa using hin)]; simp
      have hWl : i < W.length := by rw [hW]; simpa using hin
      repeat (first | (with_reducible first | refine SW.seq ?_ | refine SW.block ?_ | refine SW.rowC ?_ | refine SW.skip ?_ | refine SW.exit ?_ | intro _ | refine And.intro (by omega) ?_) | simp (config := { maxSteps := 1000000 }) (disch := (first | omega | (simp only [go_sem]; try omega))) only [go_sem, Nat.reduceAdd, Nat.reduceEqDiff, Nat.reduceLeDiff, Nat.reduceMul, Nat.reduceLT, reduceIte, Int.reduceToNat, w64_id, cast_succ, hv, hg, hpa, hpl])
      refine SW.condF rfl ?_
      repeat (first | (with_reducible first | refine SW.seq ?_ | refine SW.block ?_ | refine SW.rowC ?_ | refine SW.skip ?_ | refine SW.exit ?_ | intro _ | refine And.intro (by omega) ?_) | simp (config := { maxSteps := 1000000 }) (disch := (first | omega | (simp only [go_sem]; try omega))) only [go_sem, Nat.reduceAdd, Nat.reduceEqDiff, Nat.reduceLeDiff, Nat.reduceMul, Nat.reduceLT, reduceIte, Int.reduceToNat, w64_id, cast_succ, hpa, hpl, hWi])
      refine SW.ghost (Gh.name 7 2 1 rfl) ?_
      simp (config := { maxSteps := 1000000 }) (disch := (first | omega | (simp only [go_sem]; try omega))) only [go_sem, Nat.reduceAdd, Nat.reduceEqDiff, Nat.reduceLeDiff, Nat.reduceMul, Nat.reduceLT, reduceIte, Int.reduceToNat, w64_id, cast_succ]
      have hbb : ∀ k, Bel k (bstA O D acc) := fun k => by
        cases acc with
        | none => exact .lit _
        | some x => show Bel k (ilS _); rw [Bel_ilS]; trivial
      generalize hL : optW (i : Int) O = L at *
      have hmem : ∀ k ∈ L, 0 ≤ k ∧ k < O.length := fun k hk => by
        rw [← hL] at hk
        have := optW_mem.1 hk
        exact ⟨this.1, this.2.1⟩
      have hLl : L.length ≤ 256 := by rw [← hL]; exact Nat.le_trans (optW_len _ _) hOl
      have hcl : chL O D (i : Int) = L.filter (opI O D) := by unfold chL; rw [hL]
      refine SW.loopE (fun E0 H0 m E' H2 => ∃ (pre post : List Int) (ver : Nat), L = pre ++ post ∧ m = post.length ∧ E' = aput (aput E0 29 (I pre.length)) 7 (.nm H'.length ver 0 (pre.filter (opI O D)).length) ∧ H2 = H' ++ [⟨ver, 2, 1, (pre.filter (opI O D)).map I⟩]) L.length
        ⟨[], L, 0, rfl, rfl, rfl, rfl⟩ ?_
      rintro m E' H2 ⟨pre, post, ver, hpq, rfl, rfl, rfl⟩
      have hpl2 : (pre.filter (opI O D)).length ≤ 256 := Nat.le_trans (List.length_filter_le _ _) (by rw [hpq, List.length_append] at hLl; omega)
      have hfs := fun k => List.filter_append (p := opI O D) pre [k]
      generalize hF : pre.filter (opI O D) = F at *
      simp (config := { maxSteps := 1000000 }) (disch := (first | omega | (simp only [go_sem]; try omega))) only [go_sem, Nat.reduceAdd, Nat.reduceEqDiff, Nat.reduceLeDiff, Nat.reduceMul, Nat.reduceLT, reduceIte, Int.reduceToNat, w64_id, cast_succ]
      repeat (first | (with_reducible first | refine SW.seq ?_ | refine SW.block ?_ | refine SW.rowC ?_ | refine SW.skip ?_ | refine SW.exit ?_ | intro _ | refine And.intro (by omega) ?_) | simp (config := { maxSteps := 1000000 }) (disch := (first | omega | (simp only [go_sem]; try omega))) only [go_sem, Nat.reduceAdd, Nat.reduceEqDiff, Nat.reduceLeDiff, Nat.reduceMul, Nat.reduceLT, reduceIte, Int.reduceToNat, w64_id, cast_succ])
      (first | refine SW.condD rfl (fun h3 => ?_) (fun h3 => ?_) | refine SW.condN rfl (fun h3 => ?_) (fun h3 => ?_) | refine SW.condNB rfl (fun h3 => ?_) (fun h3 => ?_) | refine SW.condB rfl (fun h3 => ?_) (fun h3 => ?_))
      · obtain ⟨k, post, rfl, hg, -⟩ := consOf (d := 0) hpq (by omega)
        have hkm := hmem k (by rw [hpq]; simp)
        have hom : ∀ x ∈ O.getD k.toNat [], 0 ≤ x ∧ x < (n : Int) := hO _ (by rw [getD_get (by omega)]; exact List.getElem_mem _)
        repeat (first | (with_reducible first | refine SW.seq ?_ | refine SW.block ?_ | refine SW.rowC ?_ | refine SW.skip ?_ | refine SW.exit ?_ | intro _ | refine And.intro (by omega) ?_) | simp (config := { maxSteps := 1000000 }) (disch := (first | omega | (simp only [go_sem]; try omega))) only [go_sem, Nat.reduceAdd, Nat.reduceEqDiff, Nat.reduceLeDiff, Nat.reduceMul, Nat.reduceLT, reduceIte, Int.reduceToNat, w64_id, cast_succ, hg])
        refine (cvOpen_ok (h.append _) hkm hom).mono ?_
        rintro r H2 ⟨rfl, rfl⟩
        cases ho : opI O D k
        · repeat (first | (with_reducible first | refine SW.seq ?_ | refine SW.block ?_ | refine SW.rowC ?_ | refine SW.skip ?_ | refine SW.exit ?_ | intro _ | refine And.intro (by omega) ?_) | simp (config := { maxSteps := 1000000 }) (disch := (first | omega | (simp only [go_sem]; try omega))) only [go_sem, Nat.reduceAdd, Nat.reduceEqDiff, Nat.reduceLeDiff, Nat.reduceMul, Nat.reduceLT, reduceIte, Int.reduceToNat, w64_id, cast_succ])
          refine SW.condF rfl ?_
          repeat (first | (with_reducible first | refine SW.seq ?_ | refine SW.block ?_ | refine SW.rowC ?_ | refine SW.skip ?_ | refine SW.exit ?_ | intro _ | refine And.intro (by omega) ?_) | simp (config := { maxSteps := 1000000 }) (disch := (first | omega | (simp only [go_sem]; try omega))) only [go_sem, Nat.reduceAdd, Nat.reduceEqDiff, Nat.reduceLeDiff, Nat.reduceMul, Nat.reduceLT, reduceIte, Int.reduceToNat, w64_id, cast_succ])
          refine SLoop.next post.length (by simp) ⟨pre ++ [k], post, ver, by simp [hpq], rfl, ?_, ?_⟩
          · rw [hfs, List.filter_cons_of_neg (by rw [ho]; simp)]; simp [go_sem]
          · rw [hfs, List.filter_cons_of_neg (by rw [ho]; simp)]; simp
        · repeat (first | (with_reducible first | refine SW.seq ?_ | refine SW.block ?_ | refine SW.rowC ?_ | refine SW.skip ?_ | refine SW.exit ?_ | intro _ | refine And.intro (by omega) ?_) | simp (config := { maxSteps := 1000000 }) (disch := (first | omega | (simp only [go_sem]; try omega))) only [go_sem, Nat.reduceAdd, Nat.reduceEqDiff, Nat.reduceLeDiff, Nat.reduceMul, Nat.reduceLT, reduceIte, Int.reduceToNat, w64_id, cast_succ])
          refine SW.condT rfl ?_
          repeat (first | (with_reducible first | refine SW.seq ?_ | refine SW.block ?_ | refine SW.rowC ?_ | refine SW.skip ?_ | refine SW.exit ?_ | intro _ | refine And.intro (by omega) ?_) | simp (config := { maxSteps := 1000000 }) (disch := (first | omega | (simp only [go_sem]; try omega))) only [go_sem, Nat.reduceAdd, Nat.reduceEqDiff, Nat.reduceLeDiff, Nat.reduceMul, Nat.reduceLT, reduceIte, Int.reduceToNat, w64_id, cast_succ])
          refine SLoop.nextT 1 post.length hB (by omega) (by simp) (by simp) ?_ ?_ ⟨pre ++ [k], post, ver + 1, by simp [hpq], rfl, ?_, ?_⟩
          · (simp only [go_sem, Nat.reduceAdd, Nat.reduceEqDiff, reduceIte, go_sem, and_self, and_true, true_and, implies_true, List.take_succ_cons, List.take_zero, and_true, true_and, hbb]; try omega)
          · (simp only [go_sem, Nat.reduceAdd, Nat.reduceEqDiff, reduceIte, go_sem, and_self, and_true, true_and, implies_true, List.take_succ_cons, List.take_zero, and_true, true_and, hbb]; try omega)
          · rw [hfs, List.filter_cons_of_pos ho]; simp [go_sem]
          · rw [hfs, List.filter_cons_of_pos ho]; simp
      · obtain ⟨rfl, rfl⟩ := nilOf hpq (by omega)
        rw [hcl.symm] at hF
        subst hF
        cases acc with
        | none =>
          have e1 : (none : Option Nat).isSome = false := rfl
          repeat (first | (with_reducible first | refine SW.seq ?_ | refine SW.block ?_ | refine SW.rowC ?_ | refine SW.skip ?_ | refine SW.exit ?_ | intro _ | refine And.intro (by omega) ?_) | simp (config := { maxSteps := 1000000 }) (disch := (first | omega | (simp only [go_sem]; try omega))) only [go_sem, Nat.reduceAdd, Nat.reduceEqDiff, Nat.reduceLeDiff, Nat.reduceMul, Nat.reduceLT, reduceIte, Int.reduceToNat, w64_id, cast_succ, e1, Bool.not_false])
          refine SW.condT rfl ?_
          repeat (first | (with_reducible first | refine SW.seq ?_ | refine SW.block ?_ | refine SW.rowC ?_ | refine SW.skip ?_ | refine SW.exit ?_ | intro _ | refine And.intro (by omega) ?_) | simp (config := { maxSteps := 1000000 }) (disch := (first | omega | (simp only [go_sem]; try omega))) only [go_sem, Nat.reduceAdd, Nat.reduceEqDiff, Nat.reduceLeDiff, Nat.reduceMul, Nat.reduceLT, reduceIte, Int.reduceToNat, w64_id, cast_succ])
          refine SLoop.nextFz (n - (i + 1)) [(0, .pc p 0 0), (3, ilS (chL O D (i : Int))), (4, Bv true), (13, .nm q 0 0 n), (14, I n), (15, I ((i + 1 : Nat) : Int))] hB (by omega) (by omega)
            (.cons _ (.old _ (by simp [go_sem]; exact hp)) (.cons _ (ren_rowI (Nat.le_refl _) (by simp) (by rw [List.getElem?_append_right (Nat.le_refl _), Nat.sub_self]; rfl)) (.cons _ (ren_B _) (.cons _ (.old _ (by simp [go_sem]; exact hq)) (.cons _ (ren_I _) (.cons _ (ren_I _) .nil)))))) ⟨i + 1, by omega, rfl, ?_, rfl⟩
          rw [hsn, bstS_none hD]
          rfl
        | some y =>
          have hly := chL_len O D (y : Int)
          by_cases hlt : (chL O D (i : Int)).length < (chL O D (y : Int)).length
          · have d1 : decide (((chL O D (i : Int)).length : Int) < (chL O D (y : Int)).length) = true := decide_eq_true (by omega)
            have hba : bstA O D (some y) = ilS (chL O D (y : Int)) := rfl
            rw [hba]
            have e1 : (some y : Option Nat).isSome = true := rfl
            repeat (first | (with_reducible first | refine SW.seq ?_ | refine SW.block ?_ | refine SW.rowC ?_ | refine SW.skip ?_ | refine SW.exit ?_ | intro _ | refine And.intro (by omega) ?_) | simp (config := { maxSteps := 1000000 }) (disch := (first | omega | (simp only [go_sem]; try omega))) only [go_sem, Nat.reduceAdd, Nat.reduceEqDiff, Nat.reduceLeDiff, Nat.reduceMul, Nat.reduceLT, reduceIte, Int.reduceToNat, w64_id, cast_succ, d1, e1, Bool.not_true])
            refine SW.condT rfl ?_
            repeat (first | (with_reducible first | refine SW.seq ?_ | refine SW.block ?_ | refine SW.rowC ?_ | refine SW.skip ?_ | refine SW.exit ?_ | intro _ | refine And.intro (by omega) ?_) | simp (config := { maxSteps := 1000000 }) (disch := (first | omega | (simp only [go_sem]; try omega))) only [go_sem, Nat.reduceAdd, Nat.reduceEqDiff, Nat.reduceLeDiff, Nat.reduceMul, Nat.reduceLT, reduceIte, Int.reduceToNat, w64_id, cast_succ])
            refine SLoop.nextFz (n - (i + 1)) [(0, .pc p 0 0), (3, ilS (chL O D (i : Int))), (4, Bv true), (13, .nm q 0 0 n), (14, I n), (15, I ((i + 1 : Nat) : Int))] hB (by omega) (by omega)
              (.cons _ (.old _ (by simp [go_sem]; exact hp)) (.cons _ (ren_rowI (Nat.le_refl _) (by simp) (by rw [List.getElem?_append_right (Nat.le_refl _), Nat.sub_self]; rfl)) (.cons _ (ren_B _) (.cons _ (.old _ (by simp [go_sem]; exact hq)) (.cons _ (ren_I _) (.cons _ (ren_I _) .nil)))))) ⟨i + 1, by omega, rfl, ?_, rfl⟩
            rw [hsn, bstS_lt hD hlt]
            rfl
          · have d1 : decide (((chL O D (i : Int)).length : Int) < (chL O D (y : Int)).length) = false := decide_eq_false (by omega)
            have hba : bstA O D (some y) = ilS (chL O D (y : Int)) := rfl
            rw [hba]
            have e1 : (some y : Option Nat).isSome = true := rfl
            repeat (first | (with_reducible first | refine SW.seq ?_ | refine SW.block ?_ | refine SW.rowC ?_ | refine SW.skip ?_ | refine SW.exit ?_ | intro _ | refine And.intro (by omega) ?_) | simp (config := { maxSteps := 1000000 }) (disch := (first | omega | (simp only [go_sem]; try omega))) only [go_sem, Nat.reduceAdd, Nat.reduceEqDiff, Nat.reduceLeDiff, Nat.reduceMul, Nat.reduceLT, reduceIte, Int.reduceToNat, w64_id, cast_succ, d1, e1, Bool.not_true])
            refine SW.condF rfl ?_
            repeat (first | (with_reducible first | refine SW.seq ?_ | refine SW.block ?_ | refine SW.rowC ?_ | refine SW.skip ?_ | refine SW.exit ?_ | intro _ | refine And.intro (by omega) ?_) | simp (config := { maxSteps := 1000000 }) (disch := (first | omega | (simp only [go_sem]; try omega))) only [go_sem, Nat.reduceAdd, Nat.reduceEqDiff, Nat.reduceLeDiff, Nat.reduceMul, Nat.reduceLT, reduceIte, Int.reduceToNat, w64_id, cast_succ])
            refine SLoop.nextT 0 (n - (i + 1)) hB (by omega) (by omega) (by simp) ?_ ?_ ⟨i + 1, by omega, rfl, ?_, ?_⟩
            · (simp only [go_sem, Nat.reduceAdd, Nat.reduceEqDiff, reduceIte, go_sem, and_self, and_true, true_and, implies_true, List.take_succ_cons, List.take_zero, and_true, true_and]; try omega)
            · (simp only [go_sem, Nat.reduceAdd, Nat.reduceEqDiff, reduceIte, go_sem, and_self, and_true, true_and, implies_true, List.take_succ_cons, List.take_zero, and_true, true_and]; try omega)
            · rw [hsn, bstS_ge hD hlt]
              rfl
            · simp
    · rw [hD] at hg
      repeat (first | (with_reducible first | refine SW.seq ?_ | refine SW.block ?_ | refine SW.rowC ?_ | refine SW.skip ?_ | refine SW.exit ?_ | intro _ | refine And.intro (by omega) ?_) | simp (config := { maxSteps := 1000000 }) (disch := (first | omega | (simp only [go_sem]; try omega))) only [go_sem, Nat.reduceAdd, Nat.reduceEqDiff, Nat.reduceLeDiff, Nat.reduceMul, Nat.reduceLT, reduceIte, Int.reduceToNat, w64_id, cast_succ, hv, hg])
      refine SW.condT rfl ?_
      repeat (first | (with_reducible first | refine SW.seq ?_ | refine SW.block ?_ | refine SW.rowC ?_ | refine SW.skip ?_ | refine SW.exit ?_ | intro _ | refine And.intro (by omega) ?_) | simp (config := { maxSteps := 1000000 }) (disch := (first | omega | (simp only [go_sem]; try omega))) only [go_sem, Nat.reduceAdd, Nat.reduceEqDiff, Nat.reduceLeDiff, Nat.reduceMul, Nat.reduceLT, reduceIte, Int.reduceToNat, w64_id, cast_succ])
      refine SLoop.next (n - (i + 1)) (by omega) ⟨i + 1, by omega, rfl, ?_, rfl⟩
      rw [hsn, show bstS O D acc i = acc by unfold bstS; rw [if_pos hD]]; simp [go_sem]
  · have : i = n := by omega
    subst this
    repeat (first | (with_reducible first | refine SW.seq ?_ | refine SW.block ?_ | refine SW.rowC ?_ | refine SW.skip ?_ | refine SW.exit ?_ | intro _ | refine And.intro (by omega) ?_) | simp (config := { maxSteps := 1000000 }) (disch := (first | omega | (simp only [go_sem]; try omega))) only [go_sem, Nat.reduceAdd, Nat.reduceEqDiff, Nat.reduceLeDiff, Nat.reduceMul, Nat.reduceLT, reduceIte, Int.reduceToNat, w64_id, cast_succ])
    refine SW.ret ?_; (try simp only [go_sem]); (first | refine FunPost.one ?_ | refine FunPost.two ?_ | refine FunPost.three ?_); (try simp (config := { maxSteps := 1000000 }) (disch := (first | omega | (simp only [go_sem]; try omega))) only [go_sem, Nat.reduceAdd, Nat.reduceEqDiff, Nat.reduceLeDiff, Nat.reduceMul, Nat.reduceLT, reduceIte, Int.reduceToNat, w64_id, cast_succ])
    rw [chs_acc, hacc]
    cases acc with
    | none => exact GR.froz0 .nil ⟨rfl, rfl⟩
    | some x => exact GR.of ⟨rfl, rfl⟩
end
end Go.Proofs.Ytnlfokkljgbaaaa
