/- Affine maps as groups: both ways. -/
import Derived.Test.YtmdeibdplpodpaaGreatzOW
import Derived.Test.YtmdeibdplpodpaaGreatzS5
import Derived.Test.YtmdeibdplpodpaaGreatzG1
import Derived.Test.YtmdeibdplpodpaaGreatzU1
import Derived.Test.YtmdeibdplpodpaaGreatzM2
import Derived.Test.YtmdeibdplpodpaaGreatzK2
import Derived.Test.YtmdeibdplpodpaaGreatProg
import Derived.KernelRfl
set_option linter.unusedSimpArgs false
set_option linter.unusedVariables false
set_option maxHeartbeats 4000000
set_option maxRecDepth 100000
namespace Go.Proofs.YtmdeibdplpodpaaGreat
open Go.Av
def BxT (ty : Nat) (Hb : List Blk) (p : Nat) (hd : AV) (xss : List (List Int)) (H' : List Blk) : Prop :=
  ∃ v, H'[p]? = some ⟨0, ty, 1, [hd, v]⟩ ∧ GrowSS H' (p + 1) tyLL v xss ∧ p + 1 ≤ H'.length ∧ ∀ j, j < p → H'[j]? = Hb[j]?
theorem BxT.put {ty : Nat} {Hb H3 : List Blk} {p : Nat} {hd v3 : AV} {xss : List (List Int)} (d1 : GrowSS H3 (p + 1) tyLL v3 xss) (d2 : p + 1 ≤ H3.length) (d3 : ∀ j, j < p → H3[j]? = Hb[j]?) : BxT ty Hb p hd xss (H3.set p ⟨0, ty, 1, [hd, v3]⟩) := by
  refine ⟨v3, List.getElem?_set_self (by omega), d1.same (fun j b h1 h2 => ?_), by simpa using d2, fun j hj => ?_⟩
  · rw [List.getElem?_set_ne (by omega)]; exact h2
  · rw [List.getElem?_set_ne (by omega)]; exact d3 j hj
end Go.Proofs.YtmdeibdplpodpaaGreat
namespace Go.Proofs.YtmdeibdplpodpaaGreat
open Go.Av
abbrev f_spec_l21PutList : Nat := 44
def c_spec_l21PutList : SC :=
 .seq (.reg [
     ⟨(some 4), .mv (.const (.slice none 0 0)), none⟩] [0, 1])
 (.seq (.reg [
     ⟨(some 9), .bslice 22 1 0 [] [], none⟩,
     ⟨(some 5), .mv (.tmp 9), none⟩] [0, 1, 5])
 (.seq (.reg [
     ⟨(some 6), .mv (.const (.bool false)), none⟩] [0, 1, 5, 6])
 (.seq (.seq (.reg [
     ⟨(some 7), .mv (.const (.int .i64 0)), none⟩] [0, 1, 5, 6, 7])
 (.block 0 (.loop [0, 1, 5, 6, 7]
   (.seq (.seq (.reg [
       ⟨(some 10), .mv (.tmp 7), none⟩,
       ⟨(some 11), .mv (.tmp 0), none⟩,
       ⟨(some 12), .len (.tmp 11), none⟩,
       ⟨(some 13), .bin .lss (.tmp 10) (.tmp 12), none⟩] [0, 1, 5, 6, 7, 13])
   (.cond (.tmp 13)
    (.skip)
    (.exit 0)))
   (.seq (.block 1 (.seq (.reg [
        ⟨(some 16), .mv (.tmp 0), none⟩,
        ⟨(some 17), .mv (.tmp 7), none⟩,
        ⟨(some 18), .iaddr 1 (.tmp 16) (.tmp 17), none⟩,
        ⟨(some 19), .load 1 false (.tmp 18), none⟩,
        ⟨(some 20), .mv (.tmp 1), none⟩,
        ⟨(some 21), .call 76 [(.tmp 19), (.tmp 20)], none⟩,
        ⟨(some 8), .mv (.tmp 21), none⟩] [0, 1, 5, 6, 7, 8])
    (.seq (.seq (.reg [
        ⟨(some 22), .mv (.tmp 6), none⟩,
        ⟨(some 23), .un .not (.tmp 22), none⟩,
        ⟨(some 24), .mv (.tmp 23), none⟩,
        ⟨(some 25), .mv (.tmp 8), (some (24, true))⟩,
        ⟨(some 26), .bin .geq (.tmp 25) (.const (.int .i64 0)), (some (24, true))⟩,
        ⟨(some 27), .pick (.tmp 24) (.tmp 26) (.const (.bool false)), none⟩] [0, 1, 5, 6, 7, 8, 27])
    (.cond (.tmp 27)
     (.seq (.reg [
         ⟨(some 6), .mv (.const (.bool true)), none⟩] [0, 1, 5, 6, 7, 8])
     (.seq (.reg [
         ⟨(some 28), .mv (.tmp 8), none⟩,
         ⟨(some 29), .bin .gtr (.tmp 28) (.const (.int .i64 0)), none⟩] [0, 1, 5, 6, 7, 29])
     (.cond (.tmp 29)
      (.reg [
          ⟨(some 30), .mv (.tmp 5), none⟩,
          ⟨(some 31), .mv (.tmp 1), none⟩,
          ⟨(some 32), .bslice 22 1 1 [(.slice none 0 0)] [(0, (.tmp 31))], none⟩,
          ⟨(some 33), .app 22 1 24 (.tmp 30) (.tmp 32), none⟩,
          ⟨(some 5), .mv (.tmp 33), none⟩] [0, 1, 5, 6, 7])
      (.skip))))
     (.skip)))
    (.reg [
        ⟨(some 34), .mv (.tmp 5), none⟩,
        ⟨(some 35), .mv (.tmp 0), none⟩,
        ⟨(some 36), .mv (.tmp 7), none⟩,
        ⟨(some 37), .iaddr 1 (.tmp 35) (.tmp 36), none⟩,
        ⟨(some 38), .load 1 false (.tmp 37), none⟩,
        ⟨(some 39), .bslice 22 1 1 [(.slice none 0 0)] [(0, (.tmp 38))], none⟩,
        ⟨(some 40), .app 22 1 24 (.tmp 34) (.tmp 39), none⟩,
        ⟨(some 5), .mv (.tmp 40), none⟩] [0, 1, 5, 6, 7]))))
   (.reg [
       ⟨(some 14), .mv (.tmp 7), none⟩,
       ⟨(some 15), .bin .add (.tmp 14) (.const (.int .i64 1)), none⟩,
       ⟨(some 7), .mv (.tmp 15), none⟩] [0, 1, 5, 6, 7]))))))
 (.seq (.seq (.reg [
     ⟨(some 41), .mv (.tmp 6), none⟩,
     ⟨(some 42), .un .not (.tmp 41), none⟩] [1, 5, 42])
 (.cond (.tmp 42)
  (.reg [
      ⟨(some 43), .mv (.tmp 5), none⟩,
      ⟨(some 44), .mv (.tmp 1), none⟩,
      ⟨(some 45), .bslice 22 1 1 [(.slice none 0 0)] [(0, (.tmp 44))], none⟩,
      ⟨(some 46), .app 22 1 24 (.tmp 43) (.tmp 45), none⟩,
      ⟨(some 5), .mv (.tmp 46), none⟩] [5])
  (.skip)))
 (.seq (.reg [
     ⟨(some 47), .mv (.tmp 5), none⟩,
     ⟨(some 4), .mv (.tmp 47), none⟩] [4])
 (.ret))))))
theorem s_spec_l21PutList : stripF Tryz.prog 44 [[0, 1], [0, 1, 5], [0, 1, 5, 6], [0, 1, 5, 6, 7], [0, 1, 5, 6, 7], [0, 1, 5, 6, 7, 13], [0, 1, 5, 6, 7, 8], [0, 1, 5, 6, 7, 8, 27], [0, 1, 5, 6, 7, 8], [0, 1, 5, 6, 7, 29], [0, 1, 5, 6, 7], [0, 1, 5, 6, 7], [0, 1, 5, 6, 7], [1, 5, 42], [5], [4]] = some (c_spec_l21PutList, [.tmp 4], 48) := by kernel_rfl
theorem l21PutList_fn (xss : List (List Int)) (x : List Int) (hl : xss.length ≤ 2000000) : PFn Tryz.prog f_spec_l21PutList [ilSS xss, ilS x] (ilSS (insU cmpL x xss)) := by
  intro H; refine ACalls.introB s_spec_l21PutList (by simp) ?_; intro hB hA; unfold c_spec_l21PutList; simp (config := { maxSteps := 1000000 }) (disch := (first | omega | (simp only [go_sem]; try omega))) only [go_sem, Nat.reduceAdd, Nat.reduceEqDiff, Nat.reduceLeDiff, Nat.reduceMul, Nat.reduceLT, reduceIte, Int.reduceToNat, w64_id, cast_succ]
  repeat (first | (with_reducible first | refine SW.seq ?_ | refine SW.block ?_ | refine SW.rowC ?_ | refine SW.skip ?_ | refine SW.exit ?_ | intro _ | refine And.intro (by omega) ?_) | simp (config := { maxSteps := 1000000 }) (disch := (first | omega | (simp only [go_sem]; try omega))) only [go_sem, Nat.reduceAdd, Nat.reduceEqDiff, Nat.reduceLeDiff, Nat.reduceMul, Nat.reduceLT, reduceIte, Int.reduceToNat, w64_id, cast_succ])
  refine SW.loopE (fun E0 H0 q E' H' => ∃ (pre post L : List (List Int)) (ver : Nat) (done : Bool), xss = pre ++ post ∧ q = post.length ∧ E' = aput (aput (aput E0 7 (I pre.length)) 6 (Bv done)) 5 (.nm H.length ver 0 L.length) ∧ H' = H ++ [⟨ver, tyLL, 1, L.map ilS⟩] ∧
    (if done = true then L ++ post else L ++ insU cmpL x post) = insU cmpL x xss ∧ L.length ≤ pre.length + (if done = true then 1 else 0)) xss.length ⟨[], xss, [], 0, false, rfl, rfl, rfl, rfl, rfl, by simp⟩ ?_
  rintro q E' H' ⟨pre, post, L, ver, done, hp, rfl, rfl, rfl, hL, hLl⟩
  have hpl : pre.length ≤ 2000000 := by rw [hp] at hl; simp at hl; omega
  have htl : (L.map ilS).take L.length = L.map ilS := List.take_of_length_le (by simp)
  have htl1 : ∀ y, (L.map ilS ++ [ilS y]).take (L.length + 1) = L.map ilS ++ [ilS y] := fun y => List.take_of_length_le (by simp)
  have htl3 : ∀ y, (List.map ilS (L ++ [y])).take (L.length + 1) = List.map ilS (L ++ [y]) := fun y => List.take_of_length_le (by simp)
  have insc : ∀ (y : List Int) (r : List (List Int)), insU cmpL x (y :: r) = if cmpL y x ≥ 0 then (if cmpL y x > 0 then x :: y :: r else y :: r) else y :: insU cmpL x r := fun _ _ => rfl
  cases done
  · simp only [Bool.false_eq_true, if_false] at hL hLl
    simp (config := { maxSteps := 1000000 }) (disch := (first | omega | (simp only [go_sem]; try omega))) only [go_sem, Nat.reduceAdd, Nat.reduceEqDiff, Nat.reduceLeDiff, Nat.reduceMul, Nat.reduceLT, reduceIte, Int.reduceToNat, w64_id, cast_succ]
    repeat (first | (with_reducible first | refine SW.seq ?_ | refine SW.block ?_ | refine SW.rowC ?_ | refine SW.skip ?_ | refine SW.exit ?_ | intro _ | refine And.intro (by omega) ?_) | simp (config := { maxSteps := 1000000 }) (disch := (first | omega | (simp only [go_sem]; try omega))) only [go_sem, Nat.reduceAdd, Nat.reduceEqDiff, Nat.reduceLeDiff, Nat.reduceMul, Nat.reduceLT, reduceIte, Int.reduceToNat, w64_id, cast_succ])
    (first | refine SW.condD rfl (fun h => ?_) (fun h => ?_) | refine SW.condN rfl (fun h => ?_) (fun h => ?_) | refine SW.condNB rfl (fun h => ?_) (fun h => ?_) | refine SW.condB rfl (fun h => ?_) (fun h => ?_))
    · obtain ⟨y, post, rfl, hg, -⟩ := consOf (d := []) hp (by omega)
      rw [insc] at hL
      by_cases hc0 : 0 ≤ cmpL y x
      · rw [if_pos hc0] at hL
        have hd0 : decide (0 ≤ cmpL y x) = true := decide_eq_true hc0
        repeat (first | (with_reducible first | refine SW.seq ?_ | refine SW.block ?_ | refine SW.rowC ?_ | refine SW.skip ?_ | refine SW.exit ?_ | refine PFn.use (CompareLists_fn _ _) ?_ | refine PFn.useq (CompareLists_fn _ _) ?_ | intro _ | refine And.intro (by omega) ?_) | simp (config := { maxSteps := 1000000 }) (disch := (first | omega | (simp only [go_sem]; try omega))) only [go_sem, Nat.reduceAdd, Nat.reduceEqDiff, Nat.reduceLeDiff, Nat.reduceMul, Nat.reduceLT, reduceIte, Int.reduceToNat, w64_id, cast_succ, hg, hd0])
        refine SW.condT rfl ?_
        repeat (first | (with_reducible first | refine SW.seq ?_ | refine SW.block ?_ | refine SW.rowC ?_ | refine SW.skip ?_ | refine SW.exit ?_ | intro _ | refine And.intro (by omega) ?_) | simp (config := { maxSteps := 1000000 }) (disch := (first | omega | (simp only [go_sem]; try omega))) only [go_sem, Nat.reduceAdd, Nat.reduceEqDiff, Nat.reduceLeDiff, Nat.reduceMul, Nat.reduceLT, reduceIte, Int.reduceToNat, w64_id, cast_succ])
        by_cases hc1 : 0 < cmpL y x
        · rw [if_pos hc1] at hL
          have hd1 : decide (0 < cmpL y x) = true := decide_eq_true hc1
          repeat (first | (with_reducible first | refine SW.seq ?_ | refine SW.block ?_ | refine SW.rowC ?_ | refine SW.skip ?_ | refine SW.exit ?_ | intro _ | refine And.intro (by omega) ?_) | simp (config := { maxSteps := 1000000 }) (disch := (first | omega | (simp only [go_sem]; try omega))) only [go_sem, Nat.reduceAdd, Nat.reduceEqDiff, Nat.reduceLeDiff, Nat.reduceMul, Nat.reduceLT, reduceIte, Int.reduceToNat, w64_id, cast_succ, hd1])
          refine SW.condT rfl ?_
          repeat (first | (with_reducible first | refine SW.seq ?_ | refine SW.block ?_ | refine SW.rowC ?_ | refine SW.skip ?_ | refine SW.exit ?_ | intro _ | refine And.intro (by omega) ?_) | simp (config := { maxSteps := 1000000 }) (disch := (first | omega | (simp only [go_sem]; try omega))) only [go_sem, Nat.reduceAdd, Nat.reduceEqDiff, Nat.reduceLeDiff, Nat.reduceMul, Nat.reduceLT, reduceIte, Int.reduceToNat, w64_id, cast_succ, hg, htl, htl1, htl3])
          have htl2 : (L.map ilS ++ [ilS x, ilS y]).take (L.length + 2) = L.map ilS ++ [ilS x, ilS y] := List.take_of_length_le (by simp)
          refine SLoop.nextT 1 post.length hB (by omega) (by simp) (by simp) ?_ ?_ ⟨pre ++ [y], post, L ++ [x, y], ver + 1 + 1, true, by simp [hp], rfl, ?_, ?_, ?_, ?_⟩
          · (simp only [go_sem, Nat.reduceAdd, Nat.reduceEqDiff, reduceIte, go_sem, and_self, and_true, true_and, implies_true, List.take_succ_cons, List.take_zero, and_true, true_and]; try omega)
          · (simp only [go_sem, Nat.reduceAdd, Nat.reduceEqDiff, reduceIte, go_sem, and_self, and_true, true_and, implies_true, List.take_succ_cons, List.take_zero, and_true, true_and]; try omega)
          · simp [go_sem]
          · simp
          · simpa using hL
          · simp; omega
        · rw [if_neg hc1] at hL
          have hd1 : decide (0 < cmpL y x) = false := decide_eq_false hc1
          repeat (first | (with_reducible first | refine SW.seq ?_ | refine SW.block ?_ | refine SW.rowC ?_ | refine SW.skip ?_ | refine SW.exit ?_ | intro _ | refine And.intro (by omega) ?_) | simp (config := { maxSteps := 1000000 }) (disch := (first | omega | (simp only [go_sem]; try omega))) only [go_sem, Nat.reduceAdd, Nat.reduceEqDiff, Nat.reduceLeDiff, Nat.reduceMul, Nat.reduceLT, reduceIte, Int.reduceToNat, w64_id, cast_succ, hd1])
          refine SW.condF rfl ?_
          repeat (first | (with_reducible first | refine SW.seq ?_ | refine SW.block ?_ | refine SW.rowC ?_ | refine SW.skip ?_ | refine SW.exit ?_ | intro _ | refine And.intro (by omega) ?_) | simp (config := { maxSteps := 1000000 }) (disch := (first | omega | (simp only [go_sem]; try omega))) only [go_sem, Nat.reduceAdd, Nat.reduceEqDiff, Nat.reduceLeDiff, Nat.reduceMul, Nat.reduceLT, reduceIte, Int.reduceToNat, w64_id, cast_succ, hg, htl, htl1, htl3])
          refine SLoop.nextT 1 post.length hB (by omega) (by simp) (by simp) ?_ ?_ ⟨pre ++ [y], post, L ++ [y], ver + 1, true, by simp [hp], rfl, ?_, ?_, ?_, ?_⟩
          · (simp only [go_sem, Nat.reduceAdd, Nat.reduceEqDiff, reduceIte, go_sem, and_self, and_true, true_and, implies_true, List.take_succ_cons, List.take_zero, and_true, true_and]; try omega)
          · (simp only [go_sem, Nat.reduceAdd, Nat.reduceEqDiff, reduceIte, go_sem, and_self, and_true, true_and, implies_true, List.take_succ_cons, List.take_zero, and_true, true_and]; try omega)
          · simp [go_sem]
          · simp
          · simpa using hL
          · simp; omega
      · rw [if_neg hc0] at hL
        have hd0 : decide (0 ≤ cmpL y x) = false := decide_eq_false hc0
        repeat (first | (with_reducible first | refine SW.seq ?_ | refine SW.block ?_ | refine SW.rowC ?_ | refine SW.skip ?_ | refine SW.exit ?_ | refine PFn.use (CompareLists_fn _ _) ?_ | refine PFn.useq (CompareLists_fn _ _) ?_ | intro _ | refine And.intro (by omega) ?_) | simp (config := { maxSteps := 1000000 }) (disch := (first | omega | (simp only [go_sem]; try omega))) only [go_sem, Nat.reduceAdd, Nat.reduceEqDiff, Nat.reduceLeDiff, Nat.reduceMul, Nat.reduceLT, reduceIte, Int.reduceToNat, w64_id, cast_succ, hg, hd0])
        refine SW.condF rfl ?_
        repeat (first | (with_reducible first | refine SW.seq ?_ | refine SW.block ?_ | refine SW.rowC ?_ | refine SW.skip ?_ | refine SW.exit ?_ | intro _ | refine And.intro (by omega) ?_) | simp (config := { maxSteps := 1000000 }) (disch := (first | omega | (simp only [go_sem]; try omega))) only [go_sem, Nat.reduceAdd, Nat.reduceEqDiff, Nat.reduceLeDiff, Nat.reduceMul, Nat.reduceLT, reduceIte, Int.reduceToNat, w64_id, cast_succ, hg, htl, htl1, htl3])
        refine SLoop.nextT 1 post.length hB (by omega) (by simp) (by simp) ?_ ?_ ⟨pre ++ [y], post, L ++ [y], ver + 1, false, by simp [hp], rfl, ?_, ?_, ?_, ?_⟩
        · (simp only [go_sem, Nat.reduceAdd, Nat.reduceEqDiff, reduceIte, go_sem, and_self, and_true, true_and, implies_true, List.take_succ_cons, List.take_zero, and_true, true_and]; try omega)
        · (simp only [go_sem, Nat.reduceAdd, Nat.reduceEqDiff, reduceIte, go_sem, and_self, and_true, true_and, implies_true, List.take_succ_cons, List.take_zero, and_true, true_and]; try omega)
        · simp [go_sem]
        · simp
        · simpa using hL
        · simp; omega
    · obtain ⟨rfl, rfl⟩ := nilOf hp (by omega)
      repeat (first | (with_reducible first | refine SW.seq ?_ | refine SW.block ?_ | refine SW.rowC ?_ | refine SW.skip ?_ | refine SW.exit ?_ | intro _ | refine And.intro (by omega) ?_) | simp (config := { maxSteps := 1000000 }) (disch := (first | omega | (simp only [go_sem]; try omega))) only [go_sem, Nat.reduceAdd, Nat.reduceEqDiff, Nat.reduceLeDiff, Nat.reduceMul, Nat.reduceLT, reduceIte, Int.reduceToNat, w64_id, cast_succ, htl])
      refine SW.condT rfl ?_
      repeat (first | (with_reducible first | refine SW.seq ?_ | refine SW.block ?_ | refine SW.rowC ?_ | refine SW.skip ?_ | refine SW.exit ?_ | intro _ | refine And.intro (by omega) ?_) | simp (config := { maxSteps := 1000000 }) (disch := (first | omega | (simp only [go_sem]; try omega))) only [go_sem, Nat.reduceAdd, Nat.reduceEqDiff, Nat.reduceLeDiff, Nat.reduceMul, Nat.reduceLT, reduceIte, Int.reduceToNat, w64_id, cast_succ, htl])
      refine SW.ret ?_; (try simp only [go_sem]); (first | refine FunPost.one ?_ | refine FunPost.two ?_ | refine FunPost.three ?_); (try simp (config := { maxSteps := 1000000 }) (disch := (first | omega | (simp only [go_sem]; try omega))) only [go_sem, Nat.reduceAdd, Nat.reduceEqDiff, Nat.reduceLeDiff, Nat.reduceMul, Nat.reduceLT, reduceIte, Int.reduceToNat, w64_id, cast_succ])
      refine GR.froz (r' := ilSS (insU cmpL x pre)) ?_ ⟨rfl, rfl⟩
      rw [← hL]
      have e := froz_rowS (H := H ++ [⟨ver + 1, tyLL, 1, (L ++ [x]).map ilS⟩, ⟨0, tyLL, 1, [ilS x]⟩]) (b := H.length) (r := H.length) (ver := ver + 1) (ty := tyLL) (xs := L ++ [x]) (Nat.le_refl _) (by simp)
      rw [List.length_append] at e
      exact e
  · simp only [if_true] at hL hLl
    simp (config := { maxSteps := 1000000 }) (disch := (first | omega | (simp only [go_sem]; try omega))) only [go_sem, Nat.reduceAdd, Nat.reduceEqDiff, Nat.reduceLeDiff, Nat.reduceMul, Nat.reduceLT, reduceIte, Int.reduceToNat, w64_id, cast_succ]
    repeat (first | (with_reducible first | refine SW.seq ?_ | refine SW.block ?_ | refine SW.rowC ?_ | refine SW.skip ?_ | refine SW.exit ?_ | intro _ | refine And.intro (by omega) ?_) | simp (config := { maxSteps := 1000000 }) (disch := (first | omega | (simp only [go_sem]; try omega))) only [go_sem, Nat.reduceAdd, Nat.reduceEqDiff, Nat.reduceLeDiff, Nat.reduceMul, Nat.reduceLT, reduceIte, Int.reduceToNat, w64_id, cast_succ])
    (first | refine SW.condD rfl (fun h => ?_) (fun h => ?_) | refine SW.condN rfl (fun h => ?_) (fun h => ?_) | refine SW.condNB rfl (fun h => ?_) (fun h => ?_) | refine SW.condB rfl (fun h => ?_) (fun h => ?_))
    · obtain ⟨y, post, rfl, hg, -⟩ := consOf (d := []) hp (by omega)
      repeat (first | (with_reducible first | refine SW.seq ?_ | refine SW.block ?_ | refine SW.rowC ?_ | refine SW.skip ?_ | refine SW.exit ?_ | refine PFn.use (CompareLists_fn _ _) ?_ | refine PFn.useq (CompareLists_fn _ _) ?_ | intro _ | refine And.intro (by omega) ?_) | simp (config := { maxSteps := 1000000 }) (disch := (first | omega | (simp only [go_sem]; try omega))) only [go_sem, Nat.reduceAdd, Nat.reduceEqDiff, Nat.reduceLeDiff, Nat.reduceMul, Nat.reduceLT, reduceIte, Int.reduceToNat, w64_id, cast_succ, hg])
      refine SW.condF rfl ?_
      repeat (first | (with_reducible first | refine SW.seq ?_ | refine SW.block ?_ | refine SW.rowC ?_ | refine SW.skip ?_ | refine SW.exit ?_ | intro _ | refine And.intro (by omega) ?_) | simp (config := { maxSteps := 1000000 }) (disch := (first | omega | (simp only [go_sem]; try omega))) only [go_sem, Nat.reduceAdd, Nat.reduceEqDiff, Nat.reduceLeDiff, Nat.reduceMul, Nat.reduceLT, reduceIte, Int.reduceToNat, w64_id, cast_succ, hg, htl, htl1, htl3])
      refine SLoop.nextT 1 post.length hB (by omega) (by simp) (by simp) ?_ ?_ ⟨pre ++ [y], post, L ++ [y], ver + 1, true, by simp [hp], rfl, ?_, ?_, ?_, ?_⟩
      · (simp only [go_sem, Nat.reduceAdd, Nat.reduceEqDiff, reduceIte, go_sem, and_self, and_true, true_and, implies_true, List.take_succ_cons, List.take_zero, and_true, true_and]; try omega)
      · (simp only [go_sem, Nat.reduceAdd, Nat.reduceEqDiff, reduceIte, go_sem, and_self, and_true, true_and, implies_true, List.take_succ_cons, List.take_zero, and_true, true_and]; try omega)
      · simp [go_sem]
      · simp
      · simpa using hL
      · simp; omega
    · obtain ⟨rfl, rfl⟩ := nilOf hp (by omega)
      repeat (first | (with_reducible first | refine SW.seq ?_ | refine SW.block ?_ | refine SW.rowC ?_ | refine SW.skip ?_ | refine SW.exit ?_ | intro _ | refine And.intro (by omega) ?_) | simp (config := { maxSteps := 1000000 }) (disch := (first | omega | (simp only [go_sem]; try omega))) only [go_sem, Nat.reduceAdd, Nat.reduceEqDiff, Nat.reduceLeDiff, Nat.reduceMul, Nat.reduceLT, reduceIte, Int.reduceToNat, w64_id, cast_succ, htl])
      refine SW.condF rfl ?_
      repeat (first | (with_reducible first | refine SW.seq ?_ | refine SW.block ?_ | refine SW.rowC ?_ | refine SW.skip ?_ | refine SW.exit ?_ | intro _ | refine And.intro (by omega) ?_) | simp (config := { maxSteps := 1000000 }) (disch := (first | omega | (simp only [go_sem]; try omega))) only [go_sem, Nat.reduceAdd, Nat.reduceEqDiff, Nat.reduceLeDiff, Nat.reduceMul, Nat.reduceLT, reduceIte, Int.reduceToNat, w64_id, cast_succ, htl])
      refine SW.ret ?_; (try simp only [go_sem]); (first | refine FunPost.one ?_ | refine FunPost.two ?_ | refine FunPost.three ?_); (try simp (config := { maxSteps := 1000000 }) (disch := (first | omega | (simp only [go_sem]; try omega))) only [go_sem, Nat.reduceAdd, Nat.reduceEqDiff, Nat.reduceLeDiff, Nat.reduceMul, Nat.reduceLT, reduceIte, Int.reduceToNat, w64_id, cast_succ])
      refine GR.froz (r' := ilSS (insU cmpL x pre)) ?_ ⟨rfl, rfl⟩
      rw [← hL, List.append_nil]
      exact froz_rowS (ver := ver) (ty := tyLL) (Nat.le_refl _) (by simp)
end Go.Proofs.YtmdeibdplpodpaaGreat
