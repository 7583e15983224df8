/- Systems that are drawn. -/
import Derived.Test.YtogapbapbmhdfaaProg
import Derived.KernelRfl
import Derived.Test.YtogapbapbmhdfaazSR
import Derived.Test.YtogapbapbmhdfaazK62
import Derived.Test.YtogapbapbmhdfaazK64
import Derived.Test.YtogapbapbmhdfaazY0
set_option linter.unusedSimpArgs false
set_option linter.unusedVariables false
set_option maxHeartbeats 4000000
set_option maxRecDepth 100000
namespace Go.Av
theorem GR.frozH {H0 H1 ext : List Blk} {R : AV → List Blk → Prop} {r r' : AV} (hl : H1.length = H0.length) (hB : HB H1) (hf : Froz (H1 ++ ext) H0.length r r') (h : R r' H1) : GR H0 R r (H1 ++ ext) := by
  intro B W0 F0 m0 w0 F m w v hs0 hF hm hr hs
  have h1 := froz_rel hs hf hr
  have h2 := hs.take (k := H1.length) (by rw [List.take_left]; exact hB)
  rw [List.take_left] at h2
  have hF' : FLe F (fun b o v => F b o v ∨ ((∃ i e, H0.length ≤ i ∧ m[i]? = some e ∧ e.blk = some b) ∧ w.cell? ⟨b, o, none⟩ = some v)) := fun b o v h => .inl h
  rw [hl] at h2
  refine ⟨_, m.take H0.length, r', H1, hF.trans hF', hm.take (by rw [hs0.len]; exact Nat.le_refl _), h1, ?_, h⟩
  have sub : ∀ {i : Nat} {e : Ent}, (m.take H0.length)[i]? = some e → i < H0.length ∧ m[i]? = some e := by
    intro i e he
    rw [List.getElem?_take] at he
    split at he
    · exact ⟨by assumption, he⟩
    · simp at he
  refine ⟨h2.len, h2.below, h2.base, ?_, ?_, h2.dist, ?_⟩
  · intro b o u hu
    rcases hu with hu | ⟨⟨i, e, hi, he, hb⟩, hc⟩
    · exact h2.fz b o u hu
    · obtain ⟨k, hk, hok⟩ := hs.getm he
      exact ⟨hc, hok.one hb hc⟩
  · intro i e b o u he hb hu
    obtain ⟨hlt, he'⟩ := sub he
    rcases hu with hu | ⟨⟨j, e', hj, hje, hjb⟩, _⟩
    · exact h2.apart i e b o u he hb hu
    · have := hs.dist i j e e' b he' hje hb hjb
      omega
  · intro i e k he hk
    exact (h2.blk i e k he hk).mono hF' (MLe.refl _) (fun _ _ => rfl)
end Go.Av
namespace Go.Proofs.Ytogapbapbmhdfaa
open Go.Av
abbrev f_spec_l27Draw : Nat := 36
def c_spec_l27Draw : SC :=
 .seq (.reg [
     ⟨(some 2), .mv (.const (.int .i64 0)), none⟩,
     ⟨(some 3), .mv (.const (.slice none 0 0)), none⟩] [0])
 (.seq (.reg [
     ⟨(some 9), .mv (.tmp 0), none⟩,
     ⟨(some 10), .call 61 [(.tmp 9), (.const (.int .i64 5))], none⟩,
     ⟨(some 11), .bin .add (.tmp 10) (.const (.int .i64 1)), none⟩,
     ⟨(some 4), .mv (.tmp 11), none⟩] [0, 4])
 (.seq (.seq (.reg [
     ⟨(some 12), .mv (.tmp 0), none⟩,
     ⟨(some 13), .call 62 [(.tmp 12), (.const (.int .i64 12))], none⟩] [0, 4, 13])
 (.cond (.tmp 13)
  (.reg [
      ⟨(some 4), .mv (.const (.int .i64 6)), none⟩] [0, 4])
  (.skip)))
 (.seq (.reg [
     ⟨(some 14), .bslice 33 1 0 [] [], none⟩,
     ⟨(some 5), .mv (.tmp 14), none⟩] [0, 4, 5])
 (.seq (.seq (.reg [
     ⟨(some 15), .mv (.tmp 0), none⟩,
     ⟨(some 16), .call 61 [(.tmp 15), (.const (.int .i64 5))], none⟩,
     ⟨(some 6), .mv (.tmp 16), none⟩] [0, 4, 5, 6])
 (.block 0 (.loop [0, 4, 5, 6]
   (.seq (.seq (.reg [
       ⟨(some 17), .mv (.tmp 6), none⟩,
       ⟨(some 18), .bin .gtr (.tmp 17) (.const (.int .i64 0)), none⟩] [0, 4, 5, 6, 18])
   (.cond (.tmp 18)
    (.skip)
    (.exit 0)))
   (.seq (.block 1 (.seq (.reg [
        ⟨(some 21), .mv (.tmp 0), none⟩,
        ⟨(some 22), .mv (.tmp 4), none⟩,
        ⟨(some 23), .call 61 [(.tmp 21), (.tmp 22)], none⟩,
        ⟨(some 24), .bslice 2 1 1 [(.int .i64 0)] [(0, (.tmp 23))], none⟩,
        ⟨(some 7), .mv (.tmp 24), none⟩] [0, 4, 5, 6, 7])
    (.seq (.seq (.reg [
        ⟨(some 25), .mv (.tmp 0), none⟩,
        ⟨(some 26), .call 61 [(.tmp 25), (.const (.int .i64 3))], none⟩,
        ⟨(some 8), .mv (.tmp 26), none⟩] [0, 4, 5, 6, 7, 8])
    (.block 2 (.loop [0, 4, 5, 6, 7, 8]
      (.seq (.seq (.reg [
          ⟨(some 27), .mv (.tmp 8), none⟩,
          ⟨(some 28), .bin .gtr (.tmp 27) (.const (.int .i64 0)), none⟩] [0, 4, 5, 6, 7, 8, 28])
      (.cond (.tmp 28)
       (.skip)
       (.exit 2)))
      (.seq (.block 3 (.reg [
           ⟨(some 31), .mv (.tmp 7), none⟩,
           ⟨(some 32), .mv (.tmp 0), none⟩,
           ⟨(some 33), .mv (.tmp 4), none⟩,
           ⟨(some 34), .call 61 [(.tmp 32), (.tmp 33)], none⟩,
           ⟨(some 35), .call 79 [(.tmp 31), (.tmp 34)], none⟩,
           ⟨(some 7), .mv (.tmp 35), none⟩] [0, 4, 5, 6, 7, 8]))
      (.reg [
          ⟨(some 29), .mv (.tmp 8), none⟩,
          ⟨(some 30), .bin .sub (.tmp 29) (.const (.int .i64 1)), none⟩,
          ⟨(some 8), .mv (.tmp 30), none⟩] [0, 4, 5, 6, 7, 8]))))))
    (.reg [
        ⟨(some 36), .mv (.tmp 5), none⟩,
        ⟨(some 37), .mv (.tmp 7), none⟩,
        ⟨(some 38), .call 80 [(.tmp 36), (.tmp 37)], none⟩,
        ⟨(some 5), .mv (.tmp 38), none⟩] [0, 4, 5, 6]))))
   (.reg [
       ⟨(some 19), .mv (.tmp 6), none⟩,
       ⟨(some 20), .bin .sub (.tmp 19) (.const (.int .i64 1)), none⟩,
       ⟨(some 6), .mv (.tmp 20), none⟩] [0, 4, 5, 6]))))))
 (.seq (.seq (.reg [
     ⟨(some 39), .mv (.tmp 0), none⟩,
     ⟨(some 40), .call 61 [(.tmp 39), (.const (.int .i64 12))], none⟩] [0, 4, 5, 40])
 (.block 4 (.seq (.reg [
      ⟨(some 42), .bin .eql (.tmp 40) (.const (.int .i64 0)), none⟩,
      ⟨(some 41), .mv (.tmp 42), none⟩] [0, 4, 5, 40, 41])
  (.cond (.tmp 41)
   (.reg [
       ⟨(some 43), .mv (.tmp 5), none⟩,
       ⟨(some 44), .bslice 2 1 0 [] [], none⟩,
       ⟨(some 45), .bslice 33 1 1 [(.slice none 0 0)] [(0, (.tmp 44))], none⟩,
       ⟨(some 46), .app 33 1 24 (.tmp 43) (.tmp 45), none⟩,
       ⟨(some 5), .mv (.tmp 46), none⟩] [4, 5])
   (.seq (.reg [
       ⟨(some 48), .bin .eql (.tmp 40) (.const (.int .i64 1)), none⟩,
       ⟨(some 47), .mv (.tmp 48), none⟩] [0, 4, 5, 40, 47])
   (.cond (.tmp 47)
    (.seq (.reg [
        ⟨(some 49), .mv (.tmp 0), none⟩,
        ⟨(some 50), .mv (.tmp 4), none⟩,
        ⟨(some 51), .bin .sub (.tmp 50) (.const (.int .i64 1)), none⟩,
        ⟨(some 52), .bslice 2 1 3 [(.int .i64 0), (.int .i64 0), (.int .i64 0)] [(0, (.const (.int .i64 0))), (1, (.const (.int .i64 7))), (2, (.tmp 51))], none⟩,
        ⟨(some 53), .call 63 [(.tmp 49), (.tmp 52)], none⟩,
        ⟨(some 54), .mv (.tmp 5), none⟩,
        ⟨(some 2), .mv (.tmp 53), none⟩,
        ⟨(some 3), .mv (.tmp 54), none⟩] [2, 3])
    (.ret))
    (.seq (.reg [
        ⟨(some 56), .bin .eql (.tmp 40) (.const (.int .i64 2)), none⟩,
        ⟨(some 55), .mv (.tmp 56), none⟩] [4, 5, 55])
    (.cond (.tmp 55)
     (.reg [
         ⟨(some 57), .mv (.tmp 5), none⟩,
         ⟨(some 58), .mv (.tmp 4), none⟩,
         ⟨(some 59), .bslice 2 1 1 [(.int .i64 0)] [(0, (.tmp 58))], none⟩,
         ⟨(some 60), .bslice 33 1 1 [(.slice none 0 0)] [(0, (.tmp 59))], none⟩,
         ⟨(some 61), .app 33 1 24 (.tmp 57) (.tmp 60), none⟩,
         ⟨(some 5), .mv (.tmp 61), none⟩] [4, 5])
     (.skip)))))))))
 (.seq (.reg [
     ⟨(some 62), .mv (.tmp 4), none⟩,
     ⟨(some 63), .mv (.tmp 5), none⟩,
     ⟨(some 2), .mv (.tmp 62), none⟩,
     ⟨(some 3), .mv (.tmp 63), none⟩] [2, 3])
 (.ret)))))))
theorem s_spec_l27Draw : stripF Try.prog 36 [[0], [0, 4], [0, 4, 13], [0, 4], [0, 4, 5], [0, 4, 5, 6], [0, 4, 5, 6], [0, 4, 5, 6, 18], [0, 4, 5, 6, 7], [0, 4, 5, 6, 7, 8], [0, 4, 5, 6, 7, 8], [0, 4, 5, 6, 7, 8, 28], [0, 4, 5, 6, 7, 8], [0, 4, 5, 6, 7, 8], [0, 4, 5, 6], [0, 4, 5, 6], [0, 4, 5, 40], [0, 4, 5, 40, 41], [4, 5], [0, 4, 5, 40, 47], [2, 3], [4, 5, 55], [4, 5], [2, 3]] = some (c_spec_l27Draw, [.tmp 2, .tmp 3], 64) := by kernel_rfl
def NewR (P : Program) (f : FuncId) (args : List AV) (xss : List (List Int)) : Prop :=
  ∀ H, ACalls P f args H fun r H' => ∃ ext i ver, H' = H ++ ext ∧ r = .nm i ver 0 xss.length ∧ H.length ≤ i ∧ H'[i]? = some ⟨ver, tyLL, 1, xss.map ilS⟩
theorem l21PutList_new (xss : List (List Int)) (x : List Int) (hl : xss.length ≤ 2000000) : NewR Try.prog f_spec_l21PutList [ilSS xss, ilS x] (insU cmpL x xss) := by
  intro H
  refine ACalls.introB s_spec_l21PutList (by simp) ?_; intro hB hA; unfold c_spec_l21PutList; simp (config := { maxSteps := 1000000 }) (disch := (first | omega | (simp only [go_sem]; try omega))) only [go_sem, Nat.reduceAdd, Nat.reduceEqDiff, Nat.reduceLeDiff, Nat.reduceMul, Nat.reduceLT, reduceIte, Int.reduceToNat, w64_id, cast_succ]
  repeat (first | (with_reducible first | refine SW.seq ?_ | refine SW.block ?_ | refine SW.rowC ?_ | refine SW.skip ?_ | refine SW.exit ?_ | intro _ | refine And.intro (by omega) ?_) | simp (config := { maxSteps := 1000000 }) (disch := (first | omega | (simp only [go_sem]; try omega))) only [go_sem, Nat.reduceAdd, Nat.reduceEqDiff, Nat.reduceLeDiff, Nat.reduceMul, Nat.reduceLT, reduceIte, Int.reduceToNat, w64_id, cast_succ])
  refine SW.loopE (fun E0 H0 q E' H' => ∃ (pre post L : List (List Int)) (ver : Nat) (done : Bool), xss = pre ++ post ∧ q = post.length ∧ E' = aput (aput (aput E0 7 (I pre.length)) 6 (Bv done)) 5 (.nm H.length ver 0 L.length) ∧ H' = H ++ [⟨ver, tyLL, 1, L.map ilS⟩] ∧
    (if done = true then L ++ post else L ++ insU cmpL x post) = insU cmpL x xss ∧ L.length ≤ pre.length + (if done = true then 1 else 0)) xss.length ⟨[], xss, [], 0, false, rfl, rfl, rfl, rfl, rfl, by simp⟩ ?_
  rintro q E' H' ⟨pre, post, L, ver, done, hp, rfl, rfl, rfl, hL, hLl⟩
  have hpl : pre.length ≤ 2000000 := by rw [hp] at hl; simp at hl; omega
  have htl : (L.map ilS).take L.length = L.map ilS := List.take_of_length_le (by simp)
  have htl1 : ∀ y, (L.map ilS ++ [ilS y]).take (L.length + 1) = L.map ilS ++ [ilS y] := fun y => List.take_of_length_le (by simp)
  have htl3 : ∀ y, (List.map ilS (L ++ [y])).take (L.length + 1) = List.map ilS (L ++ [y]) := fun y => List.take_of_length_le (by simp)
  have insc : ∀ (y : List Int) (r : List (List Int)), insU cmpL x (y :: r) = if cmpL y x ≥ 0 then (if cmpL y x > 0 then x :: y :: r else y :: r) else y :: insU cmpL x r := fun _ _ => rfl
  cases done
  · simp only [Bool.false_eq_true, if_false] at hL hLl
    simp (config := { maxSteps := 1000000 }) (disch := (first | omega | (simp only [go_sem]; try omega))) only [go_sem, Nat.reduceAdd, Nat.reduceEqDiff, Nat.reduceLeDiff, Nat.reduceMul, Nat.reduceLT, reduceIte, Int.reduceToNat, w64_id, cast_succ]
    repeat (first | (with_reducible first | refine SW.seq ?_ | refine SW.block ?_ | refine SW.rowC ?_ | refine SW.skip ?_ | refine SW.exit ?_ | intro _ | refine And.intro (by omega) ?_) | simp (config := { maxSteps := 1000000 }) (disch := (first | omega | (simp only [go_sem]; try omega))) only [go_sem, Nat.reduceAdd, Nat.reduceEqDiff, Nat.reduceLeDiff, Nat.reduceMul, Nat.reduceLT, reduceIte, Int.reduceToNat, w64_id, cast_succ])
    (first | refine SW.condD rfl (fun h => ?_) (fun h => ?_) | refine SW.condN rfl (fun h => ?_) (fun h => ?_) | refine SW.condNB rfl (fun h => ?_) (fun h => ?_) | refine SW.condB rfl (fun h => ?_) (fun h => ?_))
    · obtain ⟨y, post, rfl, hg, -⟩ := consOf (d := []) hp (by omega)
      rw [insc] at hL
      by_cases hc0 : 0 ≤ cmpL y x
      · rw [if_pos hc0] at hL
        have hd0 : decide (0 ≤ cmpL y x) = true := decide_eq_true hc0
        repeat (first | (with_reducible first | refine SW.seq ?_ | refine SW.block ?_ | refine SW.rowC ?_ | refine SW.skip ?_ | refine SW.exit ?_ | refine PFn.use (CompareLists_fn _ _) ?_ | refine PFn.useq (CompareLists_fn _ _) ?_ | intro _ | refine And.intro (by omega) ?_) | simp (config := { maxSteps := 1000000 }) (disch := (first | omega | (simp only [go_sem]; try omega))) only [go_sem, Nat.reduceAdd, Nat.reduceEqDiff, Nat.reduceLeDiff, Nat.reduceMul, Nat.reduceLT, reduceIte, Int.reduceToNat, w64_id, cast_succ, hg, hd0])
        refine SW.condT rfl ?_
        repeat (first | (with_reducible first | refine SW.seq ?_ | refine SW.block ?_ | refine SW.rowC ?_ | refine SW.skip ?_ | refine SW.exit ?_ | intro _ | refine And.intro (by omega) ?_) | simp (config := { maxSteps := 1000000 }) (disch := (first | omega | (simp only [go_sem]; try omega))) only [go_sem, Nat.reduceAdd, Nat.reduceEqDiff, Nat.reduceLeDiff, Nat.reduceMul, Nat.reduceLT, reduceIte, Int.reduceToNat, w64_id, cast_succ])
        by_cases hc1 : 0 < cmpL y x
        · rw [if_pos hc1] at hL
          have hd1 : decide (0 < cmpL y x) = true := decide_eq_true hc1
          repeat (first | (with_reducible first | refine SW.seq ?_ | refine SW.block ?_ | refine SW.rowC ?_ | refine SW.skip ?_ | refine SW.exit ?_ | intro _ | refine And.intro (by omega) ?_) | simp (config := { maxSteps := 1000000 }) (disch := (first | omega | (simp only [go_sem]; try omega))) only [go_sem, Nat.reduceAdd, Nat.reduceEqDiff, Nat.reduceLeDiff, Nat.reduceMul, Nat.reduceLT, reduceIte, Int.reduceToNat, w64_id, cast_succ, hd1])
          refine SW.condT rfl ?_
          repeat (first | (with_reducible first | refine SW.seq ?_ | refine SW.block ?_ | refine SW.rowC ?_ | refine SW.skip ?_ | refine SW.exit ?_ | intro _ | refine And.intro (by omega) ?_) | simp (config := { maxSteps := 1000000 }) (disch := (first | omega | (simp only [go_sem]; try omega))) only [go_sem, Nat.reduceAdd, Nat.reduceEqDiff, Nat.reduceLeDiff, Nat.reduceMul, Nat.reduceLT, reduceIte, Int.reduceToNat, w64_id, cast_succ, hg, htl, htl1, htl3])
          have htl2 : (L.map ilS ++ [ilS x, ilS y]).take (L.length + 2) = L.map ilS ++ [ilS x, ilS y] := List.take_of_length_le (by simp)
          refine SLoop.nextT 1 post.length hB (by omega) (by simp) (by simp) ?_ ?_ ⟨pre ++ [y], post, L ++ [x, y], ver + 1 + 1, true, by simp [hp], rfl, ?_, ?_, ?_, ?_⟩
          · (simp only [go_sem, Nat.reduceAdd, Nat.reduceEqDiff, reduceIte, go_sem, and_self, and_true, true_and, implies_true, List.take_succ_cons, List.take_zero, and_true, true_and]; try omega)
          · (simp only [go_sem, Nat.reduceAdd, Nat.reduceEqDiff, reduceIte, go_sem, and_self, and_true, true_and, implies_true, List.take_succ_cons, List.take_zero, and_true, true_and]; try omega)
          · simp [go_sem]
          · simp
          · simpa using hL
          · simp; omega
        · rw [if_neg hc1] at hL
          have hd1 : decide (0 < cmpL y x) = false := decide_eq_false hc1
          repeat (first | (with_reducible first | refine SW.seq ?_ | refine SW.block ?_ | refine SW.rowC ?_ | refine SW.skip ?_ | refine SW.exit ?_ | intro _ | refine And.intro (by omega) ?_) | simp (config := { maxSteps := 1000000 }) (disch := (first | omega | (simp only [go_sem]; try omega))) only [go_sem, Nat.reduceAdd, Nat.reduceEqDiff, Nat.reduceLeDiff, Nat.reduceMul, Nat.reduceLT, reduceIte, Int.reduceToNat, w64_id, cast_succ, hd1])
          refine SW.condF rfl ?_
          repeat (first | (with_reducible first | refine SW.seq ?_ | refine SW.block ?_ | refine SW.rowC ?_ | refine SW.skip ?_ | refine SW.exit ?_ | intro _ | refine And.intro (by omega) ?_) | simp (config := { maxSteps := 1000000 }) (disch := (first | omega | (simp only [go_sem]; try omega))) only [go_sem, Nat.reduceAdd, Nat.reduceEqDiff, Nat.reduceLeDiff, Nat.reduceMul, Nat.reduceLT, reduceIte, Int.reduceToNat, w64_id, cast_succ, hg, htl, htl1, htl3])
          refine SLoop.nextT 1 post.length hB (by omega) (by simp) (by simp) ?_ ?_ ⟨pre ++ [y], post, L ++ [y], ver + 1, true, by simp [hp], rfl, ?_, ?_, ?_, ?_⟩
          · (simp only [go_sem, Nat.reduceAdd, Nat.reduceEqDiff, reduceIte, go_sem, and_self, and_true, true_and, implies_true, List.take_succ_cons, List.take_zero, and_true, true_and]; try omega)
          · (simp only [go_sem, Nat.reduceAdd, Nat.reduceEqDiff, reduceIte, go_sem, and_self, and_true, true_and, implies_true, List.take_succ_cons, List.take_zero, and_true, true_and]; try omega)
          · simp [go_sem]
          · simp
          · simpa using hL
          · simp; omega
      · rw [if_neg hc0] at hL
        have hd0 : decide (0 ≤ cmpL y x) = false := decide_eq_false hc0
        repeat (first | (with_reducible first | refine SW.seq ?_ | refine SW.block ?_ | refine SW.rowC ?_ | refine SW.skip ?_ | refine SW.exit ?_ | refine PFn.use (CompareLists_fn _ _) ?_ | refine PFn.useq (CompareLists_fn _ _) ?_ | intro _ | refine And.intro (by omega) ?_) | simp (config := { maxSteps := 1000000 }) (disch := (first | omega | (simp only [go_sem]; try omega))) only [go_sem, Nat.reduceAdd, Nat.reduceEqDiff, Nat.reduceLeDiff, Nat.reduceMul, Nat.reduceLT, reduceIte, Int.reduceToNat, w64_id, cast_succ, hg, hd0])
        refine SW.condF rfl ?_
        repeat (first | (with_reducible first | refine SW.seq ?_ | refine SW.block ?_ | refine SW.rowC ?_ | refine SW.skip ?_ | refine SW.exit ?_ | intro _ | refine And.intro (by omega) ?_) | simp (config := { maxSteps := 1000000 }) (disch := (first | omega | (simp only [go_sem]; try omega))) only [go_sem, Nat.reduceAdd, Nat.reduceEqDiff, Nat.reduceLeDiff, Nat.reduceMul, Nat.reduceLT, reduceIte, Int.reduceToNat, w64_id, cast_succ, hg, htl, htl1, htl3])
        refine SLoop.nextT 1 post.length hB (by omega) (by simp) (by simp) ?_ ?_ ⟨pre ++ [y], post, L ++ [y], ver + 1, false, by simp [hp], rfl, ?_, ?_, ?_, ?_⟩
        · (simp only [go_sem, Nat.reduceAdd, Nat.reduceEqDiff, reduceIte, go_sem, and_self, and_true, true_and, implies_true, List.take_succ_cons, List.take_zero, and_true, true_and]; try omega)
        · (simp only [go_sem, Nat.reduceAdd, Nat.reduceEqDiff, reduceIte, go_sem, and_self, and_true, true_and, implies_true, List.take_succ_cons, List.take_zero, and_true, true_and]; try omega)
        · simp [go_sem]
        · simp
        · simpa using hL
        · simp; omega
    · obtain ⟨rfl, rfl⟩ := nilOf hp (by omega)
      repeat (first | (with_reducible first | refine SW.seq ?_ | refine SW.block ?_ | refine SW.rowC ?_ | refine SW.skip ?_ | refine SW.exit ?_ | intro _ | refine And.intro (by omega) ?_) | simp (config := { maxSteps := 1000000 }) (disch := (first | omega | (simp only [go_sem]; try omega))) only [go_sem, Nat.reduceAdd, Nat.reduceEqDiff, Nat.reduceLeDiff, Nat.reduceMul, Nat.reduceLT, reduceIte, Int.reduceToNat, w64_id, cast_succ, htl])
      refine SW.condT rfl ?_
      repeat (first | (with_reducible first | refine SW.seq ?_ | refine SW.block ?_ | refine SW.rowC ?_ | refine SW.skip ?_ | refine SW.exit ?_ | intro _ | refine And.intro (by omega) ?_) | simp (config := { maxSteps := 1000000 }) (disch := (first | omega | (simp only [go_sem]; try omega))) only [go_sem, Nat.reduceAdd, Nat.reduceEqDiff, Nat.reduceLeDiff, Nat.reduceMul, Nat.reduceLT, reduceIte, Int.reduceToNat, w64_id, cast_succ, htl])
      refine SW.ret ?_; (try simp only [go_sem]); (first | refine FunPost.one ?_ | refine FunPost.two ?_ | refine FunPost.three ?_); (try simp (config := { maxSteps := 1000000 }) (disch := (first | omega | (simp only [go_sem]; try omega))) only [go_sem, Nat.reduceAdd, Nat.reduceEqDiff, Nat.reduceLeDiff, Nat.reduceMul, Nat.reduceLT, reduceIte, Int.reduceToNat, w64_id, cast_succ])
      refine GR.of ⟨_, H.length, ver + 1, rfl, by rw [← hL]; simp [insU], Nat.le_refl _, ?_⟩
      rw [← hL]; simp [insU]
  · simp only [if_true] at hL hLl
    simp (config := { maxSteps := 1000000 }) (disch := (first | omega | (simp only [go_sem]; try omega))) only [go_sem, Nat.reduceAdd, Nat.reduceEqDiff, Nat.reduceLeDiff, Nat.reduceMul, Nat.reduceLT, reduceIte, Int.reduceToNat, w64_id, cast_succ]
    repeat (first | (with_reducible first | refine SW.seq ?_ | refine SW.block ?_ | refine SW.rowC ?_ | refine SW.skip ?_ | refine SW.exit ?_ | intro _ | refine And.intro (by omega) ?_) | simp (config := { maxSteps := 1000000 }) (disch := (first | omega | (simp only [go_sem]; try omega))) only [go_sem, Nat.reduceAdd, Nat.reduceEqDiff, Nat.reduceLeDiff, Nat.reduceMul, Nat.reduceLT, reduceIte, Int.reduceToNat, w64_id, cast_succ])
    (first | refine SW.condD rfl (fun h => ?_) (fun h => ?_) | refine SW.condN rfl (fun h => ?_) (fun h => ?_) | refine SW.condNB rfl (fun h => ?_) (fun h => ?_) | refine SW.condB rfl (fun h => ?_) (fun h => ?_))
    · obtain ⟨y, post, rfl, hg, -⟩ := consOf (d := []) hp (by omega)
      repeat (first | (with_reducible first | refine SW.seq ?_ | refine SW.block ?_ | refine SW.rowC ?_ | refine SW.skip ?_ | refine SW.exit ?_ | refine PFn.use (CompareLists_fn _ _) ?_ | refine PFn.useq (CompareLists_fn _ _) ?_ | intro _ | refine And.intro (by omega) ?_) | simp (config := { maxSteps := 1000000 }) (disch := (first | omega | (simp only [go_sem]; try omega))) only [go_sem, Nat.reduceAdd, Nat.reduceEqDiff, Nat.reduceLeDiff, Nat.reduceMul, Nat.reduceLT, reduceIte, Int.reduceToNat, w64_id, cast_succ, hg])
      refine SW.condF rfl ?_
      repeat (first | (with_reducible first | refine SW.seq ?_ | refine SW.block ?_ | refine SW.rowC ?_ | refine SW.skip ?_ | refine SW.exit ?_ | intro _ | refine And.intro (by omega) ?_) | simp (config := { maxSteps := 1000000 }) (disch := (first | omega | (simp only [go_sem]; try omega))) only [go_sem, Nat.reduceAdd, Nat.reduceEqDiff, Nat.reduceLeDiff, Nat.reduceMul, Nat.reduceLT, reduceIte, Int.reduceToNat, w64_id, cast_succ, hg, htl, htl1, htl3])
      refine SLoop.nextT 1 post.length hB (by omega) (by simp) (by simp) ?_ ?_ ⟨pre ++ [y], post, L ++ [y], ver + 1, true, by simp [hp], rfl, ?_, ?_, ?_, ?_⟩
      · (simp only [go_sem, Nat.reduceAdd, Nat.reduceEqDiff, reduceIte, go_sem, and_self, and_true, true_and, implies_true, List.take_succ_cons, List.take_zero, and_true, true_and]; try omega)
      · (simp only [go_sem, Nat.reduceAdd, Nat.reduceEqDiff, reduceIte, go_sem, and_self, and_true, true_and, implies_true, List.take_succ_cons, List.take_zero, and_true, true_and]; try omega)
      · simp [go_sem]
      · simp
      · simpa using hL
      · simp; omega
    · obtain ⟨rfl, rfl⟩ := nilOf hp (by omega)
      repeat (first | (with_reducible first | refine SW.seq ?_ | refine SW.block ?_ | refine SW.rowC ?_ | refine SW.skip ?_ | refine SW.exit ?_ | intro _ | refine And.intro (by omega) ?_) | simp (config := { maxSteps := 1000000 }) (disch := (first | omega | (simp only [go_sem]; try omega))) only [go_sem, Nat.reduceAdd, Nat.reduceEqDiff, Nat.reduceLeDiff, Nat.reduceMul, Nat.reduceLT, reduceIte, Int.reduceToNat, w64_id, cast_succ, htl])
      refine SW.condF rfl ?_
      repeat (first | (with_reducible first | refine SW.seq ?_ | refine SW.block ?_ | refine SW.rowC ?_ | refine SW.skip ?_ | refine SW.exit ?_ | intro _ | refine And.intro (by omega) ?_) | simp (config := { maxSteps := 1000000 }) (disch := (first | omega | (simp only [go_sem]; try omega))) only [go_sem, Nat.reduceAdd, Nat.reduceEqDiff, Nat.reduceLeDiff, Nat.reduceMul, Nat.reduceLT, reduceIte, Int.reduceToNat, w64_id, cast_succ, htl])
      refine SW.ret ?_; (try simp only [go_sem]); (first | refine FunPost.one ?_ | refine FunPost.two ?_ | refine FunPost.three ?_); (try simp (config := { maxSteps := 1000000 }) (disch := (first | omega | (simp only [go_sem]; try omega))) only [go_sem, Nat.reduceAdd, Nat.reduceEqDiff, Nat.reduceLeDiff, Nat.reduceMul, Nat.reduceLT, reduceIte, Int.reduceToNat, w64_id, cast_succ])
      rw [List.append_nil] at hL
      refine GR.of ⟨_, H.length, ver, rfl, by rw [← hL], Nat.le_refl _, ?_⟩
      rw [← hL]; simp
def smallI (x : Int) : Prop := -100 ≤ x ∧ x ≤ 100
def smallS (n : Nat) (s : List Int) : Prop := s.length ≤ n ∧ ∀ x ∈ s, smallI x
def smallL (n m : Nat) (l : List (List Int)) : Prop := l.length ≤ n ∧ ∀ s ∈ l, smallS m s
theorem smallS_ins {n : Nat} {s : List Int} {x : Int} (h : smallS n s) (hx : smallI x) : smallS (n + 1) (insU cmpZ x s) := by
  refine ⟨Nat.le_trans (insU_len x s) (by have := h.1; omega), fun y hy => ?_⟩
  rcases (insU_mem cmpZ_tot x s y).1 hy with h1 | rfl
  · exact h.2 y h1
  · exact hx
theorem smallL_ins {n m : Nat} {l : List (List Int)} {s : List Int} (h : smallL n m l) (hs : smallS m s) : smallL (n + 1) m (insU cmpL s l) := by
  refine ⟨Nat.le_trans (insU_len s l) (by have := h.1; omega), fun y hy => ?_⟩
  rcases (insU_mem cmpL_tot s l y).1 hy with h1 | rfl
  · exact h.2 y h1
  · exact hs
theorem appNew {G ext : List Blk} {i ver k ty len : Nat} {bl : List (List Int)} {xs : List Int} (hG : G.length ≤ i) (hi : (G ++ ext)[i]? = some ⟨ver, tyLL, 1, bl.map ilS⟩) (hk : G.length ≤ k) (hkk : (G ++ ext)[k]? = some ⟨0, ty, 1, xs.map I⟩) (hne : i ≠ k) (hl : bl.length ≤ 1000) (hlen : len = xs.length)
    {K : AV → List Blk → Prop} (h : ∀ ext2, Froz (G ++ ext2) G.length (.nm i (ver + 1) 0 (bl.length + 1)) (ilSS (bl ++ [xs])) → K (.nm i (ver + 1) 0 (bl.length + 1)) (G ++ ext2)) :
    AppN tyLL 1 24 i ver bl.length 1 [.nm k 0 0 len] (G ++ ext) K (G ++ ext)[i]? := by
  subst hlen
  have hil := (List.getElem?_eq_some_iff.1 hi).1
  simp only [AppN, hi]
  refine ⟨trivial, trivial, trivial, by simp, by omega, by omega, ?_⟩
  rw [List.set_append_right _ _ hG]
  refine h _ ?_
  rw [← List.set_append_right _ _ hG]
  have h1 : ((G ++ ext).set i ⟨ver + 1, tyLL, 1, (bl.map ilS).take (bl.length * 1) ++ [.nm k 0 0 xs.length]⟩)[i]? = some ⟨ver + 1, tyLL, 1, bl.map ilS ++ [.nm k 0 0 xs.length]⟩ := by
    rw [List.getElem?_set_self hil, List.take_of_length_le (by simp)]
  have h2 : ((G ++ ext).set i ⟨ver + 1, tyLL, 1, (bl.map ilS).take (bl.length * 1) ++ [.nm k 0 0 xs.length]⟩)[k]? = some ⟨0, ty, 1, xs.map I⟩ := by
    rw [List.getElem?_set_ne hne]; exact hkk
  have := froz_own (e := fun _ => nilS) (cs' := (bl ++ [xs]).map ilS) hG h1 (by simp) (fun j c c' g1 g2 => by
    by_cases hj : j < bl.length
    · rw [List.getElem?_append_left (by simpa using hj)] at g1
      rw [List.map_append, List.getElem?_append_left (by simpa using hj)] at g2
      rw [g1] at g2; cases g2
      obtain ⟨x, _, rfl⟩ := List.mem_map.1 (List.mem_of_getElem? g1)
      exact .old _ (by rw [Bel_ilS]; trivial)
    · rw [List.getElem?_append_right (by simpa using hj)] at g1
      rw [List.map_append, List.getElem?_append_right (by simpa using hj)] at g2
      have hj' : j = bl.length := by
        have := (List.getElem?_eq_some_iff.1 g1).1
        simp at this; omega
      subst hj'
      simp at g1 g2
      subst g1; subst g2
      exact froz_rowI hk h2)
  simpa [ilSS] using this
theorem l27Draw_ok (H : List Blk) (p : Nat) (code : AV) (ns : List Int) (t : Nat) (u : Int) (hp : H[p]? = some (srcB code t u)) (hc : CodeOk code ns) (hcb : ∀ k, Bel k code) (ht : t ≤ 800000000) :
    ACalls Try.prog f_spec_l27Draw [.pc p 0 0] H (fun r H' => ∃ (v : Int) (bl : List (List Int)) (u' : Int) (t' : Nat), r = .tup [I v, ilSS bl] ∧ smallI v ∧ smallL 8 8 bl ∧ H' = H.set p (srcB code t' u')) := by
  have hlt := (List.getElem?_eq_some_iff.1 hp).1
  have hgp : ∀ t u, (H.set p (srcB code t u))[p]? = some (srcB code t u) := fun t u => List.getElem?_set_self hlt
  refine ACalls.introB s_spec_l27Draw (by simp) ?_; intro hB hA; unfold c_spec_l27Draw; simp (config := { maxSteps := 1000000 }) (disch := (first | omega | (simp only [go_sem]; try omega))) only [go_sem, Nat.reduceAdd, Nat.reduceEqDiff, Nat.reduceLeDiff, Nat.reduceMul, Nat.reduceLT, reduceIte, Int.reduceToNat, w64_id, cast_succ]
  have hBG : ∀ t u, HB (H.set p (srcB code t u)) := fun t u b hb c hcc => by
    rw [List.length_set]
    rcases List.mem_or_eq_of_mem_set hb with hb | rfl
    · exact hB b hb c hcc
    · unfold srcB at hcc
      simp only [List.mem_cons, List.not_mem_nil, or_false] at hcc
      rcases hcc with rfl | rfl | rfl
      · exact hcb _
      · exact .lit _
      · exact .lit _
  refine SW.seq ?_; refine SW.rowC ?_; simp (config := { maxSteps := 1000000 }) (disch := (first | omega | (simp only [go_sem]; try omega))) only [go_sem, Nat.reduceAdd, Nat.reduceEqDiff, Nat.reduceLeDiff, Nat.reduceMul, Nat.reduceLT, reduceIte, Int.reduceToNat, w64_id, cast_succ]
  refine SW.seq ?_; refine SW.rowC ?_; simp (config := { maxSteps := 1000000 }) (disch := (first | omega | (simp only [go_sem]; try omega))) only [go_sem, Nat.reduceAdd, Nat.reduceEqDiff, Nat.reduceLeDiff, Nat.reduceMul, Nat.reduceLT, reduceIte, Int.reduceToNat, w64_id, cast_succ]
  refine (pick_ok H p code ns t u 5 hp hc (by omega)).mono ?_
  rintro r H1 ⟨x, u1, t1, rfl, x0, x1, ht1, rfl⟩
  simp (config := { maxSteps := 1000000 }) (disch := (first | omega | (simp only [go_sem]; try omega))) only [go_sem, Nat.reduceAdd, Nat.reduceEqDiff, Nat.reduceLeDiff, Nat.reduceMul, Nat.reduceLT, reduceIte, Int.reduceToNat, w64_id, cast_succ]
  refine SW.seqM (fun E' H' => ∃ (v u : Int) (t2 : Nat), 0 ≤ v ∧ v ≤ 6 ∧ t2 ≤ t + 4 ∧ aget E' 0 = .pc p 0 0 ∧ aget E' 4 = I v ∧ H' = H.set p (srcB code t2 u)) ?_ ?_
  · repeat (first | (with_reducible first | refine SW.seq ?_ | refine SW.block ?_ | refine SW.rowC ?_ | refine SW.skip ?_ | refine SW.exit ?_ | intro _ | refine And.intro (by omega) ?_) | simp (config := { maxSteps := 1000000 }) (disch := (first | omega | (simp only [go_sem]; try omega))) only [go_sem, Nat.reduceAdd, Nat.reduceEqDiff, Nat.reduceLeDiff, Nat.reduceMul, Nat.reduceLT, reduceIte, Int.reduceToNat, w64_id, cast_succ])
    refine (one_ok _ p code ns t1 u1 12 (hgp _ _) hc (by omega)).mono ?_
    rintro r H1 ⟨b, u2, t2, rfl, ht2, rfl⟩
    rw [List.set_set]
    repeat (first | (with_reducible first | refine SW.seq ?_ | refine SW.block ?_ | refine SW.rowC ?_ | refine SW.skip ?_ | refine SW.exit ?_ | intro _ | refine And.intro (by omega) ?_) | simp (config := { maxSteps := 1000000 }) (disch := (first | omega | (simp only [go_sem]; try omega))) only [go_sem, Nat.reduceAdd, Nat.reduceEqDiff, Nat.reduceLeDiff, Nat.reduceMul, Nat.reduceLT, reduceIte, Int.reduceToNat, w64_id, cast_succ])
    cases b
    · refine SW.condF rfl ?_
      repeat (first | (with_reducible first | refine SW.seq ?_ | refine SW.block ?_ | refine SW.rowC ?_ | refine SW.skip ?_ | refine SW.exit ?_ | intro _ | refine And.intro (by omega) ?_) | simp (config := { maxSteps := 1000000 }) (disch := (first | omega | (simp only [go_sem]; try omega))) only [go_sem, Nat.reduceAdd, Nat.reduceEqDiff, Nat.reduceLeDiff, Nat.reduceMul, Nat.reduceLT, reduceIte, Int.reduceToNat, w64_id, cast_succ])
      exact ⟨x + 1, u2, t2, by omega, by omega, by omega, rfl, rfl⟩
    · refine SW.condT rfl ?_
      repeat (first | (with_reducible first | refine SW.seq ?_ | refine SW.block ?_ | refine SW.rowC ?_ | refine SW.skip ?_ | refine SW.exit ?_ | intro _ | refine And.intro (by omega) ?_) | simp (config := { maxSteps := 1000000 }) (disch := (first | omega | (simp only [go_sem]; try omega))) only [go_sem, Nat.reduceAdd, Nat.reduceEqDiff, Nat.reduceLeDiff, Nat.reduceMul, Nat.reduceLT, reduceIte, Int.reduceToNat, w64_id, cast_succ])
      exact ⟨6, u2, t2, by omega, by omega, by omega, rfl, rfl⟩
  rintro E' G ⟨v, u2, t2, v0, v1, ht2, e0, e4, rfl⟩
  repeat (first | (with_reducible first | refine SW.seq ?_ | refine SW.block ?_ | refine SW.rowC ?_ | refine SW.skip ?_ | refine SW.exit ?_ | intro _ | refine And.intro (by omega) ?_) | simp (config := { maxSteps := 1000000 }) (disch := (first | omega | (simp only [go_sem]; try omega))) only [go_sem, Nat.reduceAdd, Nat.reduceEqDiff, Nat.reduceLeDiff, Nat.reduceMul, Nat.reduceLT, reduceIte, Int.reduceToNat, w64_id, cast_succ, e0, e4])
  refine (pick_ok _ p code ns t2 u2 5 (by rw [List.getElem?_append_left (by simpa using hlt)]; exact hgp _ _) hc (by omega)).mono ?_
  rintro r H1 ⟨y, u3, t3, rfl, y0, y1, ht3, rfl⟩
  obtain ⟨y, rfl⟩ := Int.eq_ofNat_of_zero_le y0
  have hset : ∀ t u t' u' (ext : List Blk), (H.set p (srcB code t u) ++ ext).set p (srcB code t' u') = H.set p (srcB code t' u') ++ ext := fun t u t' u' ext => by
    rw [List.set_append_left _ _ (by simpa using hlt), List.set_set]
  rw [hset]
  repeat (first | (with_reducible first | refine SW.seq ?_ | refine SW.block ?_ | refine SW.rowC ?_ | refine SW.skip ?_ | refine SW.exit ?_ | intro _ | refine And.intro (by omega) ?_) | simp (config := { maxSteps := 1000000 }) (disch := (first | omega | (simp only [go_sem]; try omega))) only [go_sem, Nat.reduceAdd, Nat.reduceEqDiff, Nat.reduceLeDiff, Nat.reduceMul, Nat.reduceLT, reduceIte, Int.reduceToNat, w64_id, cast_succ])
  have hy4 : y ≤ 4 := by omega
  refine SW.loopE (fun E0 H0 q E' H' => ∃ (n i ver t' : Nat) (u : Int) (bl : List (List Int)) (ext : List Blk), n ≤ 4 ∧ q = n + 1 ∧ smallL (4 - n) 8 bl ∧ E' = [(0, .pc p 0 0), (4, I v), (5, .nm i ver 0 bl.length), (6, I n)] ∧ H' = H.set p (srcB code t' u) ++ ext ∧ H.length ≤ i ∧ H'[i]? = some ⟨ver, tyLL, 1, bl.map ilS⟩ ∧ t' ≤ t + 6 + (4 - n) * 20) (y + 1)
    ⟨y, H.length, 0, t3, u3, [], _, hy4, rfl, ⟨by simp, by simp⟩, rfl, rfl, Nat.le_refl _, by rw [List.getElem?_append_right (by simp)]; simp, by omega⟩ ?_
  rintro q E' H' ⟨n, i, ver, t', u, bl, ext, hn4, rfl, hbl, rfl, rfl, hi, hib, ht'⟩
  have hbll := hbl.1
  repeat (first | (with_reducible first | refine SW.seq ?_ | refine SW.block ?_ | refine SW.rowC ?_ | refine SW.skip ?_ | refine SW.exit ?_ | intro _ | refine And.intro (by omega) ?_) | simp (config := { maxSteps := 1000000 }) (disch := (first | omega | (simp only [go_sem]; try omega))) only [go_sem, Nat.reduceAdd, Nat.reduceEqDiff, Nat.reduceLeDiff, Nat.reduceMul, Nat.reduceLT, reduceIte, Int.reduceToNat, w64_id, cast_succ])
  (first | refine SW.condD rfl (fun h => ?_) (fun h => ?_) | refine SW.condN rfl (fun h => ?_) (fun h => ?_) | refine SW.condNB rfl (fun h => ?_) (fun h => ?_) | refine SW.condB rfl (fun h => ?_) (fun h => ?_))
  · refine SW.froz (hBG _ _) (by simp) (.cons _ (.old _ (by simp [go_sem]; exact hlt)) (.cons _ (ren_I _) (.cons _ (ren_of_froz (froz_rowS (by simpa using hi) hib)) (.cons _ (ren_I _) (.cons _ (ren_B _) .nil))))) ?_
    repeat (first | (with_reducible first | refine SW.seq ?_ | refine SW.block ?_ | refine SW.rowC ?_ | refine SW.skip ?_ | refine SW.exit ?_ | intro _ | refine And.intro (by omega) ?_) | simp (config := { maxSteps := 1000000 }) (disch := (first | omega | (simp only [go_sem]; try omega))) only [go_sem, Nat.reduceAdd, Nat.reduceEqDiff, Nat.reduceLeDiff, Nat.reduceMul, Nat.reduceLT, reduceIte, Int.reduceToNat, w64_id, cast_succ])
    refine (pick_ok _ p code ns t' u v (hgp _ _) hc (by omega)).mono ?_
    rintro r H1 ⟨x, u4, t4, rfl, x0, x1, ht4, rfl⟩
    rw [List.set_set]
    repeat (first | (with_reducible first | refine SW.seq ?_ | refine SW.block ?_ | refine SW.rowC ?_ | refine SW.skip ?_ | refine SW.exit ?_ | intro _ | refine And.intro (by omega) ?_) | simp (config := { maxSteps := 1000000 }) (disch := (first | omega | (simp only [go_sem]; try omega))) only [go_sem, Nat.reduceAdd, Nat.reduceEqDiff, Nat.reduceLeDiff, Nat.reduceMul, Nat.reduceLT, reduceIte, Int.reduceToNat, w64_id, cast_succ])
    refine (pick_ok _ p code ns t4 u4 3 (by rw [List.getElem?_append_left (by simpa using hlt)]; exact hgp _ _) hc (by omega)).mono ?_
    rintro r H1 ⟨z, u5, t5, rfl, z0, z1, ht5, rfl⟩
    rw [hset]
    obtain ⟨z, rfl⟩ := Int.eq_ofNat_of_zero_le z0
    repeat (first | (with_reducible first | refine SW.seq ?_ | refine SW.block ?_ | refine SW.rowC ?_ | refine SW.skip ?_ | refine SW.exit ?_ | intro _ | refine And.intro (by omega) ?_) | simp (config := { maxSteps := 1000000 }) (disch := (first | omega | (simp only [go_sem]; try omega))) only [go_sem, Nat.reduceAdd, Nat.reduceEqDiff, Nat.reduceLeDiff, Nat.reduceMul, Nat.reduceLT, reduceIte, Int.reduceToNat, w64_id, cast_succ])
    refine SW.froz (hBG _ _) (by simp) (.cons _ (.old _ (by simp [go_sem]; exact hlt)) (.cons _ (ren_I _) (.cons _ (ren_ilSS _) (.cons _ (ren_I _) (.cons _ (ren_of_froz (froz_rowI (r := H.length) (ver := 0) (ty := 2) (xs := [x]) (by simp) (by rw [List.getElem?_append_right (by simp)]; simp))) (.cons _ (ren_I _) .nil)))))) ?_
    refine SW.loopE (fun E0 H0 q E' H' => ∃ (m t' : Nat) (u : Int) (s : List Int), m ≤ 2 ∧ q = m + 1 ∧ smallS (3 - m) s ∧ E' = aput (aput E0 8 (I m)) 7 (ilS s) ∧ H' = H.set p (srcB code t' u) ∧ t' ≤ t5 + (2 - m) * 2) (z + 1)
      ⟨z, t5, u5, [x], by omega, rfl, ⟨by simp; omega, fun w hw => by rw [List.mem_singleton.1 hw]; unfold smallI; omega⟩, rfl, rfl, by omega⟩ ?_
    rintro q E' H' ⟨m, t6, u6, s, hm2, rfl, hs, rfl, rfl, ht6⟩
    have hsl := hs.1
    simp (config := { maxSteps := 1000000 }) (disch := (first | omega | (simp only [go_sem]; try omega))) only [go_sem, Nat.reduceAdd, Nat.reduceEqDiff, Nat.reduceLeDiff, Nat.reduceMul, Nat.reduceLT, reduceIte, Int.reduceToNat, w64_id, cast_succ]
    repeat (first | (with_reducible first | refine SW.seq ?_ | refine SW.block ?_ | refine SW.rowC ?_ | refine SW.skip ?_ | refine SW.exit ?_ | intro _ | refine And.intro (by omega) ?_) | simp (config := { maxSteps := 1000000 }) (disch := (first | omega | (simp only [go_sem]; try omega))) only [go_sem, Nat.reduceAdd, Nat.reduceEqDiff, Nat.reduceLeDiff, Nat.reduceMul, Nat.reduceLT, reduceIte, Int.reduceToNat, w64_id, cast_succ])
    (first | refine SW.condD rfl (fun h3 => ?_) (fun h3 => ?_) | refine SW.condN rfl (fun h3 => ?_) (fun h3 => ?_) | refine SW.condNB rfl (fun h3 => ?_) (fun h3 => ?_) | refine SW.condB rfl (fun h3 => ?_) (fun h3 => ?_))
    · repeat (first | (with_reducible first | refine SW.seq ?_ | refine SW.block ?_ | refine SW.rowC ?_ | refine SW.skip ?_ | refine SW.exit ?_ | intro _ | refine And.intro (by omega) ?_) | simp (config := { maxSteps := 1000000 }) (disch := (first | omega | (simp only [go_sem]; try omega))) only [go_sem, Nat.reduceAdd, Nat.reduceEqDiff, Nat.reduceLeDiff, Nat.reduceMul, Nat.reduceLT, reduceIte, Int.reduceToNat, w64_id, cast_succ])
      refine (pick_ok _ p code ns t6 u6 v (hgp _ _) hc (by omega)).mono ?_
      rintro r H1 ⟨w, u7, t7, rfl, w0, w1, ht7, rfl⟩
      rw [List.set_set]
      have hput := l00PutZ_fn s w (by omega)
      repeat (first | (with_reducible first | refine SW.seq ?_ | refine SW.block ?_ | refine SW.rowC ?_ | refine SW.skip ?_ | refine SW.exit ?_ | refine PFn.use (hput) ?_ | refine PFn.useq (hput) ?_ | intro _ | refine And.intro (by omega) ?_) | simp (config := { maxSteps := 1000000 }) (disch := (first | omega | (simp only [go_sem]; try omega))) only [go_sem, Nat.reduceAdd, Nat.reduceEqDiff, Nat.reduceLeDiff, Nat.reduceMul, Nat.reduceLT, reduceIte, Int.reduceToNat, w64_id, cast_succ])
      refine SLoop.next (m - 1 + 1) (by omega) ⟨m - 1, t7, u7, insU cmpZ w s, by omega, rfl, ?_, ?_, rfl, by omega⟩
      · have := smallS_ins hs (show smallI w by unfold smallI; omega)
        exact ⟨by have := this.1; omega, this.2⟩
      · rw [show ((m : Int) - 1) = ((m - 1 : Nat) : Int) by omega]; simp [go_sem]
    · repeat (first | (with_reducible first | refine SW.seq ?_ | refine SW.block ?_ | refine SW.rowC ?_ | refine SW.skip ?_ | refine SW.exit ?_ | intro _ | refine And.intro (by omega) ?_) | simp (config := { maxSteps := 1000000 }) (disch := (first | omega | (simp only [go_sem]; try omega))) only [go_sem, Nat.reduceAdd, Nat.reduceEqDiff, Nat.reduceLeDiff, Nat.reduceMul, Nat.reduceLT, reduceIte, Int.reduceToNat, w64_id, cast_succ])
      refine (l21PutList_new bl s (by omega) _).mono ?_
      rintro r H1 ⟨ext1, i1, ver1, hH1, rfl, hi1, hib1⟩
      repeat (first | (with_reducible first | refine SW.seq ?_ | refine SW.block ?_ | refine SW.rowC ?_ | refine SW.skip ?_ | refine SW.exit ?_ | intro _ | refine And.intro (by omega) ?_) | simp (config := { maxSteps := 1000000 }) (disch := (first | omega | (simp only [go_sem]; try omega))) only [go_sem, Nat.reduceAdd, Nat.reduceEqDiff, Nat.reduceLeDiff, Nat.reduceMul, Nat.reduceLT, reduceIte, Int.reduceToNat, w64_id, cast_succ])
      refine SLoop.next (n - 1 + 1) (by omega) ⟨n - 1, i1, ver1, t6, u6, insU cmpL s bl, ext1, by omega, rfl, ?_, ?_, hH1, by simpa using hi1, hib1, by omega⟩
      · have := smallL_ins hbl (show smallS 8 s from ⟨by omega, hs.2⟩)
        exact ⟨by have := this.1; omega, this.2⟩
      · rw [show ((n : Int) - 1) = ((n - 1 : Nat) : Int) by omega]; rfl
  · have : n = 0 := by omega
    subst this
    have hpp := fun ext => (show (H.set p (srcB code t' u) ++ ext)[p]? = _ from (List.getElem?_append_left (by simpa using hlt)).trans (hgp t' u))
    repeat (first | (with_reducible first | refine SW.seq ?_ | refine SW.block ?_ | refine SW.rowC ?_ | refine SW.skip ?_ | refine SW.exit ?_ | intro _ | refine And.intro (by omega) ?_) | simp (config := { maxSteps := 1000000 }) (disch := (first | omega | (simp only [go_sem]; try omega))) only [go_sem, Nat.reduceAdd, Nat.reduceEqDiff, Nat.reduceLeDiff, Nat.reduceMul, Nat.reduceLT, reduceIte, Int.reduceToNat, w64_id, cast_succ])
    refine (pick_ok _ p code ns t' u 12 (hpp _) hc (by omega)).mono ?_
    rintro r H1 ⟨z, u5, t5, rfl, z0, z1, ht5, rfl⟩
    rw [hset]
    have hib' : (H.set p (srcB code t5 u5) ++ ext)[i]? = some ⟨ver, tyLL, 1, bl.map ilS⟩ := by
      rw [List.getElem?_append_right (by simpa using hi), List.length_set] at hib ⊢
      exact hib
    have hlG : (H.set p (srcB code t5 u5)).length = H.length := by simp
    have hB5 := hBG t5 u5
    have hp5 := hgp t5 u5
    have hset5 := fun t' u' ext => hset t5 u5 t' u' ext
    repeat (first | (with_reducible first | refine SW.seq ?_ | refine SW.block ?_ | refine SW.rowC ?_ | refine SW.skip ?_ | refine SW.exit ?_ | intro _ | refine And.intro (by omega) ?_) | simp (config := { maxSteps := 1000000 }) (disch := (first | omega | (simp only [go_sem]; try omega))) only [go_sem, Nat.reduceAdd, Nat.reduceEqDiff, Nat.reduceLeDiff, Nat.reduceMul, Nat.reduceLT, reduceIte, Int.reduceToNat, w64_id, cast_succ])
    (first | refine SW.condD rfl (fun h => ?_) (fun h => ?_) | refine SW.condN rfl (fun h => ?_) (fun h => ?_) | refine SW.condNB rfl (fun h => ?_) (fun h => ?_) | refine SW.condB rfl (fun h => ?_) (fun h => ?_))
    · have hv : ∀ k1 k2, aview (H.set p (srcB code t5 u5) ++ (ext ++ [k1, ⟨0, k2, 1, [.nm (H.length + ext.length) 0 0 0]⟩])) (.nm (H.length + (ext.length + 1)) 0 0 1) = some (1, [.nm (H.length + ext.length) 0 0 0]) := fun k1 k2 => by
        simp only [aview]
        rw [List.getElem?_append_right (by simp), List.getElem?_append_right (by simp)]
        simp [show H.length + (ext.length + 1) - H.length - ext.length = 1 by omega]
      repeat (first | (with_reducible first | refine SW.seq ?_ | refine SW.block ?_ | refine SW.rowC ?_ | refine SW.skip ?_ | refine SW.exit ?_ | intro _ | refine And.intro (by omega) ?_) | simp (config := { maxSteps := 1000000 }) (disch := (first | omega | (simp only [go_sem]; try omega))) only [go_sem, Nat.reduceAdd, Nat.reduceEqDiff, Nat.reduceLeDiff, Nat.reduceMul, Nat.reduceLT, reduceIte, Int.reduceToNat, w64_id, cast_succ, hv])
      refine appNew (G := H.set p (srcB code t5 u5)) (i := i) (k := H.length + ext.length) (ty := 2) (xs := []) (by simpa using hi) (by rw [← List.append_assoc, List.getElem?_append_left (List.getElem?_eq_some_iff.1 hib').1]; exact hib') (by simp) (by rw [List.getElem?_append_right (by simp), List.getElem?_append_right (by simp)]; simp) (by have := (List.getElem?_eq_some_iff.1 hib').1; simp at this; omega) (by omega) rfl ?_
      intro ext2 hf
      rw [hlG] at hf
      repeat (first | (with_reducible first | refine SW.seq ?_ | refine SW.block ?_ | refine SW.rowC ?_ | refine SW.skip ?_ | refine SW.exit ?_ | intro _ | refine And.intro (by omega) ?_) | simp (config := { maxSteps := 1000000 }) (disch := (first | omega | (simp only [go_sem]; try omega))) only [go_sem, Nat.reduceAdd, Nat.reduceEqDiff, Nat.reduceLeDiff, Nat.reduceMul, Nat.reduceLT, reduceIte, Int.reduceToNat, w64_id, cast_succ])
      refine SW.ret ?_; (try simp only [go_sem]); (first | refine FunPost.one ?_ | refine FunPost.two ?_ | refine FunPost.three ?_); (try simp (config := { maxSteps := 1000000 }) (disch := (first | omega | (simp only [go_sem]; try omega))) only [go_sem, Nat.reduceAdd, Nat.reduceEqDiff, Nat.reduceLeDiff, Nat.reduceMul, Nat.reduceLT, reduceIte, Int.reduceToNat, w64_id, cast_succ])
      refine GR.frozH (H0 := H) (H1 := H.set p (srcB code t5 u5)) (r' := .tup [I v, ilSS (bl ++ [[]])]) (by simp) (hBG _ _) (froz_tup2 (froz_I' _) hf) ?_
      refine ⟨v, bl ++ [[]], u5, t5, rfl, by unfold smallI; omega, ⟨by simp; omega, fun s hs => ?_⟩, rfl⟩
      rcases List.mem_append.1 hs with hs | hs
      · exact hbl.2 s hs
      · rw [List.mem_singleton.1 hs]; exact ⟨by simp, by simp⟩
    · repeat (first | (with_reducible first | refine SW.seq ?_ | refine SW.block ?_ | refine SW.rowC ?_ | refine SW.skip ?_ | refine SW.exit ?_ | intro _ | refine And.intro (by omega) ?_) | simp (config := { maxSteps := 1000000 }) (disch := (first | omega | (simp only [go_sem]; try omega))) only [go_sem, Nat.reduceAdd, Nat.reduceEqDiff, Nat.reduceLeDiff, Nat.reduceMul, Nat.reduceLT, reduceIte, Int.reduceToNat, w64_id, cast_succ])
      (first | refine SW.condD rfl (fun h => ?_) (fun h => ?_) | refine SW.condN rfl (fun h => ?_) (fun h => ?_) | refine SW.condNB rfl (fun h => ?_) (fun h => ?_) | refine SW.condB rfl (fun h => ?_) (fun h => ?_))
      · have ha : ∀ t u, aview ((H.set p (srcB code t5 u5) ++ (ext ++ [(⟨0, 2, 1, [I 0, I 7, I (v - 1)]⟩ : Blk)])).set p (srcB code t u)) (.nm (H.length + ext.length) 0 0 3) = some (3, [(0 : Int), 7, v - 1].map I) := fun t u => by
          rw [hset]
          simp only [aview]
          rw [List.getElem?_append_right (by simp), List.getElem?_append_right (by simp)]
          simp
        repeat (first | (with_reducible first | refine SW.seq ?_ | refine SW.block ?_ | refine SW.rowC ?_ | refine SW.skip ?_ | refine SW.exit ?_ | intro _ | refine And.intro (by omega) ?_) | simp (config := { maxSteps := 1000000 }) (disch := (first | omega | (simp only [go_sem]; try omega))) only [go_sem, Nat.reduceAdd, Nat.reduceEqDiff, Nat.reduceLeDiff, Nat.reduceMul, Nat.reduceLT, reduceIte, Int.reduceToNat, w64_id, cast_succ])
        refine (among_ok _ p code ns t5 u5 _ [0, 7, v - 1] (by rw [List.getElem?_append_left (by simpa using hlt)]; exact hp5) hc (by omega) ha (by simp)).mono ?_
        rintro r H1 ⟨x, u6, t6, rfl, hx, ht6, rfl⟩
        rw [hset]
        repeat (first | (with_reducible first | refine SW.seq ?_ | refine SW.block ?_ | refine SW.rowC ?_ | refine SW.skip ?_ | refine SW.exit ?_ | intro _ | refine And.intro (by omega) ?_) | simp (config := { maxSteps := 1000000 }) (disch := (first | omega | (simp only [go_sem]; try omega))) only [go_sem, Nat.reduceAdd, Nat.reduceEqDiff, Nat.reduceLeDiff, Nat.reduceMul, Nat.reduceLT, reduceIte, Int.reduceToNat, w64_id, cast_succ])
        refine SW.ret ?_; (try simp only [go_sem]); (first | refine FunPost.one ?_ | refine FunPost.two ?_ | refine FunPost.three ?_); (try simp (config := { maxSteps := 1000000 }) (disch := (first | omega | (simp only [go_sem]; try omega))) only [go_sem, Nat.reduceAdd, Nat.reduceEqDiff, Nat.reduceLeDiff, Nat.reduceMul, Nat.reduceLT, reduceIte, Int.reduceToNat, w64_id, cast_succ])
        refine GR.frozH (H0 := H) (H1 := H.set p (srcB code t6 u6)) (by simp) (hBG _ _) (froz_tup2 (froz_I' _) (froz_rowS (ver := ver) (ty := tyLL) (by simpa using hi) ?_)) ?_
        · rw [List.getElem?_append_right (by simpa using hi), List.length_set] at hib ⊢
          rw [List.getElem?_append_left (List.getElem?_eq_some_iff.1 hib).1]
          exact hib
        · refine ⟨x, bl, u6, t6, rfl, ?_, ⟨by omega, hbl.2⟩, rfl⟩
          simp at hx; unfold smallI; omega
      · repeat (first | (with_reducible first | refine SW.seq ?_ | refine SW.block ?_ | refine SW.rowC ?_ | refine SW.skip ?_ | refine SW.exit ?_ | intro _ | refine And.intro (by omega) ?_) | simp (config := { maxSteps := 1000000 }) (disch := (first | omega | (simp only [go_sem]; try omega))) only [go_sem, Nat.reduceAdd, Nat.reduceEqDiff, Nat.reduceLeDiff, Nat.reduceMul, Nat.reduceLT, reduceIte, Int.reduceToNat, w64_id, cast_succ])
        (first | refine SW.condD rfl (fun h => ?_) (fun h => ?_) | refine SW.condN rfl (fun h => ?_) (fun h => ?_) | refine SW.condNB rfl (fun h => ?_) (fun h => ?_) | refine SW.condB rfl (fun h => ?_) (fun h => ?_))
        · have hv : ∀ k1 k2, aview (H.set p (srcB code t5 u5) ++ (ext ++ [k1, ⟨0, k2, 1, [.nm (H.length + ext.length) 0 0 1]⟩])) (.nm (H.length + (ext.length + 1)) 0 0 1) = some (1, [.nm (H.length + ext.length) 0 0 1]) := fun k1 k2 => by
            simp only [aview]
            rw [List.getElem?_append_right (by simp), List.getElem?_append_right (by simp)]
            simp [show H.length + (ext.length + 1) - H.length - ext.length = 1 by omega]
          repeat (first | (with_reducible first | refine SW.seq ?_ | refine SW.block ?_ | refine SW.rowC ?_ | refine SW.skip ?_ | refine SW.exit ?_ | intro _ | refine And.intro (by omega) ?_) | simp (config := { maxSteps := 1000000 }) (disch := (first | omega | (simp only [go_sem]; try omega))) only [go_sem, Nat.reduceAdd, Nat.reduceEqDiff, Nat.reduceLeDiff, Nat.reduceMul, Nat.reduceLT, reduceIte, Int.reduceToNat, w64_id, cast_succ, hv])
          refine appNew (G := H.set p (srcB code t5 u5)) (i := i) (k := H.length + ext.length) (ty := 2) (xs := [v]) (by simpa using hi) (by rw [← List.append_assoc, List.getElem?_append_left (List.getElem?_eq_some_iff.1 hib').1]; exact hib') (by simp) (by rw [List.getElem?_append_right (by simp), List.getElem?_append_right (by simp)]; simp) (by have := (List.getElem?_eq_some_iff.1 hib').1; simp at this; omega) (by omega) rfl ?_
          intro ext2 hf
          rw [hlG] at hf
          repeat (first | (with_reducible first | refine SW.seq ?_ | refine SW.block ?_ | refine SW.rowC ?_ | refine SW.skip ?_ | refine SW.exit ?_ | intro _ | refine And.intro (by omega) ?_) | simp (config := { maxSteps := 1000000 }) (disch := (first | omega | (simp only [go_sem]; try omega))) only [go_sem, Nat.reduceAdd, Nat.reduceEqDiff, Nat.reduceLeDiff, Nat.reduceMul, Nat.reduceLT, reduceIte, Int.reduceToNat, w64_id, cast_succ])
          refine SW.ret ?_; (try simp only [go_sem]); (first | refine FunPost.one ?_ | refine FunPost.two ?_ | refine FunPost.three ?_); (try simp (config := { maxSteps := 1000000 }) (disch := (first | omega | (simp only [go_sem]; try omega))) only [go_sem, Nat.reduceAdd, Nat.reduceEqDiff, Nat.reduceLeDiff, Nat.reduceMul, Nat.reduceLT, reduceIte, Int.reduceToNat, w64_id, cast_succ])
          refine GR.frozH (H0 := H) (H1 := H.set p (srcB code t5 u5)) (r' := .tup [I v, ilSS (bl ++ [[v]])]) (by simp) (hBG _ _) (froz_tup2 (froz_I' _) hf) ?_
          refine ⟨v, bl ++ [[v]], u5, t5, rfl, by unfold smallI; omega, ⟨by simp; omega, fun s hs => ?_⟩, rfl⟩
          rcases List.mem_append.1 hs with hs | hs
          · exact hbl.2 s hs
          · rw [List.mem_singleton.1 hs]; exact ⟨by simp, by simp; unfold smallI; omega⟩
        · repeat (first | (with_reducible first | refine SW.seq ?_ | refine SW.block ?_ | refine SW.rowC ?_ | refine SW.skip ?_ | refine SW.exit ?_ | intro _ | refine And.intro (by omega) ?_) | simp (config := { maxSteps := 1000000 }) (disch := (first | omega | (simp only [go_sem]; try omega))) only [go_sem, Nat.reduceAdd, Nat.reduceEqDiff, Nat.reduceLeDiff, Nat.reduceMul, Nat.reduceLT, reduceIte, Int.reduceToNat, w64_id, cast_succ])
          refine SW.ret ?_; (try simp only [go_sem]); (first | refine FunPost.one ?_ | refine FunPost.two ?_ | refine FunPost.three ?_); (try simp (config := { maxSteps := 1000000 }) (disch := (first | omega | (simp only [go_sem]; try omega))) only [go_sem, Nat.reduceAdd, Nat.reduceEqDiff, Nat.reduceLeDiff, Nat.reduceMul, Nat.reduceLT, reduceIte, Int.reduceToNat, w64_id, cast_succ])
          refine GR.frozH (H0 := H) (H1 := H.set p (srcB code t5 u5)) (r' := .tup [I v, ilSS bl]) (by simp) (hBG _ _) (froz_tup2 (froz_I' _) (froz_rowS (by simpa using hi) hib')) ?_
          refine ⟨v, bl, u5, t5, rfl, by unfold smallI; omega, ⟨by omega, hbl.2⟩, rfl⟩
end Go.Proofs.Ytogapbapbmhdfaa
