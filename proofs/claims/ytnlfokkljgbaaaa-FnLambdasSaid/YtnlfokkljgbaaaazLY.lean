/- Remainders of polynomials; which are irreducible; fields made. -/
import Derived.Test.YtnlfokkljgbaaaaProg
import Derived.KernelRfl
import Derived.Test.YtnlfokkljgbaaaazLU
import Derived.Test.YtnlfokkljgbaaaazNM
import Derived.Test.YtnlfokkljgbaaaazK10
set_option linter.unusedSimpArgs false
set_option linter.unusedVariables false
set_option maxHeartbeats 4000000
set_option maxRecDepth 100000
namespace Go.Proofs.Ytnlfokkljgbaaaa
open Go.Av
abbrev f_spec_l03Rest : Nat := 86
def c_spec_l03Rest : SC :=
 .seq (.reg [
     ⟨(some 6), .mv (.const (.slice none 0 0)), none⟩] [0, 1, 2])
 (.seq (.reg [
     ⟨(some 13), .mv (.tmp 0), none⟩,
     ⟨(some 14), .call 88 [(.tmp 13)], none⟩,
     ⟨(some 7), .mv (.tmp 14), none⟩] [1, 2, 7])
 (.seq (.reg [
     ⟨(some 15), .mv (.tmp 1), none⟩,
     ⟨(some 16), .len (.tmp 15), none⟩,
     ⟨(some 8), .mv (.tmp 16), none⟩] [1, 2, 7, 8])
 (.seq (.seq (.reg [
     ⟨(some 17), .mv (.tmp 7), none⟩,
     ⟨(some 18), .len (.tmp 17), none⟩,
     ⟨(some 19), .bin .sub (.tmp 18) (.const (.int .i64 1)), none⟩,
     ⟨(some 9), .mv (.tmp 19), none⟩] [1, 2, 7, 8, 9])
 (.block 0 (.loop [1, 2, 7, 8, 9]
   (.seq (.seq (.reg [
       ⟨(some 20), .mv (.tmp 9), none⟩,
       ⟨(some 21), .mv (.tmp 8), none⟩,
       ⟨(some 22), .bin .sub (.tmp 21) (.const (.int .i64 1)), none⟩,
       ⟨(some 23), .bin .geq (.tmp 20) (.tmp 22), none⟩] [1, 2, 7, 8, 9, 23])
   (.cond (.tmp 23)
    (.skip)
    (.exit 0)))
   (.seq (.block 1 (.seq (.reg [
        ⟨(some 26), .mv (.tmp 7), none⟩,
        ⟨(some 27), .mv (.tmp 9), none⟩,
        ⟨(some 28), .iaddr 1 (.tmp 26) (.tmp 27), none⟩,
        ⟨(some 29), .load 1 false (.tmp 28), none⟩,
        ⟨(some 10), .mv (.tmp 29), none⟩] [1, 2, 7, 8, 9, 10])
    (.seq (.reg [
        ⟨(some 11), .mv (.const (.int .i64 0)), none⟩] [1, 2, 7, 8, 9, 10, 11])
    (.block 2 (.loop [1, 2, 7, 8, 9, 10, 11]
      (.seq (.seq (.reg [
          ⟨(some 30), .mv (.tmp 11), none⟩,
          ⟨(some 31), .mv (.tmp 8), none⟩,
          ⟨(some 32), .bin .lss (.tmp 30) (.tmp 31), none⟩] [1, 2, 7, 8, 9, 10, 11, 32])
      (.cond (.tmp 32)
       (.skip)
       (.exit 2)))
      (.seq (.block 3 (.seq (.reg [
           ⟨(some 35), .mv (.tmp 9), none⟩,
           ⟨(some 36), .mv (.tmp 8), none⟩,
           ⟨(some 37), .bin .sub (.tmp 35) (.tmp 36), none⟩,
           ⟨(some 38), .bin .add (.tmp 37) (.const (.int .i64 1)), none⟩,
           ⟨(some 39), .mv (.tmp 11), none⟩,
           ⟨(some 40), .bin .add (.tmp 38) (.tmp 39), none⟩,
           ⟨(some 12), .mv (.tmp 40), none⟩] [1, 2, 7, 8, 9, 10, 11, 12])
       (.reg [
           ⟨(some 41), .mv (.tmp 7), none⟩,
           ⟨(some 42), .mv (.tmp 12), none⟩,
           ⟨(some 43), .mv (.tmp 7), none⟩,
           ⟨(some 44), .mv (.tmp 12), none⟩,
           ⟨(some 45), .iaddr 1 (.tmp 43) (.tmp 44), none⟩,
           ⟨(some 46), .load 1 false (.tmp 45), none⟩,
           ⟨(some 47), .mv (.tmp 2), none⟩,
           ⟨(some 48), .mv (.tmp 10), none⟩,
           ⟨(some 49), .bin .sub (.tmp 47) (.tmp 48), none⟩,
           ⟨(some 50), .mv (.tmp 1), none⟩,
           ⟨(some 51), .mv (.tmp 11), none⟩,
           ⟨(some 52), .iaddr 1 (.tmp 50) (.tmp 51), none⟩,
           ⟨(some 53), .load 1 false (.tmp 52), none⟩,
           ⟨(some 54), .bin .mul (.tmp 49) (.tmp 53), none⟩,
           ⟨(some 55), .bin .add (.tmp 46) (.tmp 54), none⟩,
           ⟨(some 56), .mv (.tmp 2), none⟩,
           ⟨(some 57), .bin .rem (.tmp 55) (.tmp 56), none⟩,
           ⟨(some 58), .iaddr 1 (.tmp 41) (.tmp 42), none⟩,
           ⟨none, .store 1 (.tmp 58) (.tmp 57), none⟩] [1, 2, 7, 8, 9, 10, 11])))
      (.reg [
          ⟨(some 33), .mv (.tmp 11), none⟩,
          ⟨(some 34), .bin .add (.tmp 33) (.const (.int .i64 1)), none⟩,
          ⟨(some 11), .mv (.tmp 34), none⟩] [1, 2, 7, 8, 9, 10, 11]))))))))
   (.reg [
       ⟨(some 24), .mv (.tmp 9), none⟩,
       ⟨(some 25), .bin .sub (.tmp 24) (.const (.int .i64 1)), none⟩,
       ⟨(some 9), .mv (.tmp 25), none⟩] [1, 2, 7, 8, 9]))))))
 (.seq (.block 4 (.loop [7, 8]
   (.seq (.seq (.reg [
       ⟨(some 59), .mv (.tmp 7), none⟩,
       ⟨(some 60), .len (.tmp 59), none⟩,
       ⟨(some 61), .mv (.tmp 8), none⟩,
       ⟨(some 62), .bin .geq (.tmp 60) (.tmp 61), none⟩] [7, 8, 62])
   (.cond (.tmp 62)
    (.skip)
    (.exit 4)))
   (.block 5 (.reg [
        ⟨(some 63), .mv (.tmp 7), none⟩,
        ⟨(some 64), .mv (.tmp 7), none⟩,
        ⟨(some 65), .len (.tmp 64), none⟩,
        ⟨(some 66), .bin .sub (.tmp 65) (.const (.int .i64 1)), none⟩,
        ⟨(some 67), .slc 1 (.tmp 63) none (some (.tmp 66)), none⟩,
        ⟨(some 7), .mv (.tmp 67), none⟩] [7, 8])))))
 (.seq (.reg [
     ⟨(some 68), .mv (.tmp 7), none⟩,
     ⟨(some 6), .mv (.tmp 68), none⟩] [6])
 (.ret))))))
theorem s_spec_l03Rest : stripF Try.prog 86 [[0, 1, 2], [1, 2, 7], [1, 2, 7, 8], [1, 2, 7, 8, 9], [1, 2, 7, 8, 9], [1, 2, 7, 8, 9, 23], [1, 2, 7, 8, 9, 10], [1, 2, 7, 8, 9, 10, 11], [1, 2, 7, 8, 9, 10, 11], [1, 2, 7, 8, 9, 10, 11, 32], [1, 2, 7, 8, 9, 10, 11, 12], [1, 2, 7, 8, 9, 10, 11], [1, 2, 7, 8, 9, 10, 11], [1, 2, 7, 8, 9], [7, 8], [7, 8, 62], [7, 8], [6]] = some (c_spec_l03Rest, [.tmp 6], 69) := by kernel_rfl
theorem OkD.set {p x : Int} {xs : List Int} (h : OkD p xs) (i : Nat) (hx : 0 ≤ x ∧ x < p) : OkD p (xs.set i x) := fun z hz => by
  rcases List.mem_or_eq_of_mem_set hz with hz | rfl
  · exact h z hz
  · exact hx
theorem OkD.getD {p : Int} {xs : List Int} (h : OkD p xs) (hp : 0 < p) (i : Nat) : 0 ≤ xs.getD i 0 ∧ xs.getD i 0 < p := by
  rw [List.getD_eq_getElem?_getD]
  cases hx : xs[i]? with
  | none => exact ⟨Int.le_refl _, hp⟩
  | some x => exact h x (List.mem_of_getElem? hx)
def rstI (p : Int) (by' : List Int) (a : Nat) (c : Int) : Nat → List Int → List Int
  | 0, o => o
  | m + 1, o => rstI p by' a c m (o.set (a + (by'.length - (m + 1))) ((o.getD (a + (by'.length - (m + 1))) 0 + (p - c) * by'.getD (by'.length - (m + 1)) 0).tmod p))
def rstO (p : Int) (by' : List Int) : Nat → List Int → List Int
  | 0, o => o
  | f + 1, o => rstO p by' f (rstI p by' f (o.getD (f + (by'.length - 1)) 0) by'.length o)
def restL (a by' : List Int) (p : Int) : List Int := (rstO p by' (a.length + 1 - by'.length) a).take (by'.length - 1)
theorem rst_bd {p c b o : Int} (hp : p ≤ 10) (hc : 0 ≤ c ∧ c < p) (hb : 0 ≤ b ∧ b < p) (ho : 0 ≤ o ∧ o < p) : 0 ≤ (p - c) * b ∧ (p - c) * b ≤ 100 ∧ 0 ≤ (o + (p - c) * b).tmod p ∧ (o + (p - c) * b).tmod p < p := by
  have h1 : 0 ≤ (p - c) * b := Int.mul_nonneg (by omega) hb.1
  have h2 : (p - c) * b ≤ 10 * 10 := Int.mul_le_mul (by omega) (by omega) hb.1 (by omega)
  refine ⟨h1, by omega, ?_⟩
  rw [Int.tmod_eq_emod_of_nonneg (by omega)]
  exact ⟨Int.emod_nonneg _ (by omega), Int.emod_lt_of_pos _ (by omega)⟩
theorem rstI_ok {p : Int} {by' : List Int} {a : Nat} {c : Int} (hp : p ≤ 10) (hc : 0 ≤ c ∧ c < p) (hb : OkD p by') : ∀ (m : Nat) (o : List Int), OkD p o → OkD p (rstI p by' a c m o) ∧ (rstI p by' a c m o).length = o.length
  | 0, o, h => ⟨h, rfl⟩
  | m + 1, o, h => by
    have h1 := rstI_ok (a := a) hp hc hb m (o.set (a + (by'.length - (m + 1))) ((o.getD (a + (by'.length - (m + 1))) 0 + (p - c) * by'.getD (by'.length - (m + 1)) 0).tmod p)) (h.set _ (rst_bd hp hc (hb.getD (by omega) _) (h.getD (by omega) _)).2.2)
    exact ⟨h1.1, h1.2.trans (by simp)⟩
theorem rstO_ok {p : Int} {by' : List Int} (hp : p ≤ 10) (hp0 : 0 < p) (hb : OkD p by') : ∀ (f : Nat) (o : List Int), OkD p o → OkD p (rstO p by' f o) ∧ (rstO p by' f o).length = o.length
  | 0, o, h => ⟨h, rfl⟩
  | f + 1, o, h => by
    have h1 := rstI_ok (a := f) (c := o.getD (f + (by'.length - 1)) 0) hp (h.getD hp0 _) hb by'.length o h
    have h2 := rstO_ok hp hp0 hb f _ h1.1
    exact ⟨h2.1, h2.2.trans h1.2⟩
theorem restL_ok {p : Int} {a by' : List Int} (hp : p ≤ 10) (hp0 : 0 < p) (hb : OkD p by') (ha : OkD p a) : OkD p (restL a by' p) ∧ (restL a by' p).length ≤ a.length ∧ (restL a by' p).length ≤ by'.length - 1 := by
  obtain ⟨h1, h2⟩ := rstO_ok hp hp0 hb (a.length + 1 - by'.length) a ha
  refine ⟨fun z hz => h1 z (List.mem_of_mem_take hz), ?_, ?_⟩ <;> (unfold restL; rw [List.length_take]; omega)
theorem l03Rest_new (p : Nat) (a by' : List Int) (h1 : 1 ≤ p) (hp : p ≤ 10) (ha : OkD p a) (hb : OkD p by') (hl : a.length ≤ 64) (hn1 : 1 ≤ by'.length) (hn : by'.length ≤ 64) : NewL Try.prog f_spec_l03Rest [ilS a, ilS by', I p] (restL a by' p) := by
  intro H
  refine ACalls.introB s_spec_l03Rest (by simp) ?_; intro hB hA; unfold c_spec_l03Rest; simp (config := { maxSteps := 1000000 }) (disch := (first | omega | (simp only [go_sem]; try omega))) only [go_sem, Nat.reduceAdd, Nat.reduceEqDiff, Nat.reduceLeDiff, Nat.reduceMul, Nat.reduceLT, reduceIte, Int.reduceToNat, w64_id, cast_succ]
  have hp0 : ¬ (p : Int) = 0 := by omega
  repeat (first | (with_reducible first | refine SW.seq ?_ | refine SW.block ?_ | refine SW.rowC ?_ | refine SW.skip ?_ | refine SW.exit ?_ | intro _ | refine And.intro (by omega) ?_) | simp (config := { maxSteps := 1000000 }) (disch := (first | omega | (simp only [go_sem]; try omega))) only [go_sem, Nat.reduceAdd, Nat.reduceEqDiff, Nat.reduceLeDiff, Nat.reduceMul, Nat.reduceLT, reduceIte, Int.reduceToNat, w64_id, cast_succ])
  refine (l00OwnB_ok H a (by omega)).mono ?_
  rintro r H1 ⟨rfl, rfl⟩
  repeat (first | (with_reducible first | refine SW.seq ?_ | refine SW.block ?_ | refine SW.rowC ?_ | refine SW.skip ?_ | refine SW.exit ?_ | intro _ | refine And.intro (by omega) ?_) | simp (config := { maxSteps := 1000000 }) (disch := (first | omega | (simp only [go_sem]; try omega))) only [go_sem, Nat.reduceAdd, Nat.reduceEqDiff, Nat.reduceLeDiff, Nat.reduceMul, Nat.reduceLT, reduceIte, Int.reduceToNat, w64_id, cast_succ])
  generalize hR : rstO p by' (a.length + 1 - by'.length) a = R
  have hRn : restL a by' p = R.take (by'.length - 1) := by rw [← hR]; rfl
  rw [hRn]
  have hRk := rstO_ok (p := (p : Int)) (by omega) (by omega) hb (a.length + 1 - by'.length) a ha
  rw [hR] at hRk
  refine SW.loopE (fun E0 H0 q E' H' => ∃ (i : Int) (o : List Int), (i + 2 = q + by'.length ∨ (q = 0 ∧ i + 1 < by'.length)) ∧ i < a.length ∧ -1 ≤ i ∧ o.length = a.length ∧ OkD p o ∧ R = rstO p by' q o ∧ E' = aput E0 9 (I i) ∧ H' = H ++ [⟨1, 2, 1, o.map I⟩]) (a.length + 1 - by'.length) ⟨(a.length : Int) - 1, a, by omega, by omega, by omega, rfl, ha, hR.symm, by simp [go_sem], rfl⟩ ?_
  rintro q E' H' ⟨i, o, hi, hil, hi0, hol, ho, hq, rfl, rfl⟩
  simp (config := { maxSteps := 1000000 }) (disch := (first | omega | (simp only [go_sem]; try omega))) only [go_sem, Nat.reduceAdd, Nat.reduceEqDiff, Nat.reduceLeDiff, Nat.reduceMul, Nat.reduceLT, reduceIte, Int.reduceToNat, w64_id, cast_succ]
  repeat (first | (with_reducible first | refine SW.seq ?_ | refine SW.block ?_ | refine SW.rowC ?_ | refine SW.skip ?_ | refine SW.exit ?_ | intro _ | refine And.intro (by omega) ?_) | simp (config := { maxSteps := 1000000 }) (disch := (first | omega | (simp only [go_sem]; try omega))) only [go_sem, Nat.reduceAdd, Nat.reduceEqDiff, Nat.reduceLeDiff, Nat.reduceMul, Nat.reduceLT, reduceIte, Int.reduceToNat, w64_id, cast_succ])
  (first | refine SW.condD rfl (fun h2 => ?_) (fun h2 => ?_) | refine SW.condN rfl (fun h2 => ?_) (fun h2 => ?_) | refine SW.condNB rfl (fun h2 => ?_) (fun h2 => ?_) | refine SW.condB rfl (fun h2 => ?_) (fun h2 => ?_))
  · obtain ⟨f, rfl⟩ : ∃ f, q = f + 1 := ⟨q - 1, by omega⟩
    have hif : i = ((f + (by'.length - 1) : Nat) : Int) := by omega
    subst hif
    have hfl : f + (by'.length - 1) < o.length := by omega
    rw [rstO] at hq
    have hc := ho.getD (show (0 : Int) < p by omega) (f + (by'.length - 1))
    have hto : (o.map I).take a.length = o.map I := List.take_of_length_le (by simp; omega)
    generalize hc0 : o.getD (f + (by'.length - 1)) 0 = c at *
    generalize hS : rstI p by' f c by'.length o = S at *
    repeat (first | (with_reducible first | refine SW.seq ?_ | refine SW.block ?_ | refine SW.rowC ?_ | refine SW.skip ?_ | refine SW.exit ?_ | intro _ | refine And.intro (by omega) ?_) | simp (config := { maxSteps := 1000000 }) (disch := (first | omega | (simp only [go_sem]; try omega))) only [go_sem, Nat.reduceAdd, Nat.reduceEqDiff, Nat.reduceLeDiff, Nat.reduceMul, Nat.reduceLT, reduceIte, Int.reduceToNat, w64_id, cast_succ, hto, hc0])
    refine SW.loopE (fun E0 H0 m E' H' => ∃ (k : Nat) (x : List Int), k ≤ by'.length ∧ m = by'.length - k ∧ x.length = a.length ∧ OkD p x ∧ S = rstI p by' f c (by'.length - k) x ∧ E' = aput E0 11 (I k) ∧ H' = H ++ [⟨1, 2, 1, x.map I⟩]) by'.length ⟨0, o, by omega, by omega, hol, ho, by rw [← hS]; rfl, rfl, rfl⟩ ?_
    rintro m E' H' ⟨k, x, hk, rfl, hxl, hx, hs, rfl, rfl⟩
    simp (config := { maxSteps := 1000000 }) (disch := (first | omega | (simp only [go_sem]; try omega))) only [go_sem, Nat.reduceAdd, Nat.reduceEqDiff, Nat.reduceLeDiff, Nat.reduceMul, Nat.reduceLT, reduceIte, Int.reduceToNat, w64_id, cast_succ]
    repeat (first | (with_reducible first | refine SW.seq ?_ | refine SW.block ?_ | refine SW.rowC ?_ | refine SW.skip ?_ | refine SW.exit ?_ | intro _ | refine And.intro (by omega) ?_) | simp (config := { maxSteps := 1000000 }) (disch := (first | omega | (simp only [go_sem]; try omega))) only [go_sem, Nat.reduceAdd, Nat.reduceEqDiff, Nat.reduceLeDiff, Nat.reduceMul, Nat.reduceLT, reduceIte, Int.reduceToNat, w64_id, cast_succ])
    (first | refine SW.condD rfl (fun h3 => ?_) (fun h3 => ?_) | refine SW.condN rfl (fun h3 => ?_) (fun h3 => ?_) | refine SW.condNB rfl (fun h3 => ?_) (fun h3 => ?_) | refine SW.condB rfl (fun h3 => ?_) (fun h3 => ?_))
    · have hkn : k < by'.length := by omega
      rw [show by'.length - k = (by'.length - (k + 1)) + 1 by omega, rstI] at hs
      rw [show by'.length - (by'.length - (k + 1) + 1) = k by omega] at hs
      have hb1 := hb.getD (show (0 : Int) < p by omega) k
      have hx1 := hx.getD (show (0 : Int) < p by omega) (f + k)
      obtain ⟨d1, d2, d3⟩ := rst_bd (p := p) (by omega) hc hb1 hx1
      have hx' := hx.set (f + k) d3
      have htx : (x.map I).take a.length = x.map I := List.take_of_length_le (by simp; omega)
      generalize hbk : by'.getD k 0 = bk at *
      generalize hxk : x.getD (f + k) 0 = xk at *
      generalize hpr : ((p : Int) - c) * bk = pr at *
      have e1 : ((f + (by'.length - 1) : Nat) : Int) - (by'.length : Int) + 1 + (k : Int) = ((f + k : Nat) : Int) := by omega
      repeat (first | (with_reducible first | refine SW.seq ?_ | refine SW.block ?_ | refine SW.rowC ?_ | refine SW.skip ?_ | refine SW.exit ?_ | intro _ | refine And.intro (by omega) ?_) | simp (config := { maxSteps := 1000000 }) (disch := (first | omega | (simp only [go_sem]; try omega))) only [go_sem, Nat.reduceAdd, Nat.reduceEqDiff, Nat.reduceLeDiff, Nat.reduceMul, Nat.reduceLT, reduceIte, Int.reduceToNat, w64_id, cast_succ, htx, e1, hbk, hxk, hpr])
      refine SLoop.next (by'.length - (k + 1)) (by omega) ⟨k + 1, _, by omega, rfl, by rw [List.length_set]; exact hxl, hx', hs, by simp [go_sem], rfl⟩
    · have hkn : k = by'.length := by omega
      rw [hkn, Nat.sub_self, rstI] at hs
      subst hs
      repeat (first | (with_reducible first | refine SW.seq ?_ | refine SW.block ?_ | refine SW.rowC ?_ | refine SW.skip ?_ | refine SW.exit ?_ | intro _ | refine And.intro (by omega) ?_) | simp (config := { maxSteps := 1000000 }) (disch := (first | omega | (simp only [go_sem]; try omega))) only [go_sem, Nat.reduceAdd, Nat.reduceEqDiff, Nat.reduceLeDiff, Nat.reduceMul, Nat.reduceLT, reduceIte, Int.reduceToNat, w64_id, cast_succ])
      refine SLoop.next f (by omega) ⟨((f + (by'.length - 1) : Nat) : Int) - 1, S, by omega, by omega, by omega, hxl, hx, hq, by simp [go_sem], rfl⟩
  · have hq0 : q = 0 := by omega
    subst hq0
    rw [rstO] at hq
    subst hq
    repeat (first | (with_reducible first | refine SW.seq ?_ | refine SW.block ?_ | refine SW.rowC ?_ | refine SW.skip ?_ | refine SW.exit ?_ | intro _ | refine And.intro (by omega) ?_) | simp (config := { maxSteps := 1000000 }) (disch := (first | omega | (simp only [go_sem]; try omega))) only [go_sem, Nat.reduceAdd, Nat.reduceEqDiff, Nat.reduceLeDiff, Nat.reduceMul, Nat.reduceLT, reduceIte, Int.reduceToNat, w64_id, cast_succ])
    refine SW.loopE (fun E0 H0 m E' H' => ∃ (L : Nat), m = L ∧ L ≤ a.length ∧ (by'.length - 1 ≤ L ∨ L = a.length) ∧ E' = aput E0 7 (.nm H.length 1 0 L) ∧ H' = H0) a.length ⟨a.length, rfl, by omega, .inr rfl, rfl, rfl⟩ ?_
    rintro m E' H' ⟨L, rfl, hL, hL2, rfl, rfl⟩
    simp (config := { maxSteps := 1000000 }) (disch := (first | omega | (simp only [go_sem]; try omega))) only [go_sem, Nat.reduceAdd, Nat.reduceEqDiff, Nat.reduceLeDiff, Nat.reduceMul, Nat.reduceLT, reduceIte, Int.reduceToNat, w64_id, cast_succ]
    repeat (first | (with_reducible first | refine SW.seq ?_ | refine SW.block ?_ | refine SW.rowC ?_ | refine SW.skip ?_ | refine SW.exit ?_ | intro _ | refine And.intro (by omega) ?_) | simp (config := { maxSteps := 1000000 }) (disch := (first | omega | (simp only [go_sem]; try omega))) only [go_sem, Nat.reduceAdd, Nat.reduceEqDiff, Nat.reduceLeDiff, Nat.reduceMul, Nat.reduceLT, reduceIte, Int.reduceToNat, w64_id, cast_succ])
    (first | refine SW.condD rfl (fun h3 => ?_) (fun h3 => ?_) | refine SW.condN rfl (fun h3 => ?_) (fun h3 => ?_) | refine SW.condNB rfl (fun h3 => ?_) (fun h3 => ?_) | refine SW.condB rfl (fun h3 => ?_) (fun h3 => ?_))
    · have e1 : (m : Int) - 1 = ((m - 1 : Nat) : Int) := by omega
      repeat (first | (with_reducible first | refine SW.seq ?_ | refine SW.block ?_ | refine SW.rowC ?_ | refine SW.skip ?_ | refine SW.exit ?_ | intro _ | refine And.intro (by omega) ?_) | simp (config := { maxSteps := 1000000 }) (disch := (first | omega | (simp only [go_sem]; try omega))) only [go_sem, Nat.reduceAdd, Nat.reduceEqDiff, Nat.reduceLeDiff, Nat.reduceMul, Nat.reduceLT, reduceIte, Int.reduceToNat, w64_id, cast_succ, e1, Option.map_some, Option.map_none])
      rw [SlcG_nm (by simp) (by omega) (by omega), Int.toNat_natCast]
      refine SLoop.next (m - 1) (by omega) ⟨m - 1, rfl, by omega, by omega, by simp [go_sem], rfl⟩
    · repeat (first | (with_reducible first | refine SW.seq ?_ | refine SW.block ?_ | refine SW.rowC ?_ | refine SW.skip ?_ | refine SW.exit ?_ | intro _ | refine And.intro (by omega) ?_) | simp (config := { maxSteps := 1000000 }) (disch := (first | omega | (simp only [go_sem]; try omega))) only [go_sem, Nat.reduceAdd, Nat.reduceEqDiff, Nat.reduceLeDiff, Nat.reduceMul, Nat.reduceLT, reduceIte, Int.reduceToNat, w64_id, cast_succ])
      refine SW.ret ?_; (try simp only [go_sem]); (first | refine FunPost.one ?_ | refine FunPost.two ?_ | refine FunPost.three ?_); (try simp (config := { maxSteps := 1000000 }) (disch := (first | omega | (simp only [go_sem]; try omega))) only [go_sem, Nat.reduceAdd, Nat.reduceEqDiff, Nat.reduceLeDiff, Nat.reduceMul, Nat.reduceLT, reduceIte, Int.reduceToNat, w64_id, cast_succ])
      have htk : (R.take (by'.length - 1)).length = m := by rw [List.length_take, hRk.2]; omega
      have hRt : R.take m = R.take (by'.length - 1) := by
        rcases hL2 with h | h
        · rw [show m = by'.length - 1 by omega]
        · rw [List.take_of_length_le (by rw [hRk.2]; omega), List.take_of_length_le (by rw [hRk.2]; omega)]
      refine GR.trunc (i := H.length) (ver := 1) (ty := 2) (cells := R.map I) m (by simp) ?_
      rw [List.set_append_right _ _ (Nat.le_refl _), Nat.sub_self, List.set_cons_zero, ← List.map_take, hRt]
      have hn := newL_of (H := H) (k := H.length) (ver := 1) (ty := 2) (xs := R.take (by'.length - 1)) (ext := [⟨1, 2, 1, (R.take (by'.length - 1)).map I⟩]) (Nat.le_refl _) (by simp)
      rw [htk] at hn
      exact GR.of hn
end Go.Proofs.Ytnlfokkljgbaaaa
namespace Go.Proofs.Ytnlfokkljgbaaaa
open Go.Av
abbrev f_spec_l03Irreducible : Nat := 84
def c_spec_l03Irreducible : SC :=
 .seq (.reg [
     ⟨(some 4), .mv (.const (.bool false)), none⟩] [0, 1])
 (.seq (.reg [
     ⟨(some 10), .mv (.tmp 0), none⟩,
     ⟨(some 11), .len (.tmp 10), none⟩,
     ⟨(some 12), .bin .sub (.tmp 11) (.const (.int .i64 1)), none⟩,
     ⟨(some 5), .mv (.tmp 12), none⟩] [0, 1, 5])
 (.seq (.seq (.reg [
     ⟨(some 6), .mv (.const (.int .i64 1)), none⟩] [0, 1, 5, 6])
 (.block 0 (.loop [0, 1, 5, 6]
   (.seq (.seq (.reg [
       ⟨(some 13), .mv (.tmp 6), none⟩,
       ⟨(some 14), .bin .mul (.const (.int .i64 2)) (.tmp 13), none⟩,
       ⟨(some 15), .mv (.tmp 5), none⟩,
       ⟨(some 16), .bin .leq (.tmp 14) (.tmp 15), none⟩] [0, 1, 5, 6, 16])
   (.cond (.tmp 16)
    (.skip)
    (.exit 0)))
   (.seq (.block 1 (.seq (.reg [
        ⟨(some 7), .mv (.const (.int .i64 0)), none⟩] [0, 1, 5, 6, 7])
    (.block 2 (.loop [0, 1, 5, 6, 7]
      (.seq (.seq (.reg [
          ⟨(some 19), .mv (.tmp 7), none⟩,
          ⟨(some 20), .mv (.tmp 1), none⟩,
          ⟨(some 21), .mv (.tmp 6), none⟩,
          ⟨(some 22), .call 98 [(.tmp 20), (.tmp 21)], none⟩,
          ⟨(some 23), .bin .lss (.tmp 19) (.tmp 22), none⟩] [0, 1, 5, 6, 7, 23])
      (.cond (.tmp 23)
       (.skip)
       (.exit 2)))
      (.seq (.block 3 (.seq (.reg [
           ⟨(some 26), .mv (.tmp 7), none⟩,
           ⟨(some 27), .mv (.tmp 1), none⟩,
           ⟨(some 28), .mv (.tmp 6), none⟩,
           ⟨(some 29), .call 83 [(.tmp 26), (.tmp 27), (.tmp 28)], none⟩,
           ⟨(some 30), .bslice 2 1 1 [(.int .i64 0)] [(0, (.const (.int .i64 1)))], none⟩,
           ⟨(some 31), .app 2 1 8 (.tmp 29) (.tmp 30), none⟩,
           ⟨(some 8), .mv (.tmp 31), none⟩] [0, 1, 5, 6, 7, 8])
       (.seq (.reg [
           ⟨(some 32), .mv (.tmp 0), none⟩,
           ⟨(some 33), .mv (.tmp 8), none⟩,
           ⟨(some 34), .mv (.tmp 1), none⟩,
           ⟨(some 35), .call 86 [(.tmp 32), (.tmp 33), (.tmp 34)], none⟩,
           ⟨(some 9), .mv (.tmp 35), none⟩] [0, 1, 5, 6, 7, 9])
       (.seq (.reg [
           ⟨(some 36), .mv (.tmp 9), none⟩,
           ⟨(some 37), .mv (.tmp 1), none⟩,
           ⟨(some 38), .call 85 [(.tmp 36), (.tmp 37)], none⟩,
           ⟨(some 39), .bin .eql (.tmp 38) (.const (.int .i64 0)), none⟩] [0, 1, 5, 6, 7, 39])
       (.cond (.tmp 39)
        (.seq (.reg [
            ⟨(some 4), .mv (.const (.bool false)), none⟩] [4])
        (.ret))
        (.skip))))))
      (.reg [
          ⟨(some 24), .mv (.tmp 7), none⟩,
          ⟨(some 25), .bin .add (.tmp 24) (.const (.int .i64 1)), none⟩,
          ⟨(some 7), .mv (.tmp 25), none⟩] [0, 1, 5, 6, 7])))))))
   (.reg [
       ⟨(some 17), .mv (.tmp 6), none⟩,
       ⟨(some 18), .bin .add (.tmp 17) (.const (.int .i64 1)), none⟩,
       ⟨(some 6), .mv (.tmp 18), none⟩] [0, 1, 5, 6]))))))
 (.seq (.reg [
     ⟨(some 4), .mv (.const (.bool true)), none⟩] [4])
 (.ret))))
theorem s_spec_l03Irreducible : stripF Try.prog 84 [[0, 1], [0, 1, 5], [0, 1, 5, 6], [0, 1, 5, 6], [0, 1, 5, 6, 16], [0, 1, 5, 6, 7], [0, 1, 5, 6, 7], [0, 1, 5, 6, 7, 23], [0, 1, 5, 6, 7, 8], [0, 1, 5, 6, 7, 9], [0, 1, 5, 6, 7, 39], [4], [0, 1, 5, 6, 7], [0, 1, 5, 6], [4]] = some (c_spec_l03Irreducible, [.tmp 4], 40) := by kernel_rfl
abbrev tyFd : Nat := 90
def irrB (poly : List Int) (p : Nat) : Bool := decide (poly.length = 2) || (List.range p).all fun n => decide (numL p (restL poly (digL p 1 n ++ [1]) p) ≠ 0)
theorem l03Irreducible_fn (poly : List Int) (p : Nat) (h2 : 2 ≤ p) (hp : p ≤ 10) (hx : OkD p poly) (hl : poly.length = 2 ∨ poly.length = 3) : PFn Try.prog f_spec_l03Irreducible [ilS poly, I p] (Bv (irrB poly p)) := by
  intro H; refine ACalls.introB s_spec_l03Irreducible (by simp) ?_; intro hB hA; unfold c_spec_l03Irreducible; simp (config := { maxSteps := 1000000 }) (disch := (first | omega | (simp only [go_sem]; try omega))) only [go_sem, Nat.reduceAdd, Nat.reduceEqDiff, Nat.reduceLeDiff, Nat.reduceMul, Nat.reduceLT, reduceIte, Int.reduceToNat, w64_id, cast_succ]
  repeat (first | (with_reducible first | refine SW.seq ?_ | refine SW.block ?_ | refine SW.rowC ?_ | refine SW.skip ?_ | refine SW.exit ?_ | intro _ | refine And.intro (by omega) ?_) | simp (config := { maxSteps := 1000000 }) (disch := (first | omega | (simp only [go_sem]; try omega))) only [go_sem, Nat.reduceAdd, Nat.reduceEqDiff, Nat.reduceLeDiff, Nat.reduceMul, Nat.reduceLT, reduceIte, Int.reduceToNat, w64_id, cast_succ])
  refine SW.loopE (fun E0 H0 q E' H' => ∃ d : Nat, 1 ≤ d ∧ q = 2 - d ∧ E' = aput E0 6 (I d) ∧ H' = H0 ∧ (d = 1 ∨ d = 2) ∧ (d = 2 → poly.length = 3 ∧ irrB poly p = true)) 1 ⟨1, by omega, rfl, rfl, rfl, .inl rfl, by omega⟩ ?_
  rintro q E' H' ⟨d, h1, rfl, rfl, rfl, hd, hd2⟩
  simp (config := { maxSteps := 1000000 }) (disch := (first | omega | (simp only [go_sem]; try omega))) only [go_sem, Nat.reduceAdd, Nat.reduceEqDiff, Nat.reduceLeDiff, Nat.reduceMul, Nat.reduceLT, reduceIte, Int.reduceToNat, w64_id, cast_succ]
  repeat (first | (with_reducible first | refine SW.seq ?_ | refine SW.block ?_ | refine SW.rowC ?_ | refine SW.skip ?_ | refine SW.exit ?_ | intro _ | refine And.intro (by omega) ?_) | simp (config := { maxSteps := 1000000 }) (disch := (first | omega | (simp only [go_sem]; try omega))) only [go_sem, Nat.reduceAdd, Nat.reduceEqDiff, Nat.reduceLeDiff, Nat.reduceMul, Nat.reduceLT, reduceIte, Int.reduceToNat, w64_id, cast_succ])
  (first | refine SW.condD rfl (fun h3 => ?_) (fun h3 => ?_) | refine SW.condN rfl (fun h3 => ?_) (fun h3 => ?_) | refine SW.condNB rfl (fun h3 => ?_) (fun h3 => ?_) | refine SW.condB rfl (fun h3 => ?_) (fun h3 => ?_))
  · have h31 : poly.length = 3 ∧ d = 1 := by omega
    obtain ⟨hl3, rfl⟩ := h31
    clear hd hd2 hl
    repeat (first | (with_reducible first | refine SW.seq ?_ | refine SW.block ?_ | refine SW.rowC ?_ | refine SW.skip ?_ | refine SW.exit ?_ | intro _ | refine And.intro (by omega) ?_) | simp (config := { maxSteps := 1000000 }) (disch := (first | omega | (simp only [go_sem]; try omega))) only [go_sem, Nat.reduceAdd, Nat.reduceEqDiff, Nat.reduceLeDiff, Nat.reduceMul, Nat.reduceLT, reduceIte, Int.reduceToNat, w64_id, cast_succ])
    refine SW.loopE (fun E0 H0 q E' H' => ∃ n : Nat, n ≤ p ∧ q = p - n ∧ E' = aput E0 7 (I n) ∧ H' = H0 ∧ ∀ i, i < n → numL p (restL poly (digL p 1 i ++ [1]) p) ≠ 0) p ⟨0, by omega, rfl, rfl, rfl, fun i hi => by omega⟩ ?_
    rintro q E' H' ⟨n, hn, rfl, rfl, rfl, hall⟩
    have e1 : ((p ^ 1 : Nat) : Int) = (p : Int) := by rw [Nat.pow_one]
    have hpw := l03Power_fn p 1 (by omega) hp (by omega)
    rw [e1] at hpw
    simp (config := { maxSteps := 1000000 }) (disch := (first | omega | (simp only [go_sem]; try omega))) only [go_sem, Nat.reduceAdd, Nat.reduceEqDiff, Nat.reduceLeDiff, Nat.reduceMul, Nat.reduceLT, reduceIte, Int.reduceToNat, w64_id, cast_succ]
    repeat (first | (with_reducible first | refine SW.seq ?_ | refine SW.block ?_ | refine SW.rowC ?_ | refine SW.skip ?_ | refine SW.exit ?_ | refine PFn.use (hpw) ?_ | refine PFn.useq (hpw) ?_ | intro _ | refine And.intro (by omega) ?_) | simp (config := { maxSteps := 1000000 }) (disch := (first | omega | (simp only [go_sem]; try omega))) only [go_sem, Nat.reduceAdd, Nat.reduceEqDiff, Nat.reduceLeDiff, Nat.reduceMul, Nat.reduceLT, reduceIte, Int.reduceToNat, w64_id, cast_succ])
    (first | refine SW.condD rfl (fun h4 => ?_) (fun h4 => ?_) | refine SW.condN rfl (fun h4 => ?_) (fun h4 => ?_) | refine SW.condNB rfl (fun h4 => ?_) (fun h4 => ?_) | refine SW.condB rfl (fun h4 => ?_) (fun h4 => ?_))
    · repeat (first | (with_reducible first | refine SW.seq ?_ | refine SW.block ?_ | refine SW.rowC ?_ | refine SW.skip ?_ | refine SW.exit ?_ | intro _ | refine And.intro (by omega) ?_) | simp (config := { maxSteps := 1000000 }) (disch := (first | omega | (simp only [go_sem]; try omega))) only [go_sem, Nat.reduceAdd, Nat.reduceEqDiff, Nat.reduceLeDiff, Nat.reduceMul, Nat.reduceLT, reduceIte, Int.reduceToNat, w64_id, cast_succ])
      refine (l03Digits_new _ n p 1 (by omega) hp (by omega) (by omega)).mono ?_
      rintro r H1 ⟨ver, rfl, rfl⟩
      have hDl := digL_len p 1 n
      have hDo := digL_ok (p := p) (by omega) 1 n
      have han : irrB poly p = true → numL p (restL poly (digL p 1 n ++ [1]) p) ≠ 0 := fun h => by
        unfold irrB at h
        rw [Bool.or_eq_true, List.all_eq_true] at h
        rcases h with h | h
        · exact absurd (of_decide_eq_true h) (by omega)
        · exact of_decide_eq_true (h n (List.mem_range.2 (by omega)))
      have hal : ∀ i, i < n + 1 → numL p (restL poly (digL p 1 n ++ [1]) p) ≠ 0 → numL p (restL poly (digL p 1 i ++ [1]) p) ≠ 0 := fun i hi h => by
        by_cases h5 : i = n
        · rw [h5]; exact h
        · exact hall i (by omega)
      generalize hD : digL p 1 n = D at *
      have htl : (D.map I).take 1 = D.map I := List.take_of_length_le (by simp [hDl])
      have hBo : OkD p (D ++ [1]) := fun z hz => by
        rcases List.mem_append.1 hz with h | h
        · exact hDo z h
        · rw [List.mem_singleton.1 h]; omega
      have hBl : (D ++ [1]).length = 2 := by simp [hDl]
      repeat (first | (with_reducible first | refine SW.seq ?_ | refine SW.block ?_ | refine SW.rowC ?_ | refine SW.skip ?_ | refine SW.exit ?_ | intro _ | refine And.intro (by omega) ?_) | simp (config := { maxSteps := 1000000 }) (disch := (first | omega | (simp only [go_sem]; try omega))) only [go_sem, Nat.reduceAdd, Nat.reduceEqDiff, Nat.reduceLeDiff, Nat.reduceMul, Nat.reduceLT, reduceIte, Int.reduceToNat, w64_id, cast_succ, htl])
      have hfb := froz_rowI (H := H' ++ [⟨ver + 1, 2, 1, (D ++ [1]).map I⟩, (⟨0, 2, 1, [I 1]⟩ : Blk)]) (b := 0) (r := H'.length) (ver := ver + 1) (ty := 2) (xs := D ++ [1]) (Nat.zero_le _) (by simp)
      rw [hBl] at hfb
      have hrst := restL_ok (p := (p : Int)) (a := poly) (by omega) (by omega) hBo hx
      refine ACalls.fn ((l03Rest_new p poly (D ++ [1]) (by omega) hp hx hBo (by omega) (by omega) (by omega)).lendf (.cons (.old _ (by rw [Bel_ilS]; trivial)) (.cons hfb (.cons (froz_I' _) .nil)))) ?_
      generalize hRs : restL poly (D ++ [1]) p = Rs at *
      have hnum := l03Number_fn p Rs (by omega) hp hrst.1 (by omega)
      repeat (first | (with_reducible first | refine SW.seq ?_ | refine SW.block ?_ | refine SW.rowC ?_ | refine SW.skip ?_ | refine SW.exit ?_ | refine PFn.use (hnum) ?_ | refine PFn.useq (hnum) ?_ | intro _ | refine And.intro (by omega) ?_) | simp (config := { maxSteps := 1000000 }) (disch := (first | omega | (simp only [go_sem]; try omega))) only [go_sem, Nat.reduceAdd, Nat.reduceEqDiff, Nat.reduceLeDiff, Nat.reduceMul, Nat.reduceLT, reduceIte, Int.reduceToNat, w64_id, cast_succ])
      by_cases hz : numL (p : Int) Rs = 0
      · rw [decide_eq_true hz]
        refine SW.condT rfl ?_
        repeat (first | (with_reducible first | refine SW.seq ?_ | refine SW.block ?_ | refine SW.rowC ?_ | refine SW.skip ?_ | refine SW.exit ?_ | intro _ | refine And.intro (by omega) ?_) | simp (config := { maxSteps := 1000000 }) (disch := (first | omega | (simp only [go_sem]; try omega))) only [go_sem, Nat.reduceAdd, Nat.reduceEqDiff, Nat.reduceLeDiff, Nat.reduceMul, Nat.reduceLT, reduceIte, Int.reduceToNat, w64_id, cast_succ])
        have hr : irrB poly p = false := Bool.eq_false_iff.2 fun h => han h hz
        rw [hr]
        refine SW.ret ?_; (try simp only [go_sem]); (first | refine FunPost.one ?_ | refine FunPost.two ?_ | refine FunPost.three ?_); (try simp (config := { maxSteps := 1000000 }) (disch := (first | omega | (simp only [go_sem]; try omega))) only [go_sem, Nat.reduceAdd, Nat.reduceEqDiff, Nat.reduceLeDiff, Nat.reduceMul, Nat.reduceLT, reduceIte, Int.reduceToNat, w64_id, cast_succ]); (first | (with_reducible refine GR.drop ?_ ?_; (simp only [go_sem, and_self, and_true, true_and, implies_true, List.take_succ_cons, List.take_zero])) | refine GR.of ?_); refine ⟨?_, rfl⟩; (try with_reducible rfl)
      · rw [decide_eq_false hz]
        refine SW.condF rfl ?_
        repeat (first | (with_reducible first | refine SW.seq ?_ | refine SW.block ?_ | refine SW.rowC ?_ | refine SW.skip ?_ | refine SW.exit ?_ | intro _ | refine And.intro (by omega) ?_) | simp (config := { maxSteps := 1000000 }) (disch := (first | omega | (simp only [go_sem]; try omega))) only [go_sem, Nat.reduceAdd, Nat.reduceEqDiff, Nat.reduceLeDiff, Nat.reduceMul, Nat.reduceLT, reduceIte, Int.reduceToNat, w64_id, cast_succ])
        refine SLoop.nextT 0 (p - (n + 1)) hB (by omega) (by omega) (by simp) ?_ ?_ ⟨n + 1, by omega, rfl, by simp [go_sem], by simp, fun i hi => hal i hi hz⟩
        · (simp only [go_sem, Nat.reduceAdd, Nat.reduceEqDiff, reduceIte, go_sem, and_self, and_true, true_and, implies_true, List.take_succ_cons, List.take_zero, and_true, true_and]; try omega)
        · (simp only [go_sem, Nat.reduceAdd, Nat.reduceEqDiff, reduceIte, go_sem, and_self, and_true, true_and, implies_true, List.take_succ_cons, List.take_zero, and_true, true_and]; try omega)
    · have hnp : n = p := by omega
      subst hnp
      repeat (first | (with_reducible first | refine SW.seq ?_ | refine SW.block ?_ | refine SW.rowC ?_ | refine SW.skip ?_ | refine SW.exit ?_ | intro _ | refine And.intro (by omega) ?_) | simp (config := { maxSteps := 1000000 }) (disch := (first | omega | (simp only [go_sem]; try omega))) only [go_sem, Nat.reduceAdd, Nat.reduceEqDiff, Nat.reduceLeDiff, Nat.reduceMul, Nat.reduceLT, reduceIte, Int.reduceToNat, w64_id, cast_succ])
      refine SLoop.next 0 (by omega) ⟨2, by omega, rfl, by simp [go_sem], rfl, .inr rfl, fun _ => ⟨hl3, ?_⟩⟩
      unfold irrB
      rw [Bool.or_eq_true, List.all_eq_true]
      exact .inr fun i hi => decide_eq_true (hall i (List.mem_range.1 hi))
  · have hr : irrB poly p = true := by
      rcases hd with rfl | rfl
      · unfold irrB
        rw [show poly.length = 2 by omega]; rfl
      · exact (hd2 rfl).2
    rw [hr]
    repeat (first | (with_reducible first | refine SW.seq ?_ | refine SW.block ?_ | refine SW.rowC ?_ | refine SW.skip ?_ | refine SW.exit ?_ | intro _ | refine And.intro (by omega) ?_) | simp (config := { maxSteps := 1000000 }) (disch := (first | omega | (simp only [go_sem]; try omega))) only [go_sem, Nat.reduceAdd, Nat.reduceEqDiff, Nat.reduceLeDiff, Nat.reduceMul, Nat.reduceLT, reduceIte, Int.reduceToNat, w64_id, cast_succ])
    refine SW.ret ?_; (try simp only [go_sem]); (first | refine FunPost.one ?_ | refine FunPost.two ?_ | refine FunPost.three ?_); (try simp (config := { maxSteps := 1000000 }) (disch := (first | omega | (simp only [go_sem]; try omega))) only [go_sem, Nat.reduceAdd, Nat.reduceEqDiff, Nat.reduceLeDiff, Nat.reduceMul, Nat.reduceLT, reduceIte, Int.reduceToNat, w64_id, cast_succ]); (first | (with_reducible refine GR.drop ?_ ?_; (simp only [go_sem, and_self, and_true, true_and, implies_true, List.take_succ_cons, List.take_zero])) | refine GR.of ?_); refine ⟨?_, rfl⟩; (try with_reducible rfl)
end Go.Proofs.Ytnlfokkljgbaaaa
namespace Go.Proofs.Ytnlfokkljgbaaaa
open Go.Av
abbrev f_spec_l03Make : Nat := 58
def c_spec_l03Make : SC :=
 .seq (.reg [
     ⟨(some 2), .alloc 90 [(.int .i64 0), (.int .i64 0), (.slice none 0 0)], none⟩] [0, 2])
 (.seq (.reg [
     ⟨(some 8), .mv (.tmp 0), none⟩,
     ⟨(some 9), .call 82 [(.tmp 8)], none⟩,
     ⟨(some 7), .mv (.tmp 9), none⟩,
     ⟨(some 10), .ext (.tmp 7) 0, none⟩,
     ⟨(some 11), .ext (.tmp 7) 1, none⟩,
     ⟨(some 3), .mv (.tmp 10), none⟩,
     ⟨(some 4), .mv (.tmp 11), none⟩] [2, 3, 4])
 (.seq (.reg [
     ⟨(some 5), .mv (.const (.int .i64 0)), none⟩] [2, 3, 4, 5])
 (.block 0 (.loop [2, 3, 4, 5]
   (.seq (.block 1 (.seq (.reg [
        ⟨(some 14), .mv (.tmp 5), none⟩,
        ⟨(some 15), .mv (.tmp 3), none⟩,
        ⟨(some 16), .mv (.tmp 4), none⟩,
        ⟨(some 17), .call 83 [(.tmp 14), (.tmp 15), (.tmp 16)], none⟩,
        ⟨(some 18), .bslice 2 1 1 [(.int .i64 0)] [(0, (.const (.int .i64 1)))], none⟩,
        ⟨(some 19), .app 2 1 8 (.tmp 17) (.tmp 18), none⟩,
        ⟨(some 6), .mv (.tmp 19), none⟩] [2, 3, 4, 5, 6])
    (.seq (.reg [
        ⟨(some 20), .mv (.tmp 6), none⟩,
        ⟨(some 21), .mv (.tmp 3), none⟩,
        ⟨(some 22), .call 84 [(.tmp 20), (.tmp 21)], none⟩] [2, 3, 4, 5, 6, 22])
    (.cond (.tmp 22)
     (.seq (.reg [
         ⟨(some 23), .mv (.tmp 3), none⟩,
         ⟨(some 24), .mv (.tmp 4), none⟩,
         ⟨(some 25), .mv (.tmp 6), none⟩,
         ⟨(some 26), .build [(.int .i64 0), (.int .i64 0), (.slice none 0 0)] [(0, 1, (.tmp 23)), (1, 1, (.tmp 24)), (2, 1, (.tmp 25))], none⟩,
         ⟨none, .store 3 (.tmp 2) (.tmp 26), none⟩] [2])
     (.ret))
     (.skip)))))
   (.reg [
       ⟨(some 12), .mv (.tmp 5), none⟩,
       ⟨(some 13), .bin .add (.tmp 12) (.const (.int .i64 1)), none⟩,
       ⟨(some 5), .mv (.tmp 13), none⟩] [2, 3, 4, 5]))))))
theorem s_spec_l03Make : stripF Try.prog 58 [[0, 2], [2, 3, 4], [2, 3, 4, 5], [2, 3, 4, 5], [2, 3, 4, 5, 6], [2, 3, 4, 5, 6, 22], [2], [2, 3, 4, 5]] = some (c_spec_l03Make, [.cell 2 3], 27) := by kernel_rfl
abbrev f_spec_l03Split : Nat := 82
def c_spec_l03Split : SC :=
 .seq (.reg [
     ⟨(some 2), .mv (.const (.int .i64 0)), none⟩,
     ⟨(some 3), .mv (.const (.int .i64 0)), none⟩] [0])
 (.seq (.seq (.reg [
     ⟨(some 7), .mv (.tmp 0), none⟩,
     ⟨(some 8), .call 49 [(.tmp 7), (.const (.int .i64 2)), (.const (.int .i64 64))], none⟩,
     ⟨(some 9), .un .not (.tmp 8), none⟩] [0, 9])
 (.cond (.tmp 9)
  (.seq (.reg [
      ⟨(some 2), .mv (.const (.int .i64 0)), none⟩,
      ⟨(some 3), .mv (.const (.int .i64 0)), none⟩] [2, 3])
  (.ret))
  (.skip)))
 (.seq (.reg [
     ⟨(some 4), .mv (.const (.int .i64 2)), none⟩] [0, 4])
 (.seq (.block 0 (.loop [0, 4]
   (.seq (.seq (.reg [
       ⟨(some 10), .mv (.tmp 0), none⟩,
       ⟨(some 11), .mv (.tmp 4), none⟩,
       ⟨(some 12), .bin .rem (.tmp 10) (.tmp 11), none⟩,
       ⟨(some 13), .bin .neq (.tmp 12) (.const (.int .i64 0)), none⟩] [0, 4, 13])
   (.cond (.tmp 13)
    (.skip)
    (.exit 0)))
   (.block 1 (.reg [
        ⟨(some 14), .mv (.tmp 4), none⟩,
        ⟨(some 15), .bin .add (.tmp 14) (.const (.int .i64 1)), none⟩,
        ⟨(some 4), .mv (.tmp 15), none⟩] [0, 4])))))
 (.seq (.reg [
     ⟨(some 5), .mv (.const (.int .i64 0)), none⟩] [0, 4, 5])
 (.seq (.seq (.reg [
     ⟨(some 16), .mv (.tmp 0), none⟩,
     ⟨(some 6), .mv (.tmp 16), none⟩] [4, 5, 6])
 (.block 2 (.loop [4, 5, 6]
   (.seq (.seq (.reg [
       ⟨(some 17), .mv (.tmp 6), none⟩,
       ⟨(some 18), .bin .gtr (.tmp 17) (.const (.int .i64 1)), none⟩] [4, 5, 6, 18])
   (.cond (.tmp 18)
    (.skip)
    (.exit 2)))
   (.seq (.block 3 (.seq (.seq (.reg [
        ⟨(some 22), .mv (.tmp 6), none⟩,
        ⟨(some 23), .mv (.tmp 4), none⟩,
        ⟨(some 24), .bin .rem (.tmp 22) (.tmp 23), none⟩,
        ⟨(some 25), .bin .neq (.tmp 24) (.const (.int .i64 0)), none⟩] [4, 5, 6, 25])
    (.cond (.tmp 25)
     (.seq (.reg [
         ⟨(some 2), .mv (.const (.int .i64 0)), none⟩,
         ⟨(some 3), .mv (.const (.int .i64 0)), none⟩] [2, 3])
     (.ret))
     (.skip)))
    (.reg [
        ⟨(some 26), .mv (.tmp 5), none⟩,
        ⟨(some 27), .bin .add (.tmp 26) (.const (.int .i64 1)), none⟩,
        ⟨(some 5), .mv (.tmp 27), none⟩] [4, 5, 6])))
   (.reg [
       ⟨(some 19), .mv (.tmp 6), none⟩,
       ⟨(some 20), .mv (.tmp 4), none⟩,
       ⟨(some 21), .bin .quo (.tmp 19) (.tmp 20), none⟩,
       ⟨(some 6), .mv (.tmp 21), none⟩] [4, 5, 6]))))))
 (.seq (.reg [
     ⟨(some 28), .mv (.tmp 4), none⟩,
     ⟨(some 29), .mv (.tmp 5), none⟩,
     ⟨(some 2), .mv (.tmp 28), none⟩,
     ⟨(some 3), .mv (.tmp 29), none⟩] [2, 3])
 (.ret)))))))
theorem s_spec_l03Split : stripF Try.prog 82 [[0], [0, 9], [2, 3], [0, 4], [0, 4], [0, 4, 13], [0, 4], [0, 4, 5], [4, 5, 6], [4, 5, 6], [4, 5, 6, 18], [4, 5, 6, 25], [2, 3], [4, 5, 6], [4, 5, 6], [2, 3]] = some (c_spec_l03Split, [.tmp 2, .tmp 3], 30) := by kernel_rfl
def fdP (q : Nat) : Nat := if q = 4 then 2 else q
def fdK (q : Nat) : Nat := if q = 4 then 2 else 1
def fdL (q : Nat) : List Int := if q = 4 then [1, 1, 1] else [0, 1]
theorem fd_cases {q : Nat} (h1 : 2 ≤ q) (h2 : q ≤ 5) : (q = 2 ∨ q = 3 ∨ q = 4 ∨ q = 5) := by omega
theorem fd_mod {q p : Nat} (h1 : 2 ≤ q) (h2 : q ≤ 5) (hp : 2 ≤ p) (hp2 : p ≤ fdP q) : q % p = 0 ↔ p = fdP q := by
  have hp5 : p ≤ 5 := Nat.le_trans hp2 (by unfold fdP; split <;> omega)
  rcases fd_cases h1 h2 with rfl | rfl | rfl | rfl <;> (unfold fdP at hp2 ⊢; revert hp2; rcases fd_cases hp hp5 with rfl | rfl | rfl | rfl <;> decide)
theorem fd_bd {q : Nat} (h1 : 2 ≤ q) (h2 : q ≤ 5) : 2 ≤ fdP q ∧ fdP q ≤ 5 := by unfold fdP; split <;> omega
theorem l03Split_fn (q : Nat) (h1 : 2 ≤ q) (h5 : q ≤ 5) : PFn Try.prog f_spec_l03Split [I q] (.tup [I (fdP q), I (fdK q)]) := by
  intro H; refine ACalls.introB s_spec_l03Split (by simp) ?_; intro hB hA; unfold c_spec_l03Split; simp (config := { maxSteps := 1000000 }) (disch := (first | omega | (simp only [go_sem]; try omega))) only [go_sem, Nat.reduceAdd, Nat.reduceEqDiff, Nat.reduceLeDiff, Nat.reduceMul, Nat.reduceLT, reduceIte, Int.reduceToNat, w64_id, cast_succ]
  have hb : (decide ((2 : Int) ≤ (q : Int)) && decide ((q : Int) ≤ 64)) = true := by simp; omega
  repeat (first | (with_reducible first | refine SW.seq ?_ | refine SW.block ?_ | refine SW.rowC ?_ | refine SW.skip ?_ | refine SW.exit ?_ | refine PFn.use (l00In_fn _ _ _) ?_ | refine PFn.useq (l00In_fn _ _ _) ?_ | intro _ | refine And.intro (by omega) ?_) | simp (config := { maxSteps := 1000000 }) (disch := (first | omega | (simp only [go_sem]; try omega))) only [go_sem, Nat.reduceAdd, Nat.reduceEqDiff, Nat.reduceLeDiff, Nat.reduceMul, Nat.reduceLT, reduceIte, Int.reduceToNat, w64_id, cast_succ, hb])
  refine SW.condF rfl ?_
  repeat (first | (with_reducible first | refine SW.seq ?_ | refine SW.block ?_ | refine SW.rowC ?_ | refine SW.skip ?_ | refine SW.exit ?_ | intro _ | refine And.intro (by omega) ?_) | simp (config := { maxSteps := 1000000 }) (disch := (first | omega | (simp only [go_sem]; try omega))) only [go_sem, Nat.reduceAdd, Nat.reduceEqDiff, Nat.reduceLeDiff, Nat.reduceMul, Nat.reduceLT, reduceIte, Int.reduceToNat, w64_id, cast_succ])
  have hpb := fd_bd h1 h5
  refine SW.loopE (fun E0 H0 m E' H' => ∃ p : Nat, 2 ≤ p ∧ p ≤ fdP q ∧ m = fdP q - p ∧ E' = aput E0 4 (I p) ∧ H' = H0) (fdP q - 2) ⟨2, by omega, by omega, rfl, rfl, rfl⟩ ?_
  rintro m E' H' ⟨p, hp2, hpq, rfl, rfl, rfl⟩
  have hp0 : ¬ (p : Int) = 0 := by omega
  have hmod := fd_mod h1 h5 hp2 hpq
  simp (config := { maxSteps := 1000000 }) (disch := (first | omega | (simp only [go_sem]; try omega))) only [go_sem, Nat.reduceAdd, Nat.reduceEqDiff, Nat.reduceLeDiff, Nat.reduceMul, Nat.reduceLT, reduceIte, Int.reduceToNat, w64_id, cast_succ]
  repeat (first | (with_reducible first | refine SW.seq ?_ | refine SW.block ?_ | refine SW.rowC ?_ | refine SW.skip ?_ | refine SW.exit ?_ | intro _ | refine And.intro (by omega) ?_) | simp (config := { maxSteps := 1000000 }) (disch := (first | omega | (simp only [go_sem]; try omega))) only [go_sem, Nat.reduceAdd, Nat.reduceEqDiff, Nat.reduceLeDiff, Nat.reduceMul, Nat.reduceLT, reduceIte, Int.reduceToNat, w64_id, cast_succ, tmodN])
  by_cases hm : p = fdP q
  · have hd : decide (((q % p : Nat) : Int) = 0) = true := decide_eq_true (by have := hmod.2 hm; omega)
    rw [hd]
    refine SW.condF rfl ?_
    subst hm
    clear hmod hd
    repeat (first | (with_reducible first | refine SW.seq ?_ | refine SW.block ?_ | refine SW.rowC ?_ | refine SW.skip ?_ | refine SW.exit ?_ | intro _ | refine And.intro (by omega) ?_) | simp (config := { maxSteps := 1000000 }) (disch := (first | omega | (simp only [go_sem]; try omega))) only [go_sem, Nat.reduceAdd, Nat.reduceEqDiff, Nat.reduceLeDiff, Nat.reduceMul, Nat.reduceLT, reduceIte, Int.reduceToNat, w64_id, cast_succ])
    refine SW.loopE (fun E0 H0 m E' H' => ∃ (n k : Nat), ((n = q ∧ k = 0) ∨ (q = 4 ∧ n = 2 ∧ k = 1) ∨ (n = 1 ∧ k = fdK q)) ∧ m = n ∧ E' = aput (aput E0 5 (I k)) 6 (I n) ∧ H' = H0) q ⟨q, 0, .inl ⟨rfl, rfl⟩, rfl, rfl, rfl⟩ ?_
    rintro n E' H' ⟨_, k, hnk, rfl, rfl, rfl⟩
    simp (config := { maxSteps := 1000000 }) (disch := (first | omega | (simp only [go_sem]; try omega))) only [go_sem, Nat.reduceAdd, Nat.reduceEqDiff, Nat.reduceLeDiff, Nat.reduceMul, Nat.reduceLT, reduceIte, Int.reduceToNat, w64_id, cast_succ]
    repeat (first | (with_reducible first | refine SW.seq ?_ | refine SW.block ?_ | refine SW.rowC ?_ | refine SW.skip ?_ | refine SW.exit ?_ | intro _ | refine And.intro (by omega) ?_) | simp (config := { maxSteps := 1000000 }) (disch := (first | omega | (simp only [go_sem]; try omega))) only [go_sem, Nat.reduceAdd, Nat.reduceEqDiff, Nat.reduceLeDiff, Nat.reduceMul, Nat.reduceLT, reduceIte, Int.reduceToNat, w64_id, cast_succ, tmodN, tdivN])
    (first | refine SW.condD rfl (fun h3 => ?_) (fun h3 => ?_) | refine SW.condN rfl (fun h3 => ?_) (fun h3 => ?_) | refine SW.condNB rfl (fun h3 => ?_) (fun h3 => ?_) | refine SW.condB rfl (fun h3 => ?_) (fun h3 => ?_))
    · have hnk2 : n % fdP q = 0 ∧ ((q = 4 ∧ n / fdP q = 2 ∧ k + 1 = 1) ∨ (n / fdP q = 1 ∧ k + 1 = fdK q)) := by
        rcases fd_cases h1 h5 with rfl | rfl | rfl | rfl <;> simp [fdP, fdK] at hnk ⊢ <;> omega
      have hk2 : k ≤ 2 := by rcases fd_cases h1 h5 with rfl | rfl | rfl | rfl <;> simp [fdP, fdK] at hnk <;> omega
      have hn5 : n ≤ 5 := by omega
      generalize hD : n / fdP q = D at *
      generalize hM : n % fdP q = M at *
      generalize hF : fdP q = F at *
      have hD5 : D < n := by omega
      obtain ⟨hM0, hnk3⟩ := hnk2
      have hd : decide ((M : Int) = 0) = true := decide_eq_true (by omega)
      repeat (first | (with_reducible first | refine SW.seq ?_ | refine SW.block ?_ | refine SW.rowC ?_ | refine SW.skip ?_ | refine SW.exit ?_ | intro _ | refine And.intro (by omega) ?_) | simp (config := { maxSteps := 1000000 }) (disch := (first | omega | (simp only [go_sem]; try omega))) only [go_sem, Nat.reduceAdd, Nat.reduceEqDiff, Nat.reduceLeDiff, Nat.reduceMul, Nat.reduceLT, reduceIte, Int.reduceToNat, w64_id, cast_succ, tmodN, hM, hd])
      refine SW.condF rfl ?_
      repeat (first | (with_reducible first | refine SW.seq ?_ | refine SW.block ?_ | refine SW.rowC ?_ | refine SW.skip ?_ | refine SW.exit ?_ | intro _ | refine And.intro (by omega) ?_) | simp (config := { maxSteps := 1000000 }) (disch := (first | omega | (simp only [go_sem]; try omega))) only [go_sem, Nat.reduceAdd, Nat.reduceEqDiff, Nat.reduceLeDiff, Nat.reduceMul, Nat.reduceLT, reduceIte, Int.reduceToNat, w64_id, cast_succ, tdivN, hD])
      refine SLoop.next D (by omega) ⟨D, k + 1, by omega, rfl, by simp [go_sem], rfl⟩
    · have hkk : k = fdK q := by
        rcases fd_cases h1 h5 with rfl | rfl | rfl | rfl <;> simp [fdP, fdK] at hnk ⊢ <;> omega
      subst hkk
      repeat (first | (with_reducible first | refine SW.seq ?_ | refine SW.block ?_ | refine SW.rowC ?_ | refine SW.skip ?_ | refine SW.exit ?_ | intro _ | refine And.intro (by omega) ?_) | simp (config := { maxSteps := 1000000 }) (disch := (first | omega | (simp only [go_sem]; try omega))) only [go_sem, Nat.reduceAdd, Nat.reduceEqDiff, Nat.reduceLeDiff, Nat.reduceMul, Nat.reduceLT, reduceIte, Int.reduceToNat, w64_id, cast_succ])
      refine SW.ret ?_; (try simp only [go_sem]); (first | refine FunPost.one ?_ | refine FunPost.two ?_ | refine FunPost.three ?_); (try simp (config := { maxSteps := 1000000 }) (disch := (first | omega | (simp only [go_sem]; try omega))) only [go_sem, Nat.reduceAdd, Nat.reduceEqDiff, Nat.reduceLeDiff, Nat.reduceMul, Nat.reduceLT, reduceIte, Int.reduceToNat, w64_id, cast_succ]); (first | (with_reducible refine GR.drop ?_ ?_; (simp only [go_sem, and_self, and_true, true_and, implies_true, List.take_succ_cons, List.take_zero])) | refine GR.of ?_); refine ⟨?_, rfl⟩; (try with_reducible rfl)
  · have hd : decide (((q % p : Nat) : Int) = 0) = false := decide_eq_false (by
      intro h
      exact hm (hmod.1 (by omega)))
    rw [hd]
    refine SW.condT rfl ?_
    repeat (first | (with_reducible first | refine SW.seq ?_ | refine SW.block ?_ | refine SW.rowC ?_ | refine SW.skip ?_ | refine SW.exit ?_ | intro _ | refine And.intro (by omega) ?_) | simp (config := { maxSteps := 1000000 }) (disch := (first | omega | (simp only [go_sem]; try omega))) only [go_sem, Nat.reduceAdd, Nat.reduceEqDiff, Nat.reduceLeDiff, Nat.reduceMul, Nat.reduceLT, reduceIte, Int.reduceToNat, w64_id, cast_succ])
    refine SLoop.next (fdP q - (p + 1)) (by omega) ⟨p + 1, by omega, by omega, rfl, by simp [go_sem], rfl⟩
def fdT (q n : Nat) : List Int := digL (fdP q) (fdK q) n ++ [1]
theorem fdT_irr {q n : Nat} (h1 : 2 ≤ q) (h2 : q ≤ 5) (hn : n ≤ 3) : (irrB (fdT q n) (fdP q) = true ∧ (q ≠ 4 ∨ n = 3)) ∨ (irrB (fdT q n) (fdP q) = false ∧ q = 4 ∧ n < 3) := by
  have hn4 : n = 0 ∨ n = 1 ∨ n = 2 ∨ n = 3 := by omega
  rcases fd_cases h1 h2 with rfl | rfl | rfl | rfl <;> rcases hn4 with rfl | rfl | rfl | rfl <;> decide
theorem l03Make_fn (q : Nat) (h1 : 2 ≤ q) (h5 : q ≤ 5) : PFn Try.prog f_spec_l03Make [I q] (.agg [I (fdP q), I (fdK q), ilS (fdL q)]) := by
  intro H; refine ACalls.introB s_spec_l03Make (by simp) ?_; intro hB hA; unfold c_spec_l03Make; simp (config := { maxSteps := 1000000 }) (disch := (first | omega | (simp only [go_sem]; try omega))) only [go_sem, Nat.reduceAdd, Nat.reduceEqDiff, Nat.reduceLeDiff, Nat.reduceMul, Nat.reduceLT, reduceIte, Int.reduceToNat, w64_id, cast_succ]
  have hpb := fd_bd h1 h5
  repeat (first | (with_reducible first | refine SW.seq ?_ | refine SW.block ?_ | refine SW.rowC ?_ | refine SW.skip ?_ | refine SW.exit ?_ | refine PFn.use (l03Split_fn q h1 h5) ?_ | refine PFn.useq (l03Split_fn q h1 h5) ?_ | intro _ | refine And.intro (by omega) ?_) | simp (config := { maxSteps := 1000000 }) (disch := (first | omega | (simp only [go_sem]; try omega))) only [go_sem, Nat.reduceAdd, Nat.reduceEqDiff, Nat.reduceLeDiff, Nat.reduceMul, Nat.reduceLT, reduceIte, Int.reduceToNat, w64_id, cast_succ])
  refine SW.loopE (fun E0 H0 m E' H' => ∃ n : Nat, n ≤ (if q = 4 then 3 else 0) ∧ m = (if q = 4 then 3 else 0) - n ∧ E' = aput E0 5 (I n) ∧ H' = H0) (if q = 4 then 3 else 0) ⟨0, by omega, rfl, rfl, rfl⟩ ?_
  rintro m E' H' ⟨n, hn, rfl, rfl, rfl⟩
  have hn3 : n ≤ 3 := Nat.le_trans hn (by split <;> omega)
  have hir := fdT_irr h1 h5 hn3
  simp (config := { maxSteps := 1000000 }) (disch := (first | omega | (simp only [go_sem]; try omega))) only [go_sem, Nat.reduceAdd, Nat.reduceEqDiff, Nat.reduceLeDiff, Nat.reduceMul, Nat.reduceLT, reduceIte, Int.reduceToNat, w64_id, cast_succ]
  repeat (first | (with_reducible first | refine SW.seq ?_ | refine SW.block ?_ | refine SW.rowC ?_ | refine SW.skip ?_ | refine SW.exit ?_ | intro _ | refine And.intro (by omega) ?_) | simp (config := { maxSteps := 1000000 }) (disch := (first | omega | (simp only [go_sem]; try omega))) only [go_sem, Nat.reduceAdd, Nat.reduceEqDiff, Nat.reduceLeDiff, Nat.reduceMul, Nat.reduceLT, reduceIte, Int.reduceToNat, w64_id, cast_succ])
  refine (l03Digits_new _ n (fdP q) (fdK q) (by omega) (by omega) (by omega) (by unfold fdK; split <;> omega)).mono ?_
  rintro r H1 ⟨ver, rfl, rfl⟩
  have hDl := digL_len (fdP q) (fdK q) n
  have hDo := digL_ok (p := fdP q) (by omega) (fdK q) n
  have hT : fdT q n = digL (fdP q) (fdK q) n ++ [1] := rfl
  have hkb : 1 ≤ fdK q ∧ fdK q ≤ 2 := by unfold fdK; split <;> omega
  generalize hD : digL (fdP q) (fdK q) n = D at *
  have hBo : OkD (fdP q) (D ++ [1]) := fun z hz => by
    rcases List.mem_append.1 hz with h | h
    · exact hDo z h
    · rw [List.mem_singleton.1 h]; omega
  have hBl : (D ++ [1]).length = fdK q + 1 := by simp [hDl]
  have htl : (D.map I).take (fdK q) = D.map I := List.take_of_length_le (by simp [hDl])
  have hfl : fdL q = D ++ [1] ∨ irrB (fdT q n) (fdP q) = false := by
    rcases hir with ⟨h, h2⟩ | ⟨h, _⟩
    · left
      rw [← hT]
      have hn4 : n = 0 ∨ n = 1 ∨ n = 2 ∨ n = 3 := by omega
      revert hn h2
      rcases fd_cases h1 h5 with rfl | rfl | rfl | rfl <;> rcases hn4 with rfl | rfl | rfl | rfl <;> decide
    · exact .inr h
  repeat (first | (with_reducible first | refine SW.seq ?_ | refine SW.block ?_ | refine SW.rowC ?_ | refine SW.skip ?_ | refine SW.exit ?_ | intro _ | refine And.intro (by omega) ?_) | simp (config := { maxSteps := 1000000 }) (disch := (first | omega | (simp only [go_sem]; try omega))) only [go_sem, Nat.reduceAdd, Nat.reduceEqDiff, Nat.reduceLeDiff, Nat.reduceMul, Nat.reduceLT, reduceIte, Int.reduceToNat, w64_id, cast_succ, htl])
  have hfb := froz_rowI (H := H ++ [(⟨0, tyFd, 1, [I 0, I 0, nilS]⟩ : Blk), ⟨ver + 1, 2, 1, (D ++ [1]).map I⟩, (⟨0, 2, 1, [I 1]⟩ : Blk)]) (b := 0) (r := H.length + 1) (ver := ver + 1) (ty := 2) (xs := D ++ [1]) (Nat.zero_le _) (by simp)
  rw [hBl] at hfb
  refine ACalls.fn ((l03Irreducible_fn (D ++ [1]) (fdP q) (by omega) (by omega) hBo (by omega)).lend (.cons hfb (.cons (froz_I' _) .nil))) ?_
  rw [hT] at hir hfl
  repeat (first | (with_reducible first | refine SW.seq ?_ | refine SW.block ?_ | refine SW.rowC ?_ | refine SW.skip ?_ | refine SW.exit ?_ | intro _ | refine And.intro (by omega) ?_) | simp (config := { maxSteps := 1000000 }) (disch := (first | omega | (simp only [go_sem]; try omega))) only [go_sem, Nat.reduceAdd, Nat.reduceEqDiff, Nat.reduceLeDiff, Nat.reduceMul, Nat.reduceLT, reduceIte, Int.reduceToNat, w64_id, cast_succ])
  rcases hir with ⟨hi, h4⟩ | ⟨hi, h4, h5'⟩
  · rw [hi]
    refine SW.condT rfl ?_
    repeat (first | (with_reducible first | refine SW.seq ?_ | refine SW.block ?_ | refine SW.rowC ?_ | refine SW.skip ?_ | refine SW.exit ?_ | intro _ | refine And.intro (by omega) ?_) | simp (config := { maxSteps := 1000000 }) (disch := (first | omega | (simp only [go_sem]; try omega))) only [go_sem, Nat.reduceAdd, Nat.reduceEqDiff, Nat.reduceLeDiff, Nat.reduceMul, Nat.reduceLT, reduceIte, Int.reduceToNat, w64_id, cast_succ])
    refine SW.ret ?_
    have hz : fdL q = D ++ [1] := by
      rcases hfl with h | h
      · exact h
      · rw [hi] at h; exact absurd h (by decide)
    rw [hz]
    refine FunPost.cell (cs := [I (fdP q), I (fdK q), .nm (H.length + 1) (ver + 1) 0 (fdK q + 1)]) ?_ ?_
    · show acells _ 3 (.pc H.length 0 0) = _
      rw [ld_at (A := H) (q := H.length) (j := 0) (ver := 0) (ty := tyFd) (sz := 1) (off := 0) (n := 3) (cells := [I (fdP q), I (fdK q), .nm (H.length + 1) (ver + 1) 0 (fdK q + 1)]) (by omega) rfl (Nat.le_refl 3)]; rfl
    have hfc := froz_rowI (H := H ++ [(⟨0, tyFd, 1, [I (fdP q), I (fdK q), .nm (H.length + 1) (ver + 1) 0 (fdK q + 1)]⟩ : Blk), ⟨ver + 1, 2, 1, (D ++ [1]).map I⟩, (⟨0, 2, 1, [I 1]⟩ : Blk)]) (b := H.length) (r := H.length + 1) (ver := ver + 1) (ty := 2) (xs := D ++ [1]) (by omega) (by simp)
    rw [hBl] at hfc
    exact GR.froz (r' := .agg [I (fdP q), I (fdK q), ilS (D ++ [1])]) (Froz.agg _ _ rfl (froz_3 (froz_I' _) (froz_I' _) hfc)) ⟨rfl, rfl⟩
  · rw [hi]
    refine SW.condF rfl ?_
    repeat (first | (with_reducible first | refine SW.seq ?_ | refine SW.block ?_ | refine SW.rowC ?_ | refine SW.skip ?_ | refine SW.exit ?_ | intro _ | refine And.intro (by omega) ?_) | simp (config := { maxSteps := 1000000 }) (disch := (first | omega | (simp only [go_sem]; try omega))) only [go_sem, Nat.reduceAdd, Nat.reduceEqDiff, Nat.reduceLeDiff, Nat.reduceMul, Nat.reduceLT, reduceIte, Int.reduceToNat, w64_id, cast_succ])
    refine SLoop.nextT 1 (3 - (n + 1)) hB (by omega) (by subst h4; simp; omega) (by simp) ?_ ?_ ⟨n + 1, by subst h4; simp; omega, by subst h4; simp, by simp [go_sem], by simp⟩
    · (simp only [go_sem, Nat.reduceAdd, Nat.reduceEqDiff, reduceIte, go_sem, and_self, and_true, true_and, implies_true, List.take_succ_cons, List.take_zero, and_true, true_and]; try omega)
    · (simp only [go_sem, Nat.reduceAdd, Nat.reduceEqDiff, reduceIte, go_sem, and_self, and_true, true_and, implies_true, List.take_succ_cons, List.take_zero, and_true, true_and]; try omega)
end Go.Proofs.Ytnlfokkljgbaaaa
