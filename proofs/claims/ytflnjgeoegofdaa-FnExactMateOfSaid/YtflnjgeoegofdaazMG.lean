/- Mates: the reference's answer. -/
import Derived.Test.YtflnjgeoegofdaaProg
import Derived.KernelRfl
import Derived.Test.YtflnjgeoegofdaazQB
import Derived.Test.YtflnjgeoegofdaazMF
import Derived.Test.YtflnjgeoegofdaazM2
set_option linter.unusedSimpArgs false
set_option linter.unusedVariables false
set_option maxHeartbeats 4000000
set_option maxRecDepth 100000
namespace Go.Proofs.Ytflnjgeoegofdaa
open Go.Av
abbrev f_spec_MateOf : Nat := 5
def c_spec_MateOf : SC :=
 .seq (.reg [
     ⟨(some 4), .mv (.const (.slice none 0 0)), none⟩,
     ⟨(some 5), .mv (.const (.int .i64 0)), none⟩] [0, 1])
 (.seq (.seq (.reg [
     ⟨(some 10), .mv (.tmp 0), none⟩,
     ⟨(some 11), .call 12 [(.tmp 10)], none⟩,
     ⟨(some 12), .un .not (.tmp 11), none⟩] [0, 1, 12])
 (.cond (.tmp 12)
  (.seq (.reg [
      ⟨(some 4), .mv (.const (.slice none 0 0)), none⟩,
      ⟨(some 5), .mv (.const (.int .i64 1)), none⟩] [4, 5])
  (.ret))
  (.skip)))
 (.seq (.seq (.reg [
     ⟨(some 13), .mv (.tmp 1), none⟩,
     ⟨(some 14), .call 13 [(.tmp 13)], none⟩,
     ⟨(some 15), .un .not (.tmp 14), none⟩] [0, 1, 15])
 (.cond (.tmp 15)
  (.seq (.reg [
      ⟨(some 4), .mv (.const (.slice none 0 0)), none⟩,
      ⟨(some 5), .mv (.const (.int .i64 2)), none⟩] [4, 5])
  (.ret))
  (.skip)))
 (.seq (.reg [
     ⟨(some 16), .mv (.tmp 0), none⟩,
     ⟨(some 17), .len (.tmp 16), none⟩,
     ⟨(some 6), .mv (.tmp 17), none⟩] [0, 1, 6])
 (.seq (.reg [
     ⟨(some 18), .mv (.tmp 0), none⟩,
     ⟨(some 19), .mv (.tmp 6), none⟩,
     ⟨(some 20), .mv (.tmp 6), none⟩,
     ⟨(some 21), .call 14 [(.tmp 19), (.tmp 20)], none⟩,
     ⟨(some 22), .mv (.tmp 1), none⟩,
     ⟨(some 23), .build [(.slice none 0 0), (.slice none 0 0), (.int .i64 0), (.int .i64 0), (.bool false)] [(0, 1, (.tmp 18)), (1, 1, (.tmp 21)), (3, 1, (.tmp 22))], none⟩,
     ⟨(some 24), .box 36 (.tmp 23), none⟩,
     ⟨(some 7), .mv (.tmp 24), none⟩] [6, 7])
 (.seq (.seq (.reg [
     ⟨(some 8), .mv (.const (.int .i64 0)), none⟩] [6, 7, 8])
 (.block 0 (.loop [6, 7, 8]
   (.seq (.seq (.reg [
       ⟨(some 25), .mv (.tmp 8), none⟩,
       ⟨(some 26), .mv (.tmp 6), none⟩,
       ⟨(some 27), .bin .lss (.tmp 25) (.tmp 26), none⟩] [6, 7, 8, 27])
   (.cond (.tmp 27)
    (.skip)
    (.exit 0)))
   (.seq (.block 1 (.seq (.reg [
        ⟨(some 9), .mv (.const (.int .i64 0)), none⟩] [6, 7, 8, 9])
    (.block 2 (.loop [6, 7, 8, 9]
      (.seq (.seq (.reg [
          ⟨(some 30), .mv (.tmp 9), none⟩,
          ⟨(some 31), .mv (.tmp 6), none⟩,
          ⟨(some 32), .bin .lss (.tmp 30) (.tmp 31), none⟩] [6, 7, 8, 9, 32])
      (.cond (.tmp 32)
       (.skip)
       (.exit 2)))
      (.seq (.block 3 (.reg [
           ⟨(some 35), .mv (.tmp 7), none⟩,
           ⟨(some 36), .nilc (.tmp 35), none⟩,
           ⟨(some 37), .faddr 1 (.tmp 36), none⟩,
           ⟨(some 38), .load 1 false (.tmp 37), none⟩,
           ⟨(some 39), .mv (.tmp 8), none⟩,
           ⟨(some 40), .iaddr 1 (.tmp 38) (.tmp 39), none⟩,
           ⟨(some 41), .load 1 false (.tmp 40), none⟩,
           ⟨(some 42), .mv (.tmp 9), none⟩,
           ⟨(some 43), .iaddr 1 (.tmp 41) (.tmp 42), none⟩,
           ⟨none, .store 1 (.tmp 43) (.const (.int .i64 (-1))), none⟩] [6, 7, 8, 9]))
      (.reg [
          ⟨(some 33), .mv (.tmp 9), none⟩,
          ⟨(some 34), .bin .add (.tmp 33) (.const (.int .i64 1)), none⟩,
          ⟨(some 9), .mv (.tmp 34), none⟩] [6, 7, 8, 9])))))))
   (.reg [
       ⟨(some 28), .mv (.tmp 8), none⟩,
       ⟨(some 29), .bin .add (.tmp 28) (.const (.int .i64 1)), none⟩,
       ⟨(some 8), .mv (.tmp 29), none⟩] [6, 7, 8]))))))
 (.seq (.seq (.reg [
     ⟨(some 44), .mv (.tmp 7), none⟩,
     ⟨(some 45), .call 15 [(.tmp 44), (.const (.int .i64 0)), (.const (.int .i64 0))], none⟩] [7, 45])
 (.cond (.tmp 45)
  (.seq (.reg [
      ⟨(some 46), .mv (.tmp 7), none⟩,
      ⟨(some 47), .nilc (.tmp 46), none⟩,
      ⟨(some 48), .faddr 1 (.tmp 47), none⟩,
      ⟨(some 49), .load 1 false (.tmp 48), none⟩,
      ⟨(some 4), .mv (.tmp 49), none⟩,
      ⟨(some 5), .mv (.const (.int .i64 0)), none⟩] [4, 5])
  (.ret))
  (.skip)))
 (.seq (.seq (.reg [
     ⟨(some 50), .mv (.tmp 7), none⟩,
     ⟨(some 51), .nilc (.tmp 50), none⟩,
     ⟨(some 52), .faddr 4 (.tmp 51), none⟩,
     ⟨(some 53), .load 1 false (.tmp 52), none⟩] [53])
 (.cond (.tmp 53)
  (.seq (.reg [
      ⟨(some 4), .mv (.const (.slice none 0 0)), none⟩,
      ⟨(some 5), .mv (.const (.int .i64 5)), none⟩] [4, 5])
  (.ret))
  (.skip)))
 (.seq (.reg [
     ⟨(some 4), .mv (.const (.slice none 0 0)), none⟩,
     ⟨(some 5), .mv (.const (.int .i64 3)), none⟩] [4, 5])
 (.ret)))))))))
theorem s_spec_MateOf : stripF Try.prog 5 [[0, 1], [0, 1, 12], [4, 5], [0, 1, 15], [4, 5], [0, 1, 6], [6, 7], [6, 7, 8], [6, 7, 8], [6, 7, 8, 27], [6, 7, 8, 9], [6, 7, 8, 9], [6, 7, 8, 9, 32], [6, 7, 8, 9], [6, 7, 8, 9], [6, 7, 8], [7, 45], [4, 5], [53], [4, 5], [4, 5]] = some (c_spec_MateOf, [.tmp 4, .tmp 5], 54) := by kernel_rfl
theorem matR_sq (a : List (List Int)) (n : Nat) : ∀ (r : Nat) (b : List (List Int)) (st : MS), (b.length = n ∧ ∀ x ∈ b, x.length = n) → (∀ q, st.res = some q → q.length = n ∧ ∀ x ∈ q, x.length = n) → ∀ q, (matR a n r b st).res = some q → q.length = n ∧ ∀ x ∈ q, x.length = n
  | 0, b, st, hb, _ => by
    intro q hq
    cases hq; exact hb
  | r + 1, b, st, hb, h => by
    have key : ∀ (k x : Nat) (l : List Nat) (st : MS), (∀ q, st.res = some q → q.length = n ∧ ∀ x ∈ q, x.length = n) → ∀ q, (l.foldl (stepM a n (matR a n r) b k x) st).res = some q → q.length = n ∧ ∀ x ∈ q, x.length = n := by
      intro k x l
      induction l with
      | nil => exact fun st h => h
      | cons y l ih =>
        intro st h
        rw [List.foldl_cons]
        refine ih _ ?_
        unfold stepM
        split
        · exact h
        · split
          · exact h
          · split
            · exact h
            · exact matR_sq a n r _ _ (setC_ok hb) h
    exact key _ _ _ st h
theorem froz_sqB0 {Hb : List Blk} {v w b : Nat} {xss : List (List Int)} {ext : List Blk} (hb : b ≤ Hb.length) : Froz (Hb ++ (sqB v w Hb.length xss ++ ext)) b (.nm Hb.length v 0 xss.length) (ilSS xss) := by
  refine .nm Hb.length v 0 xss.length _ (xss.map ilS) hb sq_get0 rfl (by simp [nmsV_length]) ?_
  simp only [List.drop_zero, Nat.mul_one]
  rw [List.take_of_length_le (by rw [nmsV_length]; exact Nat.le_refl _)]
  intro j c c' hc hc'
  rw [List.getElem?_map] at hc'
  have hl : j < xss.length := by
    have := (List.getElem?_eq_some_iff.1 hc).1
    rw [nmsV_length] at this; exact this
  rw [sq_cell hl] at hc
  rw [List.getElem?_eq_getElem hl] at hc'
  cases hc
  simp only [Option.map_some, Option.some.injEq] at hc'
  subst hc'
  have e : xss.getD j [] = xss[j] := by simp [hl]
  have := sq_get (Hb := Hb) (v := v) (w := w) (ext := ext) hl
  rw [e] at this ⊢
  exact froz_rowI (by omega) this
theorem lStart_ok (a : List (List Int)) (n bud : Nat) (hn : 1 ≤ n ∧ n ≤ 10) (ha : a.length = n ∧ ∀ r ∈ a, r.length = n) (hcell : ∀ x y, x < n → y < n → ∃ s : Nat, cellAt a x y = s ∧ s < n) (hbud : bud ≤ 20000) (H : List Blk) :
    ACalls Try.prog f_spec_l07Mate_run [.pc (H.length + (n + 1)) 0 0, I 0, I 0] (hpL H n bud a (List.replicate n (List.replicate n (-1))) bud false) (fun v H' => v = Bv (mtS a bud).res.isSome ∧ ∃ m, m.length = n ∧ H' = hpL H n bud a (outM m (mtS a bud)) (mtS a bud).left (mtS a bud).spent) := by
  have hla := ha.1
  have hm : mtS a bud = matR a n (n * (n - 1)) (topM n n) ⟨bud, false, none⟩ := by unfold mtS; rw [hla]
  rw [hm]
  have hz : (List.replicate n (List.replicate n (-1 : Int))).length = n ∧ ∀ r ∈ List.replicate n (List.replicate n (-1 : Int)), r.length = n := topM_ok 0
  have hfirst := maskM_first hn.1
  generalize List.replicate n (List.replicate n (-1 : Int)) = z at *
  have e0 : ∀ sq left fl, hpL H n bud a sq left fl = H ++ (sqB n 0 H.length sq ++ [⟨0, tyL7, 1, [ilSS a, .nm H.length n 0 n, I ((bud - left : Nat) : Int), I bud, Bv fl]⟩]) := fun _ _ _ => rfl
  have hQ := sqB_length n 0 H.length z
  rw [hz.1] at hQ
  have hg1 := fun (b : Blk) (r : List Blk) => getAt hQ b r
  have hmx : (z.getD 0 []).length = n := hz.2 _ (by rw [getD_get (by omega)]; exact List.getElem_mem _)
  have t0 := fun ext => q0w (H := H) (n := n) (w := 0) (sq := z) (ext := ext)
  have t1 := qtakew (H := H) (w := 0) hz.1
  have t2 := qcellw (H := H) (w := 0) (x := 0) hz (by omega)
  have t3 := fun ext => qroww (H := H) (w := 0) (x := 0) (ext := ext) hz.1 (by omega)
  have htk : ((z.getD 0 []).map I).take n = (z.getD 0 []).map I := List.take_of_length_le (by simp only [List.length_map]; omega)
  have c4 := fun (v : Int) ext => qsetw (H := H) (n := n) (w := 0) (y := 0) (ext := ext) hz.1 (show 0 < n by omega) v
  rw [e0 z bud false]
  refine ACalls.introB s_spec_l07Mate_run (by simp) ?_; intro hB hA; unfold c_spec_l07Mate_run; simp (config := { maxSteps := 1000000 }) (disch := (first | omega | (simp only [go_sem]; try omega))) only [go_sem, Nat.reduceAdd, Nat.reduceEqDiff, Nat.reduceLeDiff, Nat.reduceMul, Nat.reduceLT, reduceIte, Int.reduceToNat, w64_id, cast_succ]
  repeat (first | (with_reducible first | refine SW.seq ?_ | refine SW.block ?_ | refine SW.rowC ?_ | refine SW.skip ?_ | refine SW.exit ?_ | intro _ | refine And.intro (by omega) ?_) | simp (config := { maxSteps := 1000000 }) (disch := (first | omega | (simp only [go_sem]; try omega))) only [go_sem, Nat.reduceAdd, Nat.reduceEqDiff, Nat.reduceLeDiff, Nat.reduceMul, Nat.reduceLT, reduceIte, Int.reduceToNat, w64_id, cast_succ, hg1, hla])
  refine SW.condF (show Bv (decide ((0 : Int) = n)) = Bv false by rw [decide_eq_false (by omega)]) ?_
  repeat (first | (with_reducible first | refine SW.seq ?_ | refine SW.block ?_ | refine SW.rowC ?_ | refine SW.skip ?_ | refine SW.exit ?_ | intro _ | refine And.intro (by omega) ?_) | simp (config := { maxSteps := 1000000 }) (disch := (first | omega | (simp only [go_sem]; try omega))) only [go_sem, Nat.reduceAdd, Nat.reduceEqDiff, Nat.reduceLeDiff, Nat.reduceMul, Nat.reduceLT, reduceIte, Int.reduceToNat, w64_id, cast_succ])
  refine SW.condF (show Bv (decide ((0 : Int) = n)) = Bv false by rw [decide_eq_false (by omega)]) ?_
  repeat (first | (with_reducible first | refine SW.seq ?_ | refine SW.block ?_ | refine SW.rowC ?_ | refine SW.skip ?_ | refine SW.exit ?_ | intro _ | refine And.intro (by omega) ?_) | simp (config := { maxSteps := 1000000 }) (disch := (first | omega | (simp only [go_sem]; try omega))) only [go_sem, Nat.reduceAdd, Nat.reduceEqDiff, Nat.reduceLeDiff, Nat.reduceMul, Nat.reduceLT, reduceIte, Int.reduceToNat, w64_id, cast_succ])
  refine SW.condT rfl ?_
  repeat (first | (with_reducible first | refine SW.seq ?_ | refine SW.block ?_ | refine SW.rowC ?_ | refine SW.skip ?_ | refine SW.exit ?_ | intro _ | refine And.intro (by omega) ?_) | simp (config := { maxSteps := 1000000 }) (disch := (first | omega | (simp only [go_sem]; try omega))) only [go_sem, Nat.reduceAdd, Nat.reduceEqDiff, Nat.reduceLeDiff, Nat.reduceMul, Nat.reduceLT, reduceIte, Int.reduceToNat, w64_id, cast_succ, hg1, t0, t1, t2, t3, htk, hmx, c4])
  rw [hfirst]
  refine (lRun_ok a n bud hn ha hcell hbud (n * (n - 1)) H (topM n n) 0 1 ⟨bud, false, none⟩ (topM_bok hn.1) (Nat.le_refl _) hn.1 hn.1 (by omega) rfl rfl (Nat.le_refl _)).mono ?_
  rintro v H5 ⟨rfl, rfl⟩
  generalize matR a n (n * (n - 1)) (topM n n) ⟨bud, false, none⟩ = s3 at *
  obtain ⟨left3, spent3, res3⟩ := s3
  cases res3 with
  | some b' =>
    repeat (first | (with_reducible first | refine SW.seq ?_ | refine SW.block ?_ | refine SW.rowC ?_ | refine SW.skip ?_ | refine SW.exit ?_ | intro _ | refine And.intro (by omega) ?_) | simp (config := { maxSteps := 1000000 }) (disch := (first | omega | (simp only [go_sem]; try omega))) only [go_sem, Nat.reduceAdd, Nat.reduceEqDiff, Nat.reduceLeDiff, Nat.reduceMul, Nat.reduceLT, reduceIte, Int.reduceToNat, w64_id, cast_succ])
    refine SW.condT rfl ?_
    repeat (first | (with_reducible first | refine SW.seq ?_ | refine SW.block ?_ | refine SW.rowC ?_ | refine SW.skip ?_ | refine SW.exit ?_ | intro _ | refine And.intro (by omega) ?_) | simp (config := { maxSteps := 1000000 }) (disch := (first | omega | (simp only [go_sem]; try omega))) only [go_sem, Nat.reduceAdd, Nat.reduceEqDiff, Nat.reduceLeDiff, Nat.reduceMul, Nat.reduceLT, reduceIte, Int.reduceToNat, w64_id, cast_succ])
    refine SW.ret ?_; (try simp only [go_sem]); (first | refine FunPost.one ?_ | refine FunPost.two ?_ | refine FunPost.three ?_); (try simp (config := { maxSteps := 1000000 }) (disch := (first | omega | (simp only [go_sem]; try omega))) only [go_sem, Nat.reduceAdd, Nat.reduceEqDiff, Nat.reduceLeDiff, Nat.reduceMul, Nat.reduceLT, reduceIte, Int.reduceToNat, w64_id, cast_succ])
    exact GR.of ⟨rfl, topM n n, (topM_ok n).1, rfl⟩
  | none =>
    have hm2 := maskM_ok (k := 0) (topM_ok (n := n) n)
    have hQ2 := sqB_length n 0 H.length (maskM (topM n n) n 0)
    rw [hm2.1] at hQ2
    have kg1 := fun (b : Blk) (r : List Blk) => getAt hQ2 b r
    have u0 := fun ext => q0w (H := H) (n := n) (w := 0) (sq := maskM (topM n n) n 0) (ext := ext)
    have u1 := qtakew (H := H) (w := 0) hm2.1
    have u2 := qcellw (H := H) (w := 0) (x := 0) hm2 (by omega)
    have u3 := fun ext => qroww (H := H) (w := 0) (x := 0) (ext := ext) hm2.1 (by omega)
    have umx : ((maskM (topM n n) n 0).getD 0 []).length = n := hm2.2 _ (by rw [getD_get (by rw [hm2.1]; omega)]; exact List.getElem_mem _)
    have utk : (((maskM (topM n n) n 0).getD 0 []).map I).take n = ((maskM (topM n n) n 0).getD 0 []).map I := List.take_of_length_le (by simp only [List.length_map]; omega)
    have u4 := fun (v : Int) ext => qsetw (H := H) (n := n) (w := 0) (y := 0) (ext := ext) hm2.1 (show 0 < n by omega) v
    have hout : outM (maskM (topM n n) n 0) ⟨left3, spent3, none⟩ = maskM (topM n n) n 0 := rfl
    rw [hout, e0 (maskM (topM n n) n 0)]
    repeat (first | (with_reducible first | refine SW.seq ?_ | refine SW.block ?_ | refine SW.rowC ?_ | refine SW.skip ?_ | refine SW.exit ?_ | intro _ | refine And.intro (by omega) ?_) | simp (config := { maxSteps := 1000000 }) (disch := (first | omega | (simp only [go_sem]; try omega))) only [go_sem, Nat.reduceAdd, Nat.reduceEqDiff, Nat.reduceLeDiff, Nat.reduceMul, Nat.reduceLT, reduceIte, Int.reduceToNat, w64_id, cast_succ])
    refine SW.condF rfl ?_
    repeat (first | (with_reducible first | refine SW.seq ?_ | refine SW.block ?_ | refine SW.rowC ?_ | refine SW.skip ?_ | refine SW.exit ?_ | intro _ | refine And.intro (by omega) ?_) | simp (config := { maxSteps := 1000000 }) (disch := (first | omega | (simp only [go_sem]; try omega))) only [go_sem, Nat.reduceAdd, Nat.reduceEqDiff, Nat.reduceLeDiff, Nat.reduceMul, Nat.reduceLT, reduceIte, Int.reduceToNat, w64_id, cast_succ, kg1, u0, u1, u2, u3, umx, utk, u4])
    repeat (first | (with_reducible first | refine SW.seq ?_ | refine SW.block ?_ | refine SW.rowC ?_ | refine SW.skip ?_ | refine SW.exit ?_ | intro _ | refine And.intro (by omega) ?_) | simp (config := { maxSteps := 1000000 }) (disch := (first | omega | (simp only [go_sem]; try omega))) only [go_sem, Nat.reduceAdd, Nat.reduceEqDiff, Nat.reduceLeDiff, Nat.reduceMul, Nat.reduceLT, reduceIte, Int.reduceToNat, w64_id, cast_succ])
    refine SW.ret ?_; (try simp only [go_sem]); (first | refine FunPost.one ?_ | refine FunPost.two ?_ | refine FunPost.three ?_); (try simp (config := { maxSteps := 1000000 }) (disch := (first | omega | (simp only [go_sem]; try omega))) only [go_sem, Nat.reduceAdd, Nat.reduceEqDiff, Nat.reduceLeDiff, Nat.reduceMul, Nat.reduceLT, reduceIte, Int.reduceToNat, w64_id, cast_succ])
    exact GR.of ⟨rfl, _, (setC_ok hm2).1, rfl⟩
theorem specMate_fn (a : List (List Int)) (b : Int) : PFn Try.prog f_spec_MateOf [ilSS a, I b] (.tup [ilSS (mtV a b).1, I (mtV a b).2]) := by
  intro H
  have hv := l06Ok_fn a
  refine ACalls.introB s_spec_MateOf (by simp) ?_; intro hB hA; unfold c_spec_MateOf; simp (config := { maxSteps := 1000000 }) (disch := (first | omega | (simp only [go_sem]; try omega))) only [go_sem, Nat.reduceAdd, Nat.reduceEqDiff, Nat.reduceLeDiff, Nat.reduceMul, Nat.reduceLT, reduceIte, Int.reduceToNat, w64_id, cast_succ]
  repeat (first | (with_reducible first | refine SW.seq ?_ | refine SW.block ?_ | refine SW.rowC ?_ | refine SW.skip ?_ | refine SW.exit ?_ | refine PFn.use (hv) ?_ | refine PFn.useq (hv) ?_ | intro _ | refine And.intro (by omega) ?_) | simp (config := { maxSteps := 1000000 }) (disch := (first | omega | (simp only [go_sem]; try omega))) only [go_sem, Nat.reduceAdd, Nat.reduceEqDiff, Nat.reduceLeDiff, Nat.reduceMul, Nat.reduceLT, reduceIte, Int.reduceToNat, w64_id, cast_succ])
  (first | refine SW.condD rfl (fun h => ?_) (fun h => ?_) | refine SW.condN rfl (fun h => ?_) (fun h => ?_) | refine SW.condNB rfl (fun h => ?_) (fun h => ?_) | refine SW.condB rfl (fun h => ?_) (fun h => ?_))
  · rw [mtV, h]
    repeat (first | (with_reducible first | refine SW.seq ?_ | refine SW.block ?_ | refine SW.rowC ?_ | refine SW.skip ?_ | refine SW.exit ?_ | intro _ | refine And.intro (by omega) ?_) | simp (config := { maxSteps := 1000000 }) (disch := (first | omega | (simp only [go_sem]; try omega))) only [go_sem, Nat.reduceAdd, Nat.reduceEqDiff, Nat.reduceLeDiff, Nat.reduceMul, Nat.reduceLT, reduceIte, Int.reduceToNat, w64_id, cast_succ])
    refine SW.ret ?_; (try simp only [go_sem]); (first | refine FunPost.one ?_ | refine FunPost.two ?_ | refine FunPost.three ?_); (try simp (config := { maxSteps := 1000000 }) (disch := (first | omega | (simp only [go_sem]; try omega))) only [go_sem, Nat.reduceAdd, Nat.reduceEqDiff, Nat.reduceLeDiff, Nat.reduceMul, Nat.reduceLT, reduceIte, Int.reduceToNat, w64_id, cast_succ])
    exact GR.froz0 (froz_tup2 .nil (froz_I' _)) ⟨rfl, rfl⟩
  have hf := latB_facts h
  rw [mtV, h]
  have ib := l09Budget_fn b
  cases h1 : (decide (1 ≤ b) && decide (b ≤ 20000))
  · rw [h1] at ib
    repeat (first | (with_reducible first | refine SW.seq ?_ | refine SW.block ?_ | refine SW.rowC ?_ | refine SW.skip ?_ | refine SW.exit ?_ | refine PFn.use (ib) ?_ | refine PFn.useq (ib) ?_ | intro _ | refine And.intro (by omega) ?_) | simp (config := { maxSteps := 1000000 }) (disch := (first | omega | (simp only [go_sem]; try omega))) only [go_sem, Nat.reduceAdd, Nat.reduceEqDiff, Nat.reduceLeDiff, Nat.reduceMul, Nat.reduceLT, reduceIte, Int.reduceToNat, w64_id, cast_succ])
    refine SW.condT rfl ?_
    repeat (first | (with_reducible first | refine SW.seq ?_ | refine SW.block ?_ | refine SW.rowC ?_ | refine SW.skip ?_ | refine SW.exit ?_ | intro _ | refine And.intro (by omega) ?_) | simp (config := { maxSteps := 1000000 }) (disch := (first | omega | (simp only [go_sem]; try omega))) only [go_sem, Nat.reduceAdd, Nat.reduceEqDiff, Nat.reduceLeDiff, Nat.reduceMul, Nat.reduceLT, reduceIte, Int.reduceToNat, w64_id, cast_succ])
    refine SW.ret ?_; (try simp only [go_sem]); (first | refine FunPost.one ?_ | refine FunPost.two ?_ | refine FunPost.three ?_); (try simp (config := { maxSteps := 1000000 }) (disch := (first | omega | (simp only [go_sem]; try omega))) only [go_sem, Nat.reduceAdd, Nat.reduceEqDiff, Nat.reduceLeDiff, Nat.reduceMul, Nat.reduceLT, reduceIte, Int.reduceToNat, w64_id, cast_succ])
    exact GR.froz0 (froz_tup2 .nil (froz_I' _)) ⟨rfl, rfl⟩
  rw [h1] at ib
  simp only [Bool.and_eq_true, decide_eq_true_eq] at h1
  obtain ⟨b, rfl⟩ := Int.eq_ofNat_of_zero_le (show 0 ≤ b by omega)
  rw [if_neg (by simp), if_neg (by simp), Int.toNat_natCast]
  have hsq : ∀ q, (mtS a b).res = some q → q.length = a.length ∧ ∀ x ∈ q, x.length = a.length := matR_sq a a.length _ _ _ (topM_ok _) (fun q h => by cases h)
  have hst0 := lStart_ok a a.length b hf.1 ⟨rfl, hf.2.1⟩ hf.2.2 (by omega)
  generalize hn : a.length = n at *
  repeat (first | (with_reducible first | refine SW.seq ?_ | refine SW.block ?_ | refine SW.rowC ?_ | refine SW.skip ?_ | refine SW.exit ?_ | refine PFn.use (ib) ?_ | refine PFn.useq (ib) ?_ | intro _ | refine And.intro (by omega) ?_) | simp (config := { maxSteps := 1000000 }) (disch := (first | omega | (simp only [go_sem]; try omega))) only [go_sem, Nat.reduceAdd, Nat.reduceEqDiff, Nat.reduceLeDiff, Nat.reduceMul, Nat.reduceLT, reduceIte, Int.reduceToNat, w64_id, cast_succ])
  refine SW.condF rfl ?_
  repeat (first | (with_reducible first | refine SW.seq ?_ | refine SW.block ?_ | refine SW.rowC ?_ | refine SW.skip ?_ | refine SW.exit ?_ | intro _ | refine And.intro (by omega) ?_) | simp (config := { maxSteps := 1000000 }) (disch := (first | omega | (simp only [go_sem]; try omega))) only [go_sem, Nat.reduceAdd, Nat.reduceEqDiff, Nat.reduceLeDiff, Nat.reduceMul, Nat.reduceLT, reduceIte, Int.reduceToNat, w64_id, cast_succ, hn])
  refine (l06Zero_sq H n n (by omega)).mono ?_
  rintro r H1 ⟨rfl, rfl⟩
  repeat (first | (with_reducible first | refine SW.seq ?_ | refine SW.block ?_ | refine SW.rowC ?_ | refine SW.skip ?_ | refine SW.exit ?_ | intro _ | refine And.intro (by omega) ?_) | simp (config := { maxSteps := 1000000 }) (disch := (first | omega | (simp only [go_sem]; try omega))) only [go_sem, Nat.reduceAdd, Nat.reduceEqDiff, Nat.reduceLeDiff, Nat.reduceMul, Nat.reduceLT, reduceIte, Int.reduceToNat, w64_id, cast_succ])
  rw [sqB_length, List.length_replicate]
  have e0 : ∀ sq left fl, hpL H n b a sq left fl = H ++ (sqB n 0 H.length sq ++ [⟨0, tyL7, 1, [ilSS a, .nm H.length n 0 n, I ((b - left : Nat) : Int), I b, Bv fl]⟩]) := fun _ _ _ => rfl
  have hz0 : ∀ z : Int, (List.replicate n (List.replicate n z)).length = n ∧ ∀ r ∈ List.replicate n (List.replicate n z), r.length = n := fun z => ⟨by simp, fun r hr => by rw [List.eq_of_mem_replicate hr]; simp⟩
  refine SW.loopE (fun E0 H0 q E' H' => ∃ (x : Nat) (sq : List (List Int)), x ≤ n ∧ q = n - x ∧ (sq.length = n ∧ ∀ r ∈ sq, r.length = n) ∧ (∀ i j, i < x → j < n → cellAt sq i j = -1) ∧ E' = aput E0 8 (I x) ∧ H' = hpL H n b a sq b false) n ⟨0, _, by omega, by omega, hz0 0, (fun i j h => by omega), rfl, by rw [e0, Nat.sub_self]; rfl⟩ ?_
  rintro q E' H' ⟨x, sq, hx, rfl, hsqk, hcl, rfl, rfl⟩
  simp (config := { maxSteps := 1000000 }) (disch := (first | omega | (simp only [go_sem]; try omega))) only [go_sem, Nat.reduceAdd, Nat.reduceEqDiff, Nat.reduceLeDiff, Nat.reduceMul, Nat.reduceLT, reduceIte, Int.reduceToNat, w64_id, cast_succ]
  repeat (first | (with_reducible first | refine SW.seq ?_ | refine SW.block ?_ | refine SW.rowC ?_ | refine SW.skip ?_ | refine SW.exit ?_ | intro _ | refine And.intro (by omega) ?_) | simp (config := { maxSteps := 1000000 }) (disch := (first | omega | (simp only [go_sem]; try omega))) only [go_sem, Nat.reduceAdd, Nat.reduceEqDiff, Nat.reduceLeDiff, Nat.reduceMul, Nat.reduceLT, reduceIte, Int.reduceToNat, w64_id, cast_succ])
  (first | refine SW.condD rfl (fun h3 => ?_) (fun h3 => ?_) | refine SW.condN rfl (fun h3 => ?_) (fun h3 => ?_) | refine SW.condNB rfl (fun h3 => ?_) (fun h3 => ?_) | refine SW.condB rfl (fun h3 => ?_) (fun h3 => ?_))
  · have hxn : x < n := by omega
    repeat (first | (with_reducible first | refine SW.seq ?_ | refine SW.block ?_ | refine SW.rowC ?_ | refine SW.skip ?_ | refine SW.exit ?_ | intro _ | refine And.intro (by omega) ?_) | simp (config := { maxSteps := 1000000 }) (disch := (first | omega | (simp only [go_sem]; try omega))) only [go_sem, Nat.reduceAdd, Nat.reduceEqDiff, Nat.reduceLeDiff, Nat.reduceMul, Nat.reduceLT, reduceIte, Int.reduceToNat, w64_id, cast_succ])
    refine SW.loopE (fun E0 H0 q E' H' => ∃ (y : Nat) (sq : List (List Int)), y ≤ n ∧ q = n - y ∧ (sq.length = n ∧ ∀ r ∈ sq, r.length = n) ∧ (∀ i j, i < x ∨ i = x ∧ j < y → j < n → cellAt sq i j = -1) ∧ E' = aput E0 9 (I y) ∧ H' = hpL H n b a sq b false) n ⟨0, sq, by omega, by omega, hsqk, (fun i j h hj => hcl i j (by omega) hj), rfl, rfl⟩ ?_
    clear hcl hsqk
    rintro q E' H' ⟨y, sq, hy, rfl, hsqk, hcl, rfl, rfl⟩
    simp (config := { maxSteps := 1000000 }) (disch := (first | omega | (simp only [go_sem]; try omega))) only [go_sem, Nat.reduceAdd, Nat.reduceEqDiff, Nat.reduceLeDiff, Nat.reduceMul, Nat.reduceLT, reduceIte, Int.reduceToNat, w64_id, cast_succ]
    repeat (first | (with_reducible first | refine SW.seq ?_ | refine SW.block ?_ | refine SW.rowC ?_ | refine SW.skip ?_ | refine SW.exit ?_ | intro _ | refine And.intro (by omega) ?_) | simp (config := { maxSteps := 1000000 }) (disch := (first | omega | (simp only [go_sem]; try omega))) only [go_sem, Nat.reduceAdd, Nat.reduceEqDiff, Nat.reduceLeDiff, Nat.reduceMul, Nat.reduceLT, reduceIte, Int.reduceToNat, w64_id, cast_succ])
    (first | refine SW.condD rfl (fun h4 => ?_) (fun h4 => ?_) | refine SW.condN rfl (fun h4 => ?_) (fun h4 => ?_) | refine SW.condNB rfl (fun h4 => ?_) (fun h4 => ?_) | refine SW.condB rfl (fun h4 => ?_) (fun h4 => ?_))
    · have hyn : y < n := by omega
      have hQ := sqB_length n 0 H.length sq
      rw [hsqk.1] at hQ
      have hg1 := fun (b : Blk) (r : List Blk) => getAt hQ b r
      have hmx : (sq.getD x []).length = n := hsqk.2 _ (by rw [getD_get (by omega)]; exact List.getElem_mem _)
      have t0 := fun ext => q0w (H := H) (n := n) (w := 0) (sq := sq) (ext := ext)
      have t1 := qtakew (H := H) (w := 0) hsqk.1
      have t2 := qcellw (H := H) (w := 0) (x := x) hsqk (by omega)
      have t3 := fun ext => qroww (H := H) (w := 0) (x := x) (ext := ext) hsqk.1 (by omega)
      have htk : ((sq.getD x []).map I).take n = (sq.getD x []).map I := List.take_of_length_le (by simp only [List.length_map]; omega)
      have c4 := fun (v : Int) ext => qsetw (H := H) (n := n) (w := 0) (y := y) (ext := ext) hsqk.1 (show x < n by omega) v
      rw [e0 sq b false]
      repeat (first | (with_reducible first | refine SW.seq ?_ | refine SW.block ?_ | refine SW.rowC ?_ | refine SW.skip ?_ | refine SW.exit ?_ | intro _ | refine And.intro (by omega) ?_) | simp (config := { maxSteps := 1000000 }) (disch := (first | omega | (simp only [go_sem]; try omega))) only [go_sem, Nat.reduceAdd, Nat.reduceEqDiff, Nat.reduceLeDiff, Nat.reduceMul, Nat.reduceLT, reduceIte, Int.reduceToNat, w64_id, cast_succ, hg1, t0, t1, t2, t3, htk, hmx, c4])
      refine SLoop.next (n - (y + 1)) (by omega) ⟨y + 1, setC sq x y (-1), by omega, rfl, setC_ok hsqk, fun i j h hj => ?_, by simp [go_sem], rfl⟩
      rw [cellAt_setC hsqk hxn hyn]
      split
      · rfl
      · exact hcl i j (by omega) hj
    · have hyn : y = n := by omega
      subst hyn
      repeat (first | (with_reducible first | refine SW.seq ?_ | refine SW.block ?_ | refine SW.rowC ?_ | refine SW.skip ?_ | refine SW.exit ?_ | intro _ | refine And.intro (by omega) ?_) | simp (config := { maxSteps := 1000000 }) (disch := (first | omega | (simp only [go_sem]; try omega))) only [go_sem, Nat.reduceAdd, Nat.reduceEqDiff, Nat.reduceLeDiff, Nat.reduceMul, Nat.reduceLT, reduceIte, Int.reduceToNat, w64_id, cast_succ])
      exact SLoop.next (y - (x + 1)) (by omega) ⟨x + 1, sq, by omega, rfl, hsqk, (fun i j h hj => hcl i j (by omega) hj), by simp [go_sem], rfl⟩
  have hxn : x = n := by omega
  subst hxn
  have hsz : sq = List.replicate x (List.replicate x (-1)) := by
    refine sq_ext hsqk (hz0 (-1)) fun i j hi hj => ?_
    rw [hcl i j hi hj]
    have := topM_get hf.1.1 0 (by omega) i j hi hj
    rw [if_neg (by omega)] at this
    exact this.symm
  subst hsz
  repeat (first | (with_reducible first | refine SW.seq ?_ | refine SW.block ?_ | refine SW.rowC ?_ | refine SW.skip ?_ | refine SW.exit ?_ | intro _ | refine And.intro (by omega) ?_) | simp (config := { maxSteps := 1000000 }) (disch := (first | omega | (simp only [go_sem]; try omega))) only [go_sem, Nat.reduceAdd, Nat.reduceEqDiff, Nat.reduceLeDiff, Nat.reduceMul, Nat.reduceLT, reduceIte, Int.reduceToNat, w64_id, cast_succ])
  refine (hst0 H).mono ?_
  rintro v H5 ⟨rfl, m, hml, rfl⟩
  generalize mtS a b = s3 at *
  obtain ⟨left3, spent3, res3⟩ := s3
  cases res3 with
  | some g =>
    have hgq := hsq g rfl
    have hout : outM m ⟨left3, spent3, some g⟩ = g := rfl
    have hQ := sqB_length x 0 H.length g
    rw [hgq.1] at hQ
    have hg1 := fun (b : Blk) (r : List Blk) => getAt hQ b r
    rw [hout, e0 g]
    repeat (first | (with_reducible first | refine SW.seq ?_ | refine SW.block ?_ | refine SW.rowC ?_ | refine SW.skip ?_ | refine SW.exit ?_ | intro _ | refine And.intro (by omega) ?_) | simp (config := { maxSteps := 1000000 }) (disch := (first | omega | (simp only [go_sem]; try omega))) only [go_sem, Nat.reduceAdd, Nat.reduceEqDiff, Nat.reduceLeDiff, Nat.reduceMul, Nat.reduceLT, reduceIte, Int.reduceToNat, w64_id, cast_succ])
    refine SW.condT rfl ?_
    repeat (first | (with_reducible first | refine SW.seq ?_ | refine SW.block ?_ | refine SW.rowC ?_ | refine SW.skip ?_ | refine SW.exit ?_ | intro _ | refine And.intro (by omega) ?_) | simp (config := { maxSteps := 1000000 }) (disch := (first | omega | (simp only [go_sem]; try omega))) only [go_sem, Nat.reduceAdd, Nat.reduceEqDiff, Nat.reduceLeDiff, Nat.reduceMul, Nat.reduceLT, reduceIte, Int.reduceToNat, w64_id, cast_succ, hg1])
    refine SW.ret ?_; (try simp only [go_sem]); (first | refine FunPost.one ?_ | refine FunPost.two ?_ | refine FunPost.three ?_); (try simp (config := { maxSteps := 1000000 }) (disch := (first | omega | (simp only [go_sem]; try omega))) only [go_sem, Nat.reduceAdd, Nat.reduceEqDiff, Nat.reduceLeDiff, Nat.reduceMul, Nat.reduceLT, reduceIte, Int.reduceToNat, w64_id, cast_succ])
    have hfz := froz_sqB0 (Hb := H) (v := x) (w := 0) (b := H.length) (xss := g) (ext := [⟨0, tyL7, 1, [ilSS a, .nm H.length x 0 x, I ((b - left3 : Nat) : Int), I b, Bv spent3]⟩]) (Nat.le_refl _)
    rw [hgq.1] at hfz
    exact GR.froz (froz_tup2 hfz (froz_I' _)) ⟨rfl, rfl⟩
  | none =>
    have hout : outM m ⟨left3, spent3, none⟩ = m := rfl
    have hQ := sqB_length x 0 H.length m
    rw [hml] at hQ
    have hg1 := fun (b : Blk) (r : List Blk) => getAt hQ b r
    rw [hout, e0 m]
    repeat (first | (with_reducible first | refine SW.seq ?_ | refine SW.block ?_ | refine SW.rowC ?_ | refine SW.skip ?_ | refine SW.exit ?_ | intro _ | refine And.intro (by omega) ?_) | simp (config := { maxSteps := 1000000 }) (disch := (first | omega | (simp only [go_sem]; try omega))) only [go_sem, Nat.reduceAdd, Nat.reduceEqDiff, Nat.reduceLeDiff, Nat.reduceMul, Nat.reduceLT, reduceIte, Int.reduceToNat, w64_id, cast_succ])
    refine SW.condF rfl ?_
    cases spent3 with
    | true =>
      repeat (first | (with_reducible first | refine SW.seq ?_ | refine SW.block ?_ | refine SW.rowC ?_ | refine SW.skip ?_ | refine SW.exit ?_ | intro _ | refine And.intro (by omega) ?_) | simp (config := { maxSteps := 1000000 }) (disch := (first | omega | (simp only [go_sem]; try omega))) only [go_sem, Nat.reduceAdd, Nat.reduceEqDiff, Nat.reduceLeDiff, Nat.reduceMul, Nat.reduceLT, reduceIte, Int.reduceToNat, w64_id, cast_succ, hg1])
      refine SW.condT rfl ?_
      repeat (first | (with_reducible first | refine SW.seq ?_ | refine SW.block ?_ | refine SW.rowC ?_ | refine SW.skip ?_ | refine SW.exit ?_ | intro _ | refine And.intro (by omega) ?_) | simp (config := { maxSteps := 1000000 }) (disch := (first | omega | (simp only [go_sem]; try omega))) only [go_sem, Nat.reduceAdd, Nat.reduceEqDiff, Nat.reduceLeDiff, Nat.reduceMul, Nat.reduceLT, reduceIte, Int.reduceToNat, w64_id, cast_succ])
      refine SW.ret ?_; (try simp only [go_sem]); (first | refine FunPost.one ?_ | refine FunPost.two ?_ | refine FunPost.three ?_); (try simp (config := { maxSteps := 1000000 }) (disch := (first | omega | (simp only [go_sem]; try omega))) only [go_sem, Nat.reduceAdd, Nat.reduceEqDiff, Nat.reduceLeDiff, Nat.reduceMul, Nat.reduceLT, reduceIte, Int.reduceToNat, w64_id, cast_succ])
      exact GR.froz (froz_tup2 .nil (froz_I' _)) ⟨rfl, rfl⟩
    | false =>
      repeat (first | (with_reducible first | refine SW.seq ?_ | refine SW.block ?_ | refine SW.rowC ?_ | refine SW.skip ?_ | refine SW.exit ?_ | intro _ | refine And.intro (by omega) ?_) | simp (config := { maxSteps := 1000000 }) (disch := (first | omega | (simp only [go_sem]; try omega))) only [go_sem, Nat.reduceAdd, Nat.reduceEqDiff, Nat.reduceLeDiff, Nat.reduceMul, Nat.reduceLT, reduceIte, Int.reduceToNat, w64_id, cast_succ, hg1])
      refine SW.condF rfl ?_
      repeat (first | (with_reducible first | refine SW.seq ?_ | refine SW.block ?_ | refine SW.rowC ?_ | refine SW.skip ?_ | refine SW.exit ?_ | intro _ | refine And.intro (by omega) ?_) | simp (config := { maxSteps := 1000000 }) (disch := (first | omega | (simp only [go_sem]; try omega))) only [go_sem, Nat.reduceAdd, Nat.reduceEqDiff, Nat.reduceLeDiff, Nat.reduceMul, Nat.reduceLT, reduceIte, Int.reduceToNat, w64_id, cast_succ])
      refine SW.ret ?_; (try simp only [go_sem]); (first | refine FunPost.one ?_ | refine FunPost.two ?_ | refine FunPost.three ?_); (try simp (config := { maxSteps := 1000000 }) (disch := (first | omega | (simp only [go_sem]; try omega))) only [go_sem, Nat.reduceAdd, Nat.reduceEqDiff, Nat.reduceLeDiff, Nat.reduceMul, Nat.reduceLT, reduceIte, Int.reduceToNat, w64_id, cast_succ])
      exact GR.froz (froz_tup2 .nil (froz_I' _)) ⟨rfl, rfl⟩
end Go.Proofs.Ytflnjgeoegofdaa
