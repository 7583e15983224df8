/- Some permutation, drawn. -/
import Derived.Test.YtnlfokkljgbaaaaProg
import Derived.KernelRfl
import Derived.Test.YtnlfokkljgbaaaazSR
import Derived.Test.YtnlfokkljgbaaaazK60
import Derived.Test.YtnlfokkljgbaaaazOW
set_option linter.unusedSimpArgs false
set_option linter.unusedVariables false
set_option maxHeartbeats 4000000
set_option maxRecDepth 100000
namespace Go.Proofs.Ytnlfokkljgbaaaa
open Go.Av
abbrev f_spec_l04DrawPerm : Nat := 39
def c_spec_l04DrawPerm : SC :=
 .seq (.reg [
     ⟨(some 4), .mv (.const (.slice none 0 0)), none⟩] [0, 1])
 (.seq (.reg [
     ⟨(some 9), .mv (.tmp 1), none⟩,
     ⟨(some 10), .call 64 [(.tmp 9)], none⟩,
     ⟨(some 5), .mv (.tmp 10), none⟩] [0, 1, 5])
 (.seq (.seq (.reg [
     ⟨(some 11), .mv (.tmp 1), none⟩,
     ⟨(some 12), .bin .sub (.tmp 11) (.const (.int .i64 1)), none⟩,
     ⟨(some 6), .mv (.tmp 12), none⟩] [0, 5, 6])
 (.block 0 (.loop [0, 5, 6]
   (.seq (.seq (.reg [
       ⟨(some 13), .mv (.tmp 6), none⟩,
       ⟨(some 14), .bin .gtr (.tmp 13) (.const (.int .i64 0)), none⟩] [0, 5, 6, 14])
   (.cond (.tmp 14)
    (.skip)
    (.exit 0)))
   (.seq (.block 1 (.seq (.reg [
        ⟨(some 17), .mv (.tmp 0), none⟩,
        ⟨(some 18), .mv (.tmp 6), none⟩,
        ⟨(some 19), .bin .add (.tmp 18) (.const (.int .i64 1)), none⟩,
        ⟨(some 20), .call 21 [(.tmp 17), (.tmp 19)], none⟩,
        ⟨(some 7), .mv (.tmp 20), none⟩] [0, 5, 6, 7])
    (.seq (.reg [
        ⟨(some 21), .mv (.tmp 5), none⟩,
        ⟨(some 22), .mv (.tmp 6), none⟩,
        ⟨(some 23), .iaddr 1 (.tmp 21) (.tmp 22), none⟩,
        ⟨(some 24), .load 1 false (.tmp 23), none⟩,
        ⟨(some 8), .mv (.tmp 24), none⟩] [0, 5, 6, 7, 8])
    (.seq (.reg [
        ⟨(some 25), .mv (.tmp 5), none⟩,
        ⟨(some 26), .mv (.tmp 6), none⟩,
        ⟨(some 27), .mv (.tmp 5), none⟩,
        ⟨(some 28), .mv (.tmp 7), none⟩,
        ⟨(some 29), .iaddr 1 (.tmp 27) (.tmp 28), none⟩,
        ⟨(some 30), .load 1 false (.tmp 29), none⟩,
        ⟨(some 31), .iaddr 1 (.tmp 25) (.tmp 26), none⟩,
        ⟨none, .store 1 (.tmp 31) (.tmp 30), none⟩] [0, 5, 6, 7, 8])
    (.reg [
        ⟨(some 32), .mv (.tmp 5), none⟩,
        ⟨(some 33), .mv (.tmp 7), none⟩,
        ⟨(some 34), .mv (.tmp 8), none⟩,
        ⟨(some 35), .iaddr 1 (.tmp 32) (.tmp 33), none⟩,
        ⟨none, .store 1 (.tmp 35) (.tmp 34), none⟩] [0, 5, 6])))))
   (.reg [
       ⟨(some 15), .mv (.tmp 6), none⟩,
       ⟨(some 16), .bin .sub (.tmp 15) (.const (.int .i64 1)), none⟩,
       ⟨(some 6), .mv (.tmp 16), none⟩] [0, 5, 6]))))))
 (.seq (.reg [
     ⟨(some 36), .mv (.tmp 5), none⟩,
     ⟨(some 4), .mv (.tmp 36), none⟩] [4])
 (.ret))))
theorem s_spec_l04DrawPerm : stripF Try.prog 39 [[0, 1], [0, 1, 5], [0, 5, 6], [0, 5, 6], [0, 5, 6, 14], [0, 5, 6, 7], [0, 5, 6, 7, 8], [0, 5, 6, 7, 8], [0, 5, 6], [0, 5, 6], [4]] = some (c_spec_l04DrawPerm, [.tmp 4], 37) := by kernel_rfl
abbrev f_spec_l04One : Nat := 64
def c_spec_l04One : SC :=
 .seq (.reg [
     ⟨(some 2), .mv (.const (.slice none 0 0)), none⟩] [0])
 (.seq (.reg [
     ⟨(some 5), .bslice 2 1 0 [] [], none⟩,
     ⟨(some 3), .mv (.tmp 5), none⟩] [0, 3])
 (.seq (.seq (.reg [
     ⟨(some 4), .mv (.const (.int .i64 0)), none⟩] [0, 3, 4])
 (.block 0 (.loop [0, 3, 4]
   (.seq (.seq (.reg [
       ⟨(some 6), .mv (.tmp 4), none⟩,
       ⟨(some 7), .mv (.tmp 0), none⟩,
       ⟨(some 8), .bin .lss (.tmp 6) (.tmp 7), none⟩] [0, 3, 4, 8])
   (.cond (.tmp 8)
    (.skip)
    (.exit 0)))
   (.seq (.block 1 (.reg [
        ⟨(some 11), .mv (.tmp 3), none⟩,
        ⟨(some 12), .mv (.tmp 4), none⟩,
        ⟨(some 13), .bslice 2 1 1 [(.int .i64 0)] [(0, (.tmp 12))], none⟩,
        ⟨(some 14), .app 2 1 8 (.tmp 11) (.tmp 13), none⟩,
        ⟨(some 3), .mv (.tmp 14), none⟩] [0, 3, 4]))
   (.reg [
       ⟨(some 9), .mv (.tmp 4), none⟩,
       ⟨(some 10), .bin .add (.tmp 9) (.const (.int .i64 1)), none⟩,
       ⟨(some 4), .mv (.tmp 10), none⟩] [0, 3, 4]))))))
 (.seq (.reg [
     ⟨(some 15), .mv (.tmp 3), none⟩,
     ⟨(some 2), .mv (.tmp 15), none⟩] [2])
 (.ret))))
theorem s_spec_l04One : stripF Try.prog 64 [[0], [0, 3], [0, 3, 4], [0, 3, 4], [0, 3, 4, 8], [0, 3, 4], [0, 3, 4], [2]] = some (c_spec_l04One, [.tmp 2], 16) := by kernel_rfl
theorem permOk_swap {n : Nat} {p : List Int} (hp : permOk n p) {i j : Nat} (hi : i < p.length) (hj : j < p.length) : permOk n ((p.set i p[j]).set j p[i]) := by
  have h : ((p.set i p[j]).set j p[i]).Perm p := List.set_set_perm hi hj
  refine ⟨by simpa using hp.1, h.nodup_iff.2 hp.2.1, fun x hx => hp.2.2 x (h.mem_iff.1 hx)⟩
theorem l04One_new (H : List Blk) (n : Nat) (hn : n ≤ 64) : ACalls Try.prog f_spec_l04One [I n] H (fun r H' => ∃ ver, r = .nm H.length ver 0 n ∧ H' = H ++ [⟨ver, 2, 1, (idL n).map I⟩]) := by
  refine ACalls.introB s_spec_l04One (by simp) ?_; intro hB hA; unfold c_spec_l04One; simp (config := { maxSteps := 1000000 }) (disch := (first | omega | (simp only [go_sem]; try omega))) only [go_sem, Nat.reduceAdd, Nat.reduceEqDiff, Nat.reduceLeDiff, Nat.reduceMul, Nat.reduceLT, reduceIte, Int.reduceToNat, w64_id, cast_succ]
  repeat (first | (with_reducible first | refine SW.seq ?_ | refine SW.block ?_ | refine SW.rowC ?_ | refine SW.skip ?_ | refine SW.exit ?_ | intro _ | refine And.intro (by omega) ?_) | simp (config := { maxSteps := 1000000 }) (disch := (first | omega | (simp only [go_sem]; try omega))) only [go_sem, Nat.reduceAdd, Nat.reduceEqDiff, Nat.reduceLeDiff, Nat.reduceMul, Nat.reduceLT, reduceIte, Int.reduceToNat, w64_id, cast_succ])
  refine SW.loopE (fun E0 H0 q' E' H' => ∃ (i ver : Nat), i ≤ n ∧ q' = n - i ∧ E' = aput (aput E0 4 (I i)) 3 (.nm H.length ver 0 i) ∧ H' = H ++ [⟨ver, 2, 1, (idL i).map I⟩]) n ⟨0, 0, by omega, by omega, rfl, rfl⟩ ?_
  rintro q' E' H' ⟨i, ver, hi, rfl, rfl, rfl⟩
  have hil : (idL i).length = i := by simp [idL, tab]
  simp (config := { maxSteps := 1000000 }) (disch := (first | omega | (simp only [go_sem]; try omega))) only [go_sem, Nat.reduceAdd, Nat.reduceEqDiff, Nat.reduceLeDiff, Nat.reduceMul, Nat.reduceLT, reduceIte, Int.reduceToNat, w64_id, cast_succ]
  repeat (first | (with_reducible first | refine SW.seq ?_ | refine SW.block ?_ | refine SW.rowC ?_ | refine SW.skip ?_ | refine SW.exit ?_ | intro _ | refine And.intro (by omega) ?_) | simp (config := { maxSteps := 1000000 }) (disch := (first | omega | (simp only [go_sem]; try omega))) only [go_sem, Nat.reduceAdd, Nat.reduceEqDiff, Nat.reduceLeDiff, Nat.reduceMul, Nat.reduceLT, reduceIte, Int.reduceToNat, w64_id, cast_succ])
  (first | refine SW.condD rfl (fun h2 => ?_) (fun h2 => ?_) | refine SW.condN rfl (fun h2 => ?_) (fun h2 => ?_) | refine SW.condNB rfl (fun h2 => ?_) (fun h2 => ?_) | refine SW.condB rfl (fun h2 => ?_) (fun h2 => ?_))
  · have htl : ((idL i).map I).take i = (idL i).map I := List.take_of_length_le (by simp [hil])
    have hms : idL (i + 1) = idL i ++ [(i : Int)] := by simp [idL, tab, List.range_succ]
    repeat (first | (with_reducible first | refine SW.seq ?_ | refine SW.block ?_ | refine SW.rowC ?_ | refine SW.skip ?_ | refine SW.exit ?_ | intro _ | refine And.intro (by omega) ?_) | simp (config := { maxSteps := 1000000 }) (disch := (first | omega | (simp only [go_sem]; try omega))) only [go_sem, Nat.reduceAdd, Nat.reduceEqDiff, Nat.reduceLeDiff, Nat.reduceMul, Nat.reduceLT, reduceIte, Int.reduceToNat, w64_id, cast_succ, htl, hil])
    refine SLoop.nextT 1 (n - (i + 1)) hB (by omega) (by omega) (by simp) ?_ ?_ ⟨i + 1, ver + 1, by omega, rfl, ?_, ?_⟩
    · (simp only [go_sem, Nat.reduceAdd, Nat.reduceEqDiff, reduceIte, go_sem, and_self, and_true, true_and, implies_true, List.take_succ_cons, List.take_zero, and_true, true_and]; try omega)
    · (simp only [go_sem, Nat.reduceAdd, Nat.reduceEqDiff, reduceIte, go_sem, and_self, and_true, true_and, implies_true, List.take_succ_cons, List.take_zero, and_true, true_and]; try omega)
    · simp [go_sem]
    · rw [hms]; simp
  · have : i = n := by omega
    subst this
    repeat (first | (with_reducible first | refine SW.seq ?_ | refine SW.block ?_ | refine SW.rowC ?_ | refine SW.skip ?_ | refine SW.exit ?_ | intro _ | refine And.intro (by omega) ?_) | simp (config := { maxSteps := 1000000 }) (disch := (first | omega | (simp only [go_sem]; try omega))) only [go_sem, Nat.reduceAdd, Nat.reduceEqDiff, Nat.reduceLeDiff, Nat.reduceMul, Nat.reduceLT, reduceIte, Int.reduceToNat, w64_id, cast_succ])
    refine SW.ret ?_; (try simp only [go_sem]); (first | refine FunPost.one ?_ | refine FunPost.two ?_ | refine FunPost.three ?_); (try simp (config := { maxSteps := 1000000 }) (disch := (first | omega | (simp only [go_sem]; try omega))) only [go_sem, Nat.reduceAdd, Nat.reduceEqDiff, Nat.reduceLeDiff, Nat.reduceMul, Nat.reduceLT, reduceIte, Int.reduceToNat, w64_id, cast_succ])
    exact GR.of ⟨ver, rfl, rfl⟩
theorem l04DrawPerm_ok (H : List Blk) (p : Nat) (code : AV) (ns : List Int) (t : Nat) (u : Int) (n : Nat) (hp : H[p]? = some (srcB code t u)) (hc : CodeOk code ns) (hcb : ∀ k, Bel k code) (ht : t ≤ 800000000) (h1 : 1 ≤ n) (hn : n ≤ 32) :
    ACalls Try.prog f_spec_l04DrawPerm [.pc p 0 0, I n] H (fun r H' => ∃ (P : List Int) (u' : Int) (t' : Nat), r = ilS P ∧ permOk n P ∧ t' ≤ t + 2 * n ∧ H' = H.set p (srcB code t' u')) := by
  have hlt := (List.getElem?_eq_some_iff.1 hp).1
  have hgp : ∀ t u, (H.set p (srcB code t u))[p]? = some (srcB code t u) := fun t u => List.getElem?_set_self hlt
  refine ACalls.introB s_spec_l04DrawPerm (by simp) ?_; intro hB hA; unfold c_spec_l04DrawPerm; simp (config := { maxSteps := 1000000 }) (disch := (first | omega | (simp only [go_sem]; try omega))) only [go_sem, Nat.reduceAdd, Nat.reduceEqDiff, Nat.reduceLeDiff, Nat.reduceMul, Nat.reduceLT, reduceIte, Int.reduceToNat, w64_id, cast_succ]
  have hBG : ∀ t u, HB (H.set p (srcB code t u)) := fun t u b hb c hcc => by
    rw [List.length_set]
    rcases List.mem_or_eq_of_mem_set hb with hb | rfl
    · exact hB b hb c hcc
    · unfold srcB at hcc
      simp only [List.mem_cons, List.not_mem_nil, or_false] at hcc
      rcases hcc with rfl | rfl | rfl
      · exact hcb _
      · exact .lit _
      · exact .lit _
  have hset : ∀ t u t' u' (ext : List Blk), (H.set p (srcB code t u) ++ ext).set p (srcB code t' u') = H.set p (srcB code t' u') ++ ext := fun t u t' u' ext => by
    rw [List.set_append_left _ _ (by simpa using hlt), List.set_set]
  have hpx : ∀ t u ext, (H.set p (srcB code t u) ++ ext)[p]? = some (srcB code t u) := fun t u ext => by rw [List.getElem?_append_left (by simpa using hlt)]; exact hgp t u
  have hself : H.set p (srcB code t u) = H := by
    obtain ⟨g1, g2⟩ := List.getElem?_eq_some_iff.1 hp
    rw [← g2]; exact List.set_getElem_self g1
  repeat (first | (with_reducible first | refine SW.seq ?_ | refine SW.block ?_ | refine SW.rowC ?_ | refine SW.skip ?_ | refine SW.exit ?_ | intro _ | refine And.intro (by omega) ?_) | simp (config := { maxSteps := 1000000 }) (disch := (first | omega | (simp only [go_sem]; try omega))) only [go_sem, Nat.reduceAdd, Nat.reduceEqDiff, Nat.reduceLeDiff, Nat.reduceMul, Nat.reduceLT, reduceIte, Int.reduceToNat, w64_id, cast_succ])
  refine (l04One_new H n (by omega)).mono ?_
  rintro r H1 ⟨ver, rfl, rfl⟩
  repeat (first | (with_reducible first | refine SW.seq ?_ | refine SW.block ?_ | refine SW.rowC ?_ | refine SW.skip ?_ | refine SW.exit ?_ | intro _ | refine And.intro (by omega) ?_) | simp (config := { maxSteps := 1000000 }) (disch := (first | omega | (simp only [go_sem]; try omega))) only [go_sem, Nat.reduceAdd, Nat.reduceEqDiff, Nat.reduceLeDiff, Nat.reduceMul, Nat.reduceLT, reduceIte, Int.reduceToNat, w64_id, cast_succ])
  refine SW.loopE (fun E0 H0 q E' H' => ∃ (k ver t' : Nat) (u' : Int) (P : List Int), k < n ∧ q = k ∧ permOk n P ∧ t' + 2 * k ≤ t + 2 * n ∧ E' = aput (aput E0 6 (I k)) 5 (.nm H.length ver 0 n) ∧ H' = H.set p (srcB code t' u') ++ [⟨ver, 2, 1, P.map I⟩]) (n - 1) ⟨n - 1, ver, t, u, idL n, by omega, rfl, idL_ok n, by omega, ?_, by rw [hself]⟩ ?_
  · rw [show ((n - 1 : Nat) : Int) = (n : Int) - 1 by omega]; simp [go_sem]
  rintro q E' H' ⟨k, ver, t', u', P, hk, rfl, hP, ht', rfl, rfl⟩
  have hpl := hP.1
  have htp : (P.map I).take n = P.map I := List.take_of_length_le (by rw [List.length_map, hpl]; exact Nat.le_refl _)
  simp (config := { maxSteps := 1000000 }) (disch := (first | omega | (simp only [go_sem]; try omega))) only [go_sem, Nat.reduceAdd, Nat.reduceEqDiff, Nat.reduceLeDiff, Nat.reduceMul, Nat.reduceLT, reduceIte, Int.reduceToNat, w64_id, cast_succ]
  repeat (first | (with_reducible first | refine SW.seq ?_ | refine SW.block ?_ | refine SW.rowC ?_ | refine SW.skip ?_ | refine SW.exit ?_ | intro _ | refine And.intro (by omega) ?_) | simp (config := { maxSteps := 1000000 }) (disch := (first | omega | (simp only [go_sem]; try omega))) only [go_sem, Nat.reduceAdd, Nat.reduceEqDiff, Nat.reduceLeDiff, Nat.reduceMul, Nat.reduceLT, reduceIte, Int.reduceToNat, w64_id, cast_succ])
  (first | refine SW.condD rfl (fun h => ?_) (fun h => ?_) | refine SW.condN rfl (fun h => ?_) (fun h => ?_) | refine SW.condNB rfl (fun h => ?_) (fun h => ?_) | refine SW.condB rfl (fun h => ?_) (fun h => ?_))
  · have e0 : ((q + 1 : Nat) : Int) = (q : Int) + 1 := by omega
    repeat (first | (with_reducible first | refine SW.seq ?_ | refine SW.block ?_ | refine SW.rowC ?_ | refine SW.skip ?_ | refine SW.exit ?_ | intro _ | refine And.intro (by omega) ?_) | simp (config := { maxSteps := 1000000 }) (disch := (first | omega | (simp only [go_sem]; try omega))) only [go_sem, Nat.reduceAdd, Nat.reduceEqDiff, Nat.reduceLeDiff, Nat.reduceMul, Nat.reduceLT, reduceIte, Int.reduceToNat, w64_id, cast_succ])
    refine (pick_ok _ p code ns t' u' ((q : Int) + 1) (hpx _ _ _) hc (by omega)).mono ?_
    rintro r H1 ⟨x, u1, t1, rfl, a1, b1, ht1, rfl⟩
    rw [hset]
    obtain ⟨x, rfl⟩ := Int.eq_ofNat_of_zero_le a1
    have hGl : (H.set p (srcB code t1 u1)).length = H.length := List.length_set
    have e1 := permOk_swap hP (i := q) (j := x) (by omega) (by omega)
    rw [show P[x] = P.getD x 0 from (List.getElem_eq_getD 0), show P[q] = P.getD q 0 from (List.getElem_eq_getD 0)] at e1
    generalize hGe : H.set p (srcB code t1 u1) = G at *
    rw [← hGl]
    repeat (first | (with_reducible first | refine SW.seq ?_ | refine SW.block ?_ | refine SW.rowC ?_ | refine SW.skip ?_ | refine SW.exit ?_ | intro _ | refine And.intro (by omega) ?_) | simp (config := { maxSteps := 1000000 }) (disch := (first | omega | (simp only [go_sem]; try omega))) only [go_sem, Nat.reduceAdd, Nat.reduceEqDiff, Nat.reduceLeDiff, Nat.reduceMul, Nat.reduceLT, reduceIte, Int.reduceToNat, w64_id, cast_succ, htp])
    refine SLoop.next (q - 1) (by omega) ⟨q - 1, _, t1, u1, _, by omega, rfl, e1, by omega, ?_, by rw [hGe]⟩
    rw [show ((q - 1 : Nat) : Int) = (q : Int) - 1 by omega]; rfl
  · repeat (first | (with_reducible first | refine SW.seq ?_ | refine SW.block ?_ | refine SW.rowC ?_ | refine SW.skip ?_ | refine SW.exit ?_ | intro _ | refine And.intro (by omega) ?_) | simp (config := { maxSteps := 1000000 }) (disch := (first | omega | (simp only [go_sem]; try omega))) only [go_sem, Nat.reduceAdd, Nat.reduceEqDiff, Nat.reduceLeDiff, Nat.reduceMul, Nat.reduceLT, reduceIte, Int.reduceToNat, w64_id, cast_succ])
    refine SW.ret ?_; (try simp only [go_sem]); (first | refine FunPost.one ?_ | refine FunPost.two ?_ | refine FunPost.three ?_); (try simp (config := { maxSteps := 1000000 }) (disch := (first | omega | (simp only [go_sem]; try omega))) only [go_sem, Nat.reduceAdd, Nat.reduceEqDiff, Nat.reduceLeDiff, Nat.reduceMul, Nat.reduceLT, reduceIte, Int.reduceToNat, w64_id, cast_succ])
    have hf : Froz (H.set p (srcB code t' u') ++ [(⟨ver, 2, 1, P.map I⟩ : Blk)]) H.length (.nm H.length ver 0 P.length) (ilS P) := froz_rowI (ver := ver) (ty := 2) (Nat.le_refl _) (by rw [List.getElem?_append_right (by simp)]; simp)
    rw [hpl] at hf
    exact GR.frozH (H0 := H) (H1 := H.set p (srcB code t' u')) (by simp) (hBG _ _) hf ⟨P, u', t', rfl, hP, by omega, rfl⟩
end Go.Proofs.Ytnlfokkljgbaaaa
