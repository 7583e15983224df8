/- Drawn squares: two symbols exchanged. -/
import Derived.Test.YtchehdplcbffmaaProg
import Derived.KernelRfl
import Derived.Test.YtchehdplcbffmaazTX
import Derived.Test.YtchehdplcbffmaazQO
import Derived.Test.YtchehdplcbffmaazDR
set_option linter.unusedSimpArgs false
set_option linter.unusedVariables false
set_option maxHeartbeats 4000000
set_option maxRecDepth 100000
namespace Go.Proofs.Ytchehdplcbffmaa
open Go.Av
abbrev f_spec_l06Switch : Nat := 83
def c_spec_l06Switch : SC :=
 .seq (.reg [
     ⟨(some 4), .mv (.const (.slice none 0 0)), none⟩] [0, 1])
 (.seq (.reg [
     ⟨(some 16), .mv (.tmp 1), none⟩,
     ⟨(some 17), .len (.tmp 16), none⟩,
     ⟨(some 5), .mv (.tmp 17), none⟩] [0, 1, 5])
 (.seq (.reg [
     ⟨(some 18), .mv (.tmp 1), none⟩,
     ⟨(some 19), .call 37 [(.tmp 18)], none⟩,
     ⟨(some 6), .mv (.tmp 19), none⟩] [0, 1, 5, 6])
 (.seq (.reg [
     ⟨(some 20), .mv (.tmp 0), none⟩,
     ⟨(some 21), .mv (.tmp 5), none⟩,
     ⟨(some 22), .call 34 [(.tmp 20), (.tmp 21)], none⟩,
     ⟨(some 7), .mv (.tmp 22), none⟩] [0, 1, 5, 6, 7])
 (.seq (.reg [
     ⟨(some 23), .mv (.tmp 0), none⟩,
     ⟨(some 24), .mv (.tmp 5), none⟩,
     ⟨(some 25), .call 34 [(.tmp 23), (.tmp 24)], none⟩,
     ⟨(some 8), .mv (.tmp 25), none⟩] [0, 1, 5, 6, 7, 8])
 (.seq (.seq (.reg [
     ⟨(some 26), .mv (.tmp 7), none⟩,
     ⟨(some 27), .mv (.tmp 8), none⟩,
     ⟨(some 28), .bin .eql (.tmp 26) (.tmp 27), none⟩] [0, 1, 5, 6, 7, 8, 28])
 (.cond (.tmp 28)
  (.seq (.reg [
      ⟨(some 29), .mv (.tmp 6), none⟩,
      ⟨(some 4), .mv (.tmp 29), none⟩] [4])
  (.ret))
  (.skip)))
 (.seq (.reg [
     ⟨(some 30), .mv (.tmp 0), none⟩,
     ⟨(some 31), .mv (.tmp 5), none⟩,
     ⟨(some 32), .call 34 [(.tmp 30), (.tmp 31)], none⟩,
     ⟨(some 9), .mv (.tmp 32), none⟩] [1, 5, 6, 7, 8, 9])
 (.seq (.reg [
     ⟨(some 33), .mv (.tmp 1), none⟩,
     ⟨(some 34), .mv (.tmp 7), none⟩,
     ⟨(some 35), .iaddr 1 (.tmp 33) (.tmp 34), none⟩,
     ⟨(some 36), .load 1 false (.tmp 35), none⟩,
     ⟨(some 37), .mv (.tmp 9), none⟩,
     ⟨(some 38), .iaddr 1 (.tmp 36) (.tmp 37), none⟩,
     ⟨(some 39), .load 1 false (.tmp 38), none⟩,
     ⟨(some 10), .mv (.tmp 39), none⟩] [5, 6, 7, 8, 9, 10])
 (.seq (.seq (.reg [
     ⟨(some 11), .mv (.const (.int .i64 0)), none⟩] [5, 6, 7, 8, 9, 10, 11])
 (.block 0 (.loop [5, 6, 7, 8, 9, 10, 11]
   (.seq (.seq (.reg [
       ⟨(some 40), .mv (.tmp 11), none⟩,
       ⟨(some 41), .mv (.tmp 5), none⟩,
       ⟨(some 42), .bin .lss (.tmp 40) (.tmp 41), none⟩] [5, 6, 7, 8, 9, 10, 11, 42])
   (.cond (.tmp 42)
    (.skip)
    (.exit 0)))
   (.seq (.block 1 (.seq (.reg [
        ⟨(some 45), .mv (.tmp 6), none⟩,
        ⟨(some 46), .mv (.tmp 7), none⟩,
        ⟨(some 47), .iaddr 1 (.tmp 45) (.tmp 46), none⟩,
        ⟨(some 48), .load 1 false (.tmp 47), none⟩,
        ⟨(some 49), .mv (.tmp 9), none⟩,
        ⟨(some 50), .iaddr 1 (.tmp 48) (.tmp 49), none⟩,
        ⟨(some 51), .load 1 false (.tmp 50), none⟩,
        ⟨(some 12), .mv (.tmp 51), none⟩] [5, 6, 7, 8, 9, 10, 11, 12])
    (.seq (.reg [
        ⟨(some 52), .mv (.tmp 6), none⟩,
        ⟨(some 53), .mv (.tmp 8), none⟩,
        ⟨(some 54), .iaddr 1 (.tmp 52) (.tmp 53), none⟩,
        ⟨(some 55), .load 1 false (.tmp 54), none⟩,
        ⟨(some 56), .mv (.tmp 9), none⟩,
        ⟨(some 57), .iaddr 1 (.tmp 55) (.tmp 56), none⟩,
        ⟨(some 58), .load 1 false (.tmp 57), none⟩,
        ⟨(some 13), .mv (.tmp 58), none⟩] [5, 6, 7, 8, 9, 10, 11, 12, 13])
    (.seq (.reg [
        ⟨(some 59), .mv (.tmp 6), none⟩,
        ⟨(some 60), .mv (.tmp 7), none⟩,
        ⟨(some 61), .iaddr 1 (.tmp 59) (.tmp 60), none⟩,
        ⟨(some 62), .load 1 false (.tmp 61), none⟩,
        ⟨(some 63), .mv (.tmp 9), none⟩,
        ⟨(some 64), .mv (.tmp 13), none⟩,
        ⟨(some 65), .iaddr 1 (.tmp 62) (.tmp 63), none⟩,
        ⟨none, .store 1 (.tmp 65) (.tmp 64), none⟩] [5, 6, 7, 8, 9, 10, 11, 12, 13])
    (.seq (.reg [
        ⟨(some 66), .mv (.tmp 6), none⟩,
        ⟨(some 67), .mv (.tmp 8), none⟩,
        ⟨(some 68), .iaddr 1 (.tmp 66) (.tmp 67), none⟩,
        ⟨(some 69), .load 1 false (.tmp 68), none⟩,
        ⟨(some 70), .mv (.tmp 9), none⟩,
        ⟨(some 71), .mv (.tmp 12), none⟩,
        ⟨(some 72), .iaddr 1 (.tmp 69) (.tmp 70), none⟩,
        ⟨none, .store 1 (.tmp 72) (.tmp 71), none⟩] [5, 6, 7, 8, 9, 10, 11, 13])
    (.seq (.seq (.reg [
        ⟨(some 73), .mv (.tmp 13), none⟩,
        ⟨(some 74), .mv (.tmp 10), none⟩,
        ⟨(some 75), .bin .eql (.tmp 73) (.tmp 74), none⟩] [5, 6, 7, 8, 9, 10, 11, 13, 75])
    (.cond (.tmp 75)
     (.seq (.reg [
         ⟨(some 76), .mv (.tmp 6), none⟩,
         ⟨(some 4), .mv (.tmp 76), none⟩] [4])
     (.ret))
     (.skip)))
    (.seq (.reg [
        ⟨(some 14), .mv (.const (.int .i64 0)), none⟩] [5, 6, 7, 8, 9, 10, 11, 13, 14])
    (.seq (.seq (.reg [
        ⟨(some 15), .mv (.const (.int .i64 0)), none⟩] [5, 6, 7, 8, 9, 10, 11, 13, 14, 15])
    (.block 2 (.loop [5, 6, 7, 8, 9, 10, 11, 13, 14, 15]
      (.seq (.seq (.reg [
          ⟨(some 77), .mv (.tmp 15), none⟩,
          ⟨(some 78), .mv (.tmp 5), none⟩,
          ⟨(some 79), .bin .lss (.tmp 77) (.tmp 78), none⟩] [5, 6, 7, 8, 9, 10, 11, 13, 14, 15, 79])
      (.cond (.tmp 79)
       (.skip)
       (.exit 2)))
      (.seq (.block 3 (.seq (.reg [
           ⟨(some 82), .mv (.tmp 15), none⟩,
           ⟨(some 83), .mv (.tmp 9), none⟩,
           ⟨(some 84), .bin .neq (.tmp 82) (.tmp 83), none⟩,
           ⟨(some 85), .mv (.tmp 84), none⟩,
           ⟨(some 86), .mv (.tmp 6), (some (85, true))⟩,
           ⟨(some 87), .mv (.tmp 7), (some (85, true))⟩,
           ⟨(some 88), .iaddr 1 (.tmp 86) (.tmp 87), (some (85, true))⟩,
           ⟨(some 89), .load 1 false (.tmp 88), (some (85, true))⟩,
           ⟨(some 90), .mv (.tmp 15), (some (85, true))⟩,
           ⟨(some 91), .iaddr 1 (.tmp 89) (.tmp 90), (some (85, true))⟩,
           ⟨(some 92), .load 1 false (.tmp 91), (some (85, true))⟩,
           ⟨(some 93), .mv (.tmp 13), (some (85, true))⟩,
           ⟨(some 94), .bin .eql (.tmp 92) (.tmp 93), (some (85, true))⟩,
           ⟨(some 95), .pick (.tmp 85) (.tmp 94) (.const (.bool false)), none⟩] [5, 6, 7, 8, 9, 10, 11, 13, 14, 15, 95])
       (.cond (.tmp 95)
        (.reg [
            ⟨(some 96), .mv (.tmp 15), none⟩,
            ⟨(some 14), .mv (.tmp 96), none⟩] [5, 6, 7, 8, 9, 10, 11, 13, 14, 15])
        (.skip))))
      (.reg [
          ⟨(some 80), .mv (.tmp 15), none⟩,
          ⟨(some 81), .bin .add (.tmp 80) (.const (.int .i64 1)), none⟩,
          ⟨(some 15), .mv (.tmp 81), none⟩] [5, 6, 7, 8, 9, 10, 11, 13, 14, 15]))))))
    (.reg [
        ⟨(some 97), .mv (.tmp 14), none⟩,
        ⟨(some 9), .mv (.tmp 97), none⟩] [5, 6, 7, 8, 9, 10, 11])))))))))
   (.reg [
       ⟨(some 43), .mv (.tmp 11), none⟩,
       ⟨(some 44), .bin .add (.tmp 43) (.const (.int .i64 1)), none⟩,
       ⟨(some 11), .mv (.tmp 44), none⟩] [5, 6, 7, 8, 9, 10, 11]))))))
 (.seq (.reg [
     ⟨(some 98), .mv (.tmp 6), none⟩,
     ⟨(some 4), .mv (.tmp 98), none⟩] [4])
 (.ret))))))))))
theorem s_spec_l06Switch : stripF Try.prog 83 [[0, 1], [0, 1, 5], [0, 1, 5, 6], [0, 1, 5, 6, 7], [0, 1, 5, 6, 7, 8], [0, 1, 5, 6, 7, 8, 28], [4], [1, 5, 6, 7, 8, 9], [5, 6, 7, 8, 9, 10], [5, 6, 7, 8, 9, 10, 11], [5, 6, 7, 8, 9, 10, 11], [5, 6, 7, 8, 9, 10, 11, 42], [5, 6, 7, 8, 9, 10, 11, 12], [5, 6, 7, 8, 9, 10, 11, 12, 13], [5, 6, 7, 8, 9, 10, 11, 12, 13], [5, 6, 7, 8, 9, 10, 11, 13], [5, 6, 7, 8, 9, 10, 11, 13, 75], [4], [5, 6, 7, 8, 9, 10, 11, 13, 14], [5, 6, 7, 8, 9, 10, 11, 13, 14, 15], [5, 6, 7, 8, 9, 10, 11, 13, 14, 15], [5, 6, 7, 8, 9, 10, 11, 13, 14, 15, 79], [5, 6, 7, 8, 9, 10, 11, 13, 14, 15, 95], [5, 6, 7, 8, 9, 10, 11, 13, 14, 15], [5, 6, 7, 8, 9, 10, 11, 13, 14, 15], [5, 6, 7, 8, 9, 10, 11], [5, 6, 7, 8, 9, 10, 11], [4]] = some (c_spec_l06Switch, [.tmp 4], 99) := by kernel_rfl
theorem l06Switch_ok (H : List Blk) (p : Nat) (code : AV) (ns : List Int) (t : Nat) (u : Int) (n : Nat) (a : List (List Int)) (ha : sqIn n a) (hp : H[p]? = some (srcB code t u)) (hc : CodeOk code ns) (hcb : ∀ k, Bel k code) (ht : t ≤ 600000000) (n1 : 1 ≤ n) (hn : n ≤ 32) :
    ACalls Try.prog f_spec_l06Switch [.pc p 0 0, ilSS a] H (fun r H' => ∃ (sq : List (List Int)) (u' : Int) (t' : Nat), sqIn n sq ∧ r = ilSS sq ∧ t' ≤ t + 10 ∧ H' = H.set p (srcB code t' u')) := by
  have hlt := (List.getElem?_eq_some_iff.1 hp).1
  have hal := ha.1.1
  refine ACalls.introB s_spec_l06Switch (by simp) ?_; intro hB hA; unfold c_spec_l06Switch; simp (config := { maxSteps := 1000000 }) (disch := (first | omega | (simp only [go_sem]; try omega))) only [go_sem, Nat.reduceAdd, Nat.reduceEqDiff, Nat.reduceLeDiff, Nat.reduceMul, Nat.reduceLT, reduceIte, Int.reduceToNat, w64_id, cast_succ]
  have hBG := fun t u => HB_set hB (p := p) hcb t u
  have hlen : ∀ t u, (H.set p (srcB code t u)).length = H.length := fun t u => List.length_set
  have hself : H.set p (srcB code t u) = H := by
    obtain ⟨g1, g2⟩ := List.getElem?_eq_some_iff.1 hp
    rw [← g2]; exact List.set_getElem_self g1
  have hset2 : ∀ t u t' u' (ext : List Blk), (H.set p (srcB code t u) ++ ext).set p (srcB code t' u') = H.set p (srcB code t' u') ++ ext := fun t u t' u' ext => by
    rw [List.set_append_left _ _ (by rw [hlen]; exact hlt), List.set_set]
  have hpx : ∀ t u (ext : List Blk), (H.set p (srcB code t u) ++ ext)[p]? = some (srcB code t u) := fun t u ext => by
    rw [List.getElem?_append_left (by rw [hlen]; exact hlt)]; exact List.getElem?_set_self hlt
  repeat (first | (with_reducible first | refine SW.seq ?_ | refine SW.block ?_ | refine SW.rowC ?_ | refine SW.skip ?_ | refine SW.exit ?_ | intro _ | refine And.intro (by omega) ?_) | simp (config := { maxSteps := 1000000 }) (disch := (first | omega | (simp only [go_sem]; try omega))) only [go_sem, Nat.reduceAdd, Nat.reduceEqDiff, Nat.reduceLeDiff, Nat.reduceMul, Nat.reduceLT, reduceIte, Int.reduceToNat, w64_id, cast_succ, hal])
  refine (l06Own_sq H (ilSS a) a (rd_ilSS _ _) (by omega) (fun r hr => by have := ha.1.2 r hr; omega)).mono ?_
  rintro r H1 ⟨rfl, rfl⟩
  have hset0 : ∀ t u (ext : List Blk), (H ++ ext).set p (srcB code t u) = H.set p (srcB code t u) ++ ext := fun t u ext => List.set_append_left _ _ hlt
  rw [hal]
  repeat (first | (with_reducible first | refine SW.seq ?_ | refine SW.block ?_ | refine SW.rowC ?_ | refine SW.skip ?_ | refine SW.exit ?_ | intro _ | refine And.intro (by omega) ?_) | simp (config := { maxSteps := 1000000 }) (disch := (first | omega | (simp only [go_sem]; try omega))) only [go_sem, Nat.reduceAdd, Nat.reduceEqDiff, Nat.reduceLeDiff, Nat.reduceMul, Nat.reduceLT, reduceIte, Int.reduceToNat, w64_id, cast_succ])
  refine (pick_ok _ p code ns t u n (by rw [List.getElem?_append_left hlt]; exact hp) hc (by omega)).mono ?_
  rintro r H1 ⟨x, u1, t1, rfl, a1, b1, ht1, rfl⟩
  rw [hset0]
  obtain ⟨x, rfl⟩ := Int.eq_ofNat_of_zero_le a1
  repeat (first | (with_reducible first | refine SW.seq ?_ | refine SW.block ?_ | refine SW.rowC ?_ | refine SW.skip ?_ | refine SW.exit ?_ | intro _ | refine And.intro (by omega) ?_) | simp (config := { maxSteps := 1000000 }) (disch := (first | omega | (simp only [go_sem]; try omega))) only [go_sem, Nat.reduceAdd, Nat.reduceEqDiff, Nat.reduceLeDiff, Nat.reduceMul, Nat.reduceLT, reduceIte, Int.reduceToNat, w64_id, cast_succ])
  refine (pick_ok _ p code ns t1 u1 n (hpx _ _ _) hc (by omega)).mono ?_
  rintro r H1 ⟨z, u2, t2, rfl, a2, b2, ht2, rfl⟩
  rw [hset2]
  obtain ⟨z, rfl⟩ := Int.eq_ofNat_of_zero_le a2
  repeat (first | (with_reducible first | refine SW.seq ?_ | refine SW.block ?_ | refine SW.rowC ?_ | refine SW.skip ?_ | refine SW.exit ?_ | intro _ | refine And.intro (by omega) ?_) | simp (config := { maxSteps := 1000000 }) (disch := (first | omega | (simp only [go_sem]; try omega))) only [go_sem, Nat.reduceAdd, Nat.reduceEqDiff, Nat.reduceLeDiff, Nat.reduceMul, Nat.reduceLT, reduceIte, Int.reduceToNat, w64_id, cast_succ])
  have fin : ∀ (sq : List (List Int)) (u' : Int) (t' : Nat), sqIn n sq → t' ≤ t + 10 → GR H (fun r H' => ∃ (sq : List (List Int)) (u' : Int) (t' : Nat), sqIn n sq ∧ r = ilSS sq ∧ t' ≤ t + 10 ∧ H' = H.set p (srcB code t' u')) (.nm H.length n 0 n) (H.set p (srcB code t' u') ++ sqB n 1 H.length sq) := fun sq u' t' hs ht' => by
    have hfz := froz_sqB (Hb := H.set p (srcB code t' u')) (v := n) (w := 1) (xss := sq) (ext := []) (b := H.length) (by rw [hlen]; exact Nat.le_refl _)
    rw [List.append_nil, hs.1.1, hlen] at hfz
    exact GR.frozH (H0 := H) (H1 := H.set p (srcB code t' u')) (hlen _ _) (hBG _ _) hfz ⟨sq, u', t', hs, rfl, ht', rfl⟩
  by_cases hxz : x = z
  · have d1 : decide ((x : Int) = (z : Int)) = true := decide_eq_true (by omega)
    repeat (first | (with_reducible first | refine SW.seq ?_ | refine SW.block ?_ | refine SW.rowC ?_ | refine SW.skip ?_ | refine SW.exit ?_ | intro _ | refine And.intro (by omega) ?_) | simp (config := { maxSteps := 1000000 }) (disch := (first | omega | (simp only [go_sem]; try omega))) only [go_sem, Nat.reduceAdd, Nat.reduceEqDiff, Nat.reduceLeDiff, Nat.reduceMul, Nat.reduceLT, reduceIte, Int.reduceToNat, w64_id, cast_succ, d1])
    refine SW.condT rfl ?_
    repeat (first | (with_reducible first | refine SW.seq ?_ | refine SW.block ?_ | refine SW.rowC ?_ | refine SW.skip ?_ | refine SW.exit ?_ | intro _ | refine And.intro (by omega) ?_) | simp (config := { maxSteps := 1000000 }) (disch := (first | omega | (simp only [go_sem]; try omega))) only [go_sem, Nat.reduceAdd, Nat.reduceEqDiff, Nat.reduceLeDiff, Nat.reduceMul, Nat.reduceLT, reduceIte, Int.reduceToNat, w64_id, cast_succ])
    refine SW.ret ?_; (try simp only [go_sem]); (first | refine FunPost.one ?_ | refine FunPost.two ?_ | refine FunPost.three ?_); (try simp (config := { maxSteps := 1000000 }) (disch := (first | omega | (simp only [go_sem]; try omega))) only [go_sem, Nat.reduceAdd, Nat.reduceEqDiff, Nat.reduceLeDiff, Nat.reduceMul, Nat.reduceLT, reduceIte, Int.reduceToNat, w64_id, cast_succ])
    exact fin a u2 t2 ha (by omega)
  have d1 : decide ((x : Int) = (z : Int)) = false := decide_eq_false (by omega)
  repeat (first | (with_reducible first | refine SW.seq ?_ | refine SW.block ?_ | refine SW.rowC ?_ | refine SW.skip ?_ | refine SW.exit ?_ | intro _ | refine And.intro (by omega) ?_) | simp (config := { maxSteps := 1000000 }) (disch := (first | omega | (simp only [go_sem]; try omega))) only [go_sem, Nat.reduceAdd, Nat.reduceEqDiff, Nat.reduceLeDiff, Nat.reduceMul, Nat.reduceLT, reduceIte, Int.reduceToNat, w64_id, cast_succ, d1])
  refine SW.condF rfl ?_
  repeat (first | (with_reducible first | refine SW.seq ?_ | refine SW.block ?_ | refine SW.rowC ?_ | refine SW.skip ?_ | refine SW.exit ?_ | intro _ | refine And.intro (by omega) ?_) | simp (config := { maxSteps := 1000000 }) (disch := (first | omega | (simp only [go_sem]; try omega))) only [go_sem, Nat.reduceAdd, Nat.reduceEqDiff, Nat.reduceLeDiff, Nat.reduceMul, Nat.reduceLT, reduceIte, Int.reduceToNat, w64_id, cast_succ])
  refine (pick_ok _ p code ns t2 u2 n (hpx _ _ _) hc (by omega)).mono ?_
  rintro r H1 ⟨y, u3, t3, rfl, a3, b3, ht3, rfl⟩
  rw [hset2]
  obtain ⟨y, rfl⟩ := Int.eq_ofNat_of_zero_le a3
  have hxn : x < n := by omega
  have hzn : z < n := by omega
  have hyn : y < n := by omega
  have la : (a.getD x []).length = n := ha.1.2 _ (by rw [getD_get (show x < a.length by omega)]; exact List.getElem_mem _)
  have fin2 := fun sq hs => fin sq u3 t3 hs (by omega)
  repeat (first | (with_reducible first | refine SW.seq ?_ | refine SW.block ?_ | refine SW.rowC ?_ | refine SW.skip ?_ | refine SW.exit ?_ | intro _ | refine And.intro (by omega) ?_) | simp (config := { maxSteps := 1000000 }) (disch := (first | omega | (simp only [go_sem]; try omega))) only [go_sem, Nat.reduceAdd, Nat.reduceEqDiff, Nat.reduceLeDiff, Nat.reduceMul, Nat.reduceLT, reduceIte, Int.reduceToNat, w64_id, cast_succ, la, hal])
  have hGl := hlen t3 u3
  have hBg := hBG t3 u3
  clear fin hset2 hpx hset0 hBG
  generalize hG : H.set p (srcB code t3 u3) = G at *
  rw [← hGl] at fin2 ⊢
  refine SW.loopE (fun E0 H0 q E' H' => ∃ (k yy : Nat) (sq : List (List Int)), k ≤ n ∧ q = n - k ∧ yy < n ∧ sqIn n sq ∧ E' = aput (aput E0 9 (I yy)) 11 (I k) ∧ H' = G ++ sqB n 1 G.length sq) n ⟨0, y, a, by omega, by omega, hyn, ha, rfl, rfl⟩ ?_
  rintro q E' H' ⟨k, yy, sq, hk, rfl, hyy, hs, rfl, rfl⟩
  simp (config := { maxSteps := 1000000 }) (disch := (first | omega | (simp only [go_sem]; try omega))) only [go_sem, Nat.reduceAdd, Nat.reduceEqDiff, Nat.reduceLeDiff, Nat.reduceMul, Nat.reduceLT, reduceIte, Int.reduceToNat, w64_id, cast_succ]
  repeat (first | (with_reducible first | refine SW.seq ?_ | refine SW.block ?_ | refine SW.rowC ?_ | refine SW.skip ?_ | refine SW.exit ?_ | intro _ | refine And.intro (by omega) ?_) | simp (config := { maxSteps := 1000000 }) (disch := (first | omega | (simp only [go_sem]; try omega))) only [go_sem, Nat.reduceAdd, Nat.reduceEqDiff, Nat.reduceLeDiff, Nat.reduceMul, Nat.reduceLT, reduceIte, Int.reduceToNat, w64_id, cast_succ])
  (first | refine SW.condD rfl (fun h => ?_) (fun h => ?_) | refine SW.condN rfl (fun h => ?_) (fun h => ?_) | refine SW.condNB rfl (fun h => ?_) (fun h => ?_) | refine SW.condB rfl (fun h => ?_) (fun h => ?_))
  · have hsq := hs.1
    have hr1 : (sq.getD x []).length = n := hsq.2 _ (by rw [getD_get (show x < sq.length by omega)]; exact List.getElem_mem _)
    have hr2 : (sq.getD z []).length = n := hsq.2 _ (by rw [getD_get (show z < sq.length by omega)]; exact List.getElem_mem _)
    have gx := sqIn_get hs hxn hyy
    have gz := sqIn_get hs hzn hyy
    have hs1 : sqIn n (setC sq x yy ((sq.getD z []).getD yy 0)) := sqIn_set hs gz
    have c0 := fun s => q0w (H := G) (n := n) (w := 1) (sq := s) (ext := [])
    have c1 := qcellw (H := G) (w := 1) hsq hxn
    have c1z := qcellw (H := G) (w := 1) hsq hzn
    have c2 := qtakew (H := G) (w := 1) hsq.1
    have c3 := qroww (H := G) (w := 1) (ext := []) hsq.1 hxn
    have c3z := qroww (H := G) (w := 1) (ext := []) hsq.1 hzn
    have c4 := fun v => qsetw (H := G) (w := 1) (y := yy) (ext := []) hsq.1 hxn v
    simp only [List.append_nil] at c0 c3 c3z c4
    have hk1 : ((sq.getD x []).map I).take n = (sq.getD x []).map I := List.take_of_length_le (by rw [List.length_map, hr1]; exact Nat.le_refl _)
    have hk2 : ((sq.getD z []).map I).take n = (sq.getD z []).map I := List.take_of_length_le (by rw [List.length_map, hr2]; exact Nat.le_refl _)
    generalize hv1 : (sq.getD z []).getD yy 0 = v1 at *
    generalize hv2 : (sq.getD x []).getD yy 0 = v2 at *
    generalize hS : setC sq x yy v1 = sq1 at *
    have hsq1 := hs1.1
    have hr3 : (sq1.getD z []).length = n := hsq1.2 _ (by rw [getD_get (show z < sq1.length by omega)]; exact List.getElem_mem _)
    have b1 := qcellw (H := G) (w := 1) hsq1 hzn
    have b2 := qtakew (H := G) (w := 1) hsq1.1
    have b3 := qroww (H := G) (w := 1) (ext := []) hsq1.1 hzn
    have b4 := fun v => qsetw (H := G) (w := 1) (y := yy) (ext := []) hsq1.1 hzn v
    simp only [List.append_nil] at b3 b4
    have hs2 : sqIn n (setC sq1 z yy v2) := sqIn_set hs1 gx
    repeat (first | (with_reducible first | refine SW.seq ?_ | refine SW.block ?_ | refine SW.rowC ?_ | refine SW.skip ?_ | refine SW.exit ?_ | intro _ | refine And.intro (by omega) ?_) | simp (config := { maxSteps := 1000000 }) (disch := (first | omega | (simp only [go_sem]; try omega))) only [go_sem, Nat.reduceAdd, Nat.reduceEqDiff, Nat.reduceLeDiff, Nat.reduceMul, Nat.reduceLT, reduceIte, Int.reduceToNat, w64_id, cast_succ, c0, c1, c1z, c2, c3, c3z, c4, hr1, hr2, hk1, hk2, hv1, hv2, hS, b1, b2, b3, b4, hr3])
    generalize hS2 : setC sq1 z yy v2 = sq2 at *
    by_cases hd : v1 = (a.getD x []).getD y 0
    · rw [decide_eq_true hd]
      refine SW.condT rfl ?_
      repeat (first | (with_reducible first | refine SW.seq ?_ | refine SW.block ?_ | refine SW.rowC ?_ | refine SW.skip ?_ | refine SW.exit ?_ | intro _ | refine And.intro (by omega) ?_) | simp (config := { maxSteps := 1000000 }) (disch := (first | omega | (simp only [go_sem]; try omega))) only [go_sem, Nat.reduceAdd, Nat.reduceEqDiff, Nat.reduceLeDiff, Nat.reduceMul, Nat.reduceLT, reduceIte, Int.reduceToNat, w64_id, cast_succ])
      refine SW.ret ?_; (try simp only [go_sem]); (first | refine FunPost.one ?_ | refine FunPost.two ?_ | refine FunPost.three ?_); (try simp (config := { maxSteps := 1000000 }) (disch := (first | omega | (simp only [go_sem]; try omega))) only [go_sem, Nat.reduceAdd, Nat.reduceEqDiff, Nat.reduceLeDiff, Nat.reduceMul, Nat.reduceLT, reduceIte, Int.reduceToNat, w64_id, cast_succ])
      exact fin2 sq2 hs2
    · rw [decide_eq_false hd]
      refine SW.condF rfl ?_
      repeat (first | (with_reducible first | refine SW.seq ?_ | refine SW.block ?_ | refine SW.rowC ?_ | refine SW.skip ?_ | refine SW.exit ?_ | intro _ | refine And.intro (by omega) ?_) | simp (config := { maxSteps := 1000000 }) (disch := (first | omega | (simp only [go_sem]; try omega))) only [go_sem, Nat.reduceAdd, Nat.reduceEqDiff, Nat.reduceLeDiff, Nat.reduceMul, Nat.reduceLT, reduceIte, Int.reduceToNat, w64_id, cast_succ])
      have hsq2 := hs2.1
      have hr5 : (sq2.getD x []).length = n := hsq2.2 _ (by rw [getD_get (show x < sq2.length by omega)]; exact List.getElem_mem _)
      have hk5 : ((sq2.getD x []).map I).take n = (sq2.getD x []).map I := List.take_of_length_le (by rw [List.length_map, hr5]; exact Nat.le_refl _)
      have e1 := qcellw (H := G) (w := 1) hsq2 hxn
      have e2 := qtakew (H := G) (w := 1) hsq2.1
      have e3 := qroww (H := G) (w := 1) (ext := []) hsq2.1 hxn
      simp only [List.append_nil] at e3
      refine SW.loopE (fun E0 H0 q E' H' => ∃ (i nx : Nat), i ≤ n ∧ q = n - i ∧ nx < n ∧ E' = aput (aput E0 14 (I nx)) 15 (I i) ∧ H' = H0) n ⟨0, 0, by omega, by omega, by omega, rfl, rfl⟩ ?_
      rintro q E' H' ⟨i, nx, hi, rfl, hnx, rfl, rfl⟩
      simp (config := { maxSteps := 1000000 }) (disch := (first | omega | (simp only [go_sem]; try omega))) only [go_sem, Nat.reduceAdd, Nat.reduceEqDiff, Nat.reduceLeDiff, Nat.reduceMul, Nat.reduceLT, reduceIte, Int.reduceToNat, w64_id, cast_succ]
      repeat (first | (with_reducible first | refine SW.seq ?_ | refine SW.block ?_ | refine SW.rowC ?_ | refine SW.skip ?_ | refine SW.exit ?_ | intro _ | refine And.intro (by omega) ?_) | simp (config := { maxSteps := 1000000 }) (disch := (first | omega | (simp only [go_sem]; try omega))) only [go_sem, Nat.reduceAdd, Nat.reduceEqDiff, Nat.reduceLeDiff, Nat.reduceMul, Nat.reduceLT, reduceIte, Int.reduceToNat, w64_id, cast_succ])
      (first | refine SW.condD rfl (fun h6 => ?_) (fun h6 => ?_) | refine SW.condN rfl (fun h6 => ?_) (fun h6 => ?_) | refine SW.condNB rfl (fun h6 => ?_) (fun h6 => ?_) | refine SW.condB rfl (fun h6 => ?_) (fun h6 => ?_))
      · have hin : i < n := by omega
        by_cases hiy : i = yy
        · have f1 : decide ((i : Int) = (yy : Int)) = true := decide_eq_true (by omega)
          repeat (first | (with_reducible first | refine SW.seq ?_ | refine SW.block ?_ | refine SW.rowC ?_ | refine SW.skip ?_ | refine SW.exit ?_ | intro _ | refine And.intro (by omega) ?_) | simp (config := { maxSteps := 1000000 }) (disch := (first | omega | (simp only [go_sem]; try omega))) only [go_sem, Nat.reduceAdd, Nat.reduceEqDiff, Nat.reduceLeDiff, Nat.reduceMul, Nat.reduceLT, reduceIte, Int.reduceToNat, w64_id, cast_succ, f1])
          refine SW.condF rfl ?_
          repeat (first | (with_reducible first | refine SW.seq ?_ | refine SW.block ?_ | refine SW.rowC ?_ | refine SW.skip ?_ | refine SW.exit ?_ | intro _ | refine And.intro (by omega) ?_) | simp (config := { maxSteps := 1000000 }) (disch := (first | omega | (simp only [go_sem]; try omega))) only [go_sem, Nat.reduceAdd, Nat.reduceEqDiff, Nat.reduceLeDiff, Nat.reduceMul, Nat.reduceLT, reduceIte, Int.reduceToNat, w64_id, cast_succ])
          exact SLoop.next (n - (i + 1)) (by omega) ⟨i + 1, nx, by omega, rfl, hnx, rfl, rfl⟩
        · have f1 : decide ((i : Int) = (yy : Int)) = false := decide_eq_false (by omega)
          by_cases hvi : (sq2.getD x []).getD i 0 = v1
          · have f2 : decide ((sq2.getD x []).getD i 0 = v1) = true := decide_eq_true hvi
            repeat (first | (with_reducible first | refine SW.seq ?_ | refine SW.block ?_ | refine SW.rowC ?_ | refine SW.skip ?_ | refine SW.exit ?_ | intro _ | refine And.intro (by omega) ?_) | simp (config := { maxSteps := 1000000 }) (disch := (first | omega | (simp only [go_sem]; try omega))) only [go_sem, Nat.reduceAdd, Nat.reduceEqDiff, Nat.reduceLeDiff, Nat.reduceMul, Nat.reduceLT, reduceIte, Int.reduceToNat, w64_id, cast_succ, f1, c0, e1, e2, e3, hr5, hk5, f2])
            refine SW.condT rfl ?_
            repeat (first | (with_reducible first | refine SW.seq ?_ | refine SW.block ?_ | refine SW.rowC ?_ | refine SW.skip ?_ | refine SW.exit ?_ | intro _ | refine And.intro (by omega) ?_) | simp (config := { maxSteps := 1000000 }) (disch := (first | omega | (simp only [go_sem]; try omega))) only [go_sem, Nat.reduceAdd, Nat.reduceEqDiff, Nat.reduceLeDiff, Nat.reduceMul, Nat.reduceLT, reduceIte, Int.reduceToNat, w64_id, cast_succ])
            exact SLoop.next (n - (i + 1)) (by omega) ⟨i + 1, i, by omega, rfl, hin, rfl, rfl⟩
          · have f2 : decide ((sq2.getD x []).getD i 0 = v1) = false := decide_eq_false hvi
            repeat (first | (with_reducible first | refine SW.seq ?_ | refine SW.block ?_ | refine SW.rowC ?_ | refine SW.skip ?_ | refine SW.exit ?_ | intro _ | refine And.intro (by omega) ?_) | simp (config := { maxSteps := 1000000 }) (disch := (first | omega | (simp only [go_sem]; try omega))) only [go_sem, Nat.reduceAdd, Nat.reduceEqDiff, Nat.reduceLeDiff, Nat.reduceMul, Nat.reduceLT, reduceIte, Int.reduceToNat, w64_id, cast_succ, f1, c0, e1, e2, e3, hr5, hk5, f2])
            refine SW.condF rfl ?_
            repeat (first | (with_reducible first | refine SW.seq ?_ | refine SW.block ?_ | refine SW.rowC ?_ | refine SW.skip ?_ | refine SW.exit ?_ | intro _ | refine And.intro (by omega) ?_) | simp (config := { maxSteps := 1000000 }) (disch := (first | omega | (simp only [go_sem]; try omega))) only [go_sem, Nat.reduceAdd, Nat.reduceEqDiff, Nat.reduceLeDiff, Nat.reduceMul, Nat.reduceLT, reduceIte, Int.reduceToNat, w64_id, cast_succ])
            exact SLoop.next (n - (i + 1)) (by omega) ⟨i + 1, nx, by omega, rfl, hnx, rfl, rfl⟩
      · have : i = n := by omega
        subst this
        repeat (first | (with_reducible first | refine SW.seq ?_ | refine SW.block ?_ | refine SW.rowC ?_ | refine SW.skip ?_ | refine SW.exit ?_ | intro _ | refine And.intro (by omega) ?_) | simp (config := { maxSteps := 1000000 }) (disch := (first | omega | (simp only [go_sem]; try omega))) only [go_sem, Nat.reduceAdd, Nat.reduceEqDiff, Nat.reduceLeDiff, Nat.reduceMul, Nat.reduceLT, reduceIte, Int.reduceToNat, w64_id, cast_succ])
        exact SLoop.next (i - (k + 1)) (by omega) ⟨k + 1, nx, sq2, by omega, rfl, hnx, hs2, rfl, rfl⟩
  · repeat (first | (with_reducible first | refine SW.seq ?_ | refine SW.block ?_ | refine SW.rowC ?_ | refine SW.skip ?_ | refine SW.exit ?_ | intro _ | refine And.intro (by omega) ?_) | simp (config := { maxSteps := 1000000 }) (disch := (first | omega | (simp only [go_sem]; try omega))) only [go_sem, Nat.reduceAdd, Nat.reduceEqDiff, Nat.reduceLeDiff, Nat.reduceMul, Nat.reduceLT, reduceIte, Int.reduceToNat, w64_id, cast_succ])
    refine SW.ret ?_; (try simp only [go_sem]); (first | refine FunPost.one ?_ | refine FunPost.two ?_ | refine FunPost.three ?_); (try simp (config := { maxSteps := 1000000 }) (disch := (first | omega | (simp only [go_sem]; try omega))) only [go_sem, Nat.reduceAdd, Nat.reduceEqDiff, Nat.reduceLeDiff, Nat.reduceMul, Nat.reduceLT, reduceIte, Int.reduceToNat, w64_id, cast_succ])
    exact fin2 sq hs
end Go.Proofs.Ytchehdplcbffmaa
