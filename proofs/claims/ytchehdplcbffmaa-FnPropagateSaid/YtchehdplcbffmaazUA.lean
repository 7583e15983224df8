/- Drawn partial squares. -/
import Derived.Test.YtchehdplcbffmaaProg
import Derived.KernelRfl
import Derived.Test.YtchehdplcbffmaazTZ
import Derived.Test.YtchehdplcbffmaazK36
import Derived.Test.YtchehdplcbffmaazT0
set_option linter.unusedSimpArgs false
set_option linter.unusedVariables false
set_option maxHeartbeats 4000000
set_option maxRecDepth 100000
namespace Go.Proofs.Ytchehdplcbffmaa
open Go.Av
abbrev f_spec_l09DrawPartial : Nat := 35
def c_spec_l09DrawPartial : SC :=
 .seq (.reg [
     ⟨(some 4), .mv (.const (.slice none 0 0)), none⟩] [0, 1])
 (.seq (.reg [
     ⟨(some 12), .mv (.tmp 0), none⟩,
     ⟨(some 13), .mv (.tmp 1), none⟩,
     ⟨(some 14), .call 38 [(.tmp 12), (.tmp 13)], none⟩,
     ⟨(some 15), .call 37 [(.tmp 14)], none⟩,
     ⟨(some 5), .mv (.tmp 15), none⟩] [0, 1, 5])
 (.seq (.reg [
     ⟨(some 16), .mv (.tmp 0), none⟩,
     ⟨(some 17), .call 34 [(.tmp 16), (.const (.int .i64 5))], none⟩,
     ⟨(some 6), .mv (.tmp 17), none⟩] [0, 1, 5, 6])
 (.seq (.seq (.reg [
     ⟨(some 7), .mv (.const (.int .i64 0)), none⟩] [0, 1, 5, 6, 7])
 (.block 0 (.loop [0, 1, 5, 6, 7]
   (.seq (.seq (.reg [
       ⟨(some 18), .mv (.tmp 7), none⟩,
       ⟨(some 19), .mv (.tmp 1), none⟩,
       ⟨(some 20), .mv (.tmp 1), none⟩,
       ⟨(some 21), .bin .mul (.tmp 19) (.tmp 20), none⟩,
       ⟨(some 22), .bin .lss (.tmp 18) (.tmp 21), none⟩] [0, 1, 5, 6, 7, 22])
   (.cond (.tmp 22)
    (.skip)
    (.exit 0)))
   (.seq (.block 1 (.seq (.reg [
        ⟨(some 25), .mv (.tmp 0), none⟩,
        ⟨(some 26), .call 34 [(.tmp 25), (.const (.int .i64 10))], none⟩,
        ⟨(some 27), .mv (.tmp 6), none⟩,
        ⟨(some 28), .bin .mul (.const (.int .i64 2)) (.tmp 27), none⟩,
        ⟨(some 29), .bin .add (.const (.int .i64 3)) (.tmp 28), none⟩,
        ⟨(some 30), .bin .lss (.tmp 26) (.tmp 29), none⟩,
        ⟨(some 8), .mv (.tmp 30), none⟩] [0, 1, 5, 6, 7, 8])
    (.seq (.seq (.reg [
        ⟨(some 31), .mv (.tmp 6), none⟩,
        ⟨(some 32), .bin .eql (.tmp 31) (.const (.int .i64 4)), none⟩] [0, 1, 5, 6, 7, 8, 32])
    (.cond (.tmp 32)
     (.reg [
         ⟨(some 33), .mv (.tmp 0), none⟩,
         ⟨(some 34), .call 36 [(.tmp 33), (.const (.int .i64 6))], none⟩,
         ⟨(some 35), .un .not (.tmp 34), none⟩,
         ⟨(some 8), .mv (.tmp 35), none⟩] [0, 1, 5, 6, 7, 8])
     (.skip)))
    (.seq (.reg [
        ⟨(some 36), .mv (.tmp 8), none⟩] [0, 1, 5, 6, 7, 36])
    (.cond (.tmp 36)
     (.reg [
         ⟨(some 37), .mv (.tmp 5), none⟩,
         ⟨(some 38), .mv (.tmp 7), none⟩,
         ⟨(some 39), .mv (.tmp 1), none⟩,
         ⟨(some 40), .bin .quo (.tmp 38) (.tmp 39), none⟩,
         ⟨(some 41), .iaddr 1 (.tmp 37) (.tmp 40), none⟩,
         ⟨(some 42), .load 1 false (.tmp 41), none⟩,
         ⟨(some 43), .mv (.tmp 7), none⟩,
         ⟨(some 44), .mv (.tmp 1), none⟩,
         ⟨(some 45), .bin .rem (.tmp 43) (.tmp 44), none⟩,
         ⟨(some 46), .iaddr 1 (.tmp 42) (.tmp 45), none⟩,
         ⟨none, .store 1 (.tmp 46) (.const (.int .i64 (-1))), none⟩] [0, 1, 5, 6, 7])
     (.skip))))))
   (.reg [
       ⟨(some 23), .mv (.tmp 7), none⟩,
       ⟨(some 24), .bin .add (.tmp 23) (.const (.int .i64 1)), none⟩,
       ⟨(some 7), .mv (.tmp 24), none⟩] [0, 1, 5, 6, 7]))))))
 (.seq (.seq (.reg [
     ⟨(some 47), .mv (.tmp 0), none⟩,
     ⟨(some 48), .call 36 [(.tmp 47), (.const (.int .i64 4))], none⟩] [0, 1, 5, 48])
 (.cond (.tmp 48)
  (.seq (.reg [
      ⟨(some 49), .mv (.tmp 0), none⟩,
      ⟨(some 50), .mv (.tmp 1), none⟩,
      ⟨(some 51), .call 34 [(.tmp 49), (.tmp 50)], none⟩,
      ⟨(some 9), .mv (.tmp 51), none⟩] [0, 1, 5, 9])
  (.seq (.reg [
      ⟨(some 52), .mv (.tmp 0), none⟩,
      ⟨(some 53), .mv (.tmp 1), none⟩,
      ⟨(some 54), .call 34 [(.tmp 52), (.tmp 53)], none⟩,
      ⟨(some 10), .mv (.tmp 54), none⟩] [0, 5, 9, 10])
  (.seq (.reg [
      ⟨(some 55), .mv (.tmp 5), none⟩,
      ⟨(some 56), .mv (.tmp 9), none⟩,
      ⟨(some 57), .iaddr 1 (.tmp 55) (.tmp 56), none⟩,
      ⟨(some 58), .load 1 false (.tmp 57), none⟩,
      ⟨(some 59), .mv (.tmp 10), none⟩,
      ⟨(some 60), .iaddr 1 (.tmp 58) (.tmp 59), none⟩,
      ⟨(some 61), .load 1 false (.tmp 60), none⟩,
      ⟨(some 62), .bin .lss (.tmp 61) (.const (.int .i64 0)), none⟩] [0, 5, 9, 10, 62])
  (.cond (.tmp 62)
   (.seq (.reg [
       ⟨(some 63), .mv (.tmp 5), none⟩,
       ⟨(some 64), .mv (.tmp 9), none⟩,
       ⟨(some 65), .mv (.tmp 10), none⟩,
       ⟨(some 66), .call 78 [(.tmp 63), (.tmp 64), (.tmp 65)], none⟩,
       ⟨(some 11), .mv (.tmp 66), none⟩] [0, 5, 9, 10, 11])
   (.seq (.reg [
       ⟨(some 67), .mv (.tmp 11), none⟩,
       ⟨(some 68), .len (.tmp 67), none⟩,
       ⟨(some 69), .bin .gtr (.tmp 68) (.const (.int .i64 0)), none⟩] [0, 5, 9, 10, 11, 69])
   (.cond (.tmp 69)
    (.mix (.one ⟨(some 70), .mv (.tmp 5), none⟩
     (.one ⟨(some 71), .mv (.tmp 9), none⟩
     (.one ⟨(some 74), .mv (.tmp 10), none⟩
     (.one ⟨(some 75), .mv (.tmp 0), none⟩
     (.one ⟨(some 76), .mv (.tmp 11), none⟩
     (.both (.one ⟨(some 72), .iaddr 1 (.tmp 70) (.tmp 71), none⟩
      (.both (.one ⟨(some 73), .load 1 false (.tmp 72), none⟩
       (.one ⟨(some 77), .call 79 [(.tmp 75), (.tmp 76)], none⟩
       (.one ⟨(some 78), .iaddr 1 (.tmp 73) (.tmp 74), none⟩
       (.one ⟨none, .store 1 (.tmp 78) (.tmp 77), none⟩
       (.done)))))
      (.one ⟨(some 77), .call 79 [(.tmp 75), (.tmp 76)], none⟩
       (.one ⟨(some 73), .load 1 false (.tmp 72), none⟩
       (.one ⟨(some 78), .iaddr 1 (.tmp 73) (.tmp 74), none⟩
       (.one ⟨none, .store 1 (.tmp 78) (.tmp 77), none⟩
       (.done)))))))
     (.one ⟨(some 77), .call 79 [(.tmp 75), (.tmp 76)], none⟩
      (.one ⟨(some 72), .iaddr 1 (.tmp 70) (.tmp 71), none⟩
      (.one ⟨(some 73), .load 1 false (.tmp 72), none⟩
      (.one ⟨(some 78), .iaddr 1 (.tmp 73) (.tmp 74), none⟩
      (.one ⟨none, .store 1 (.tmp 78) (.tmp 77), none⟩
      (.done)))))))))))) [5])
    (.skip))))
   (.skip)))))
  (.skip)))
 (.seq (.reg [
     ⟨(some 79), .mv (.tmp 5), none⟩,
     ⟨(some 4), .mv (.tmp 79), none⟩] [4])
 (.ret))))))
theorem s_spec_l09DrawPartial : stripF Try.prog 35 [[0, 1], [0, 1, 5], [0, 1, 5, 6], [0, 1, 5, 6, 7], [0, 1, 5, 6, 7], [0, 1, 5, 6, 7, 22], [0, 1, 5, 6, 7, 8], [0, 1, 5, 6, 7, 8, 32], [0, 1, 5, 6, 7, 8], [0, 1, 5, 6, 7, 36], [0, 1, 5, 6, 7], [0, 1, 5, 6, 7], [0, 1, 5, 48], [0, 1, 5, 9], [0, 5, 9, 10], [0, 5, 9, 10, 62], [0, 5, 9, 10, 11], [0, 5, 9, 10, 11, 69], [5, 1000007], [4]] = some (c_spec_l09DrawPartial, [.tmp 4], 80) := by kernel_rfl
def sqM (n : Nat) (sq : List (List Int)) : Prop := (sq.length = n ∧ ∀ r ∈ sq, r.length = n) ∧ ∀ r ∈ sq, ∀ z ∈ r, -1 ≤ z ∧ z < (n : Int)
theorem sqIn.m {n : Nat} {sq : List (List Int)} (h : sqIn n sq) : sqM n sq := ⟨h.1, fun r hr z hz => by have := h.2 r hr z hz; omega⟩
theorem sqM_set {n x y : Nat} {v : Int} {sq : List (List Int)} (h : sqM n sq) (hv : -1 ≤ v ∧ v < n) : sqM n (setC sq x y v) := by
  refine ⟨setC_ok h.1, fun r hr z hz => ?_⟩
  unfold setC at hr
  by_cases hx : x < sq.length
  · rcases List.mem_or_eq_of_mem_set hr with hr | rfl
    · exact h.2 r hr z hz
    · rcases List.mem_or_eq_of_mem_set hz with hz | rfl
      · exact h.2 _ (by rw [getD_get hx]; exact List.getElem_mem _) z hz
      · exact hv
  · rw [List.set_eq_of_length_le (by omega)] at hr; exact h.2 r hr z hz
theorem l09DrawPartial_ok (H : List Blk) (p : Nat) (code : AV) (ns : List Int) (t : Nat) (u : Int) (n : Nat) (hp : H[p]? = some (srcB code t u)) (hc : CodeOk code ns) (hcb : ∀ k, Bel k code) (ht : t ≤ 400000000) (n1 : 1 ≤ n) (hn : n ≤ 10) :
    ACalls Try.prog f_spec_l09DrawPartial [.pc p 0 0, I n] H (fun r H' => ∃ (sq : List (List Int)) (u' : Int) (t' : Nat), sqM n sq ∧ r = .nm H.length n 0 n ∧ t' ≤ t + 2000 ∧ H' = H.set p (srcB code t' u') ++ sqB n 1 H.length sq) := by
  have hlt := (List.getElem?_eq_some_iff.1 hp).1
  have hnn : n * n ≤ 100 := Nat.mul_le_mul hn hn
  have hn0 : (n : Int) ≠ 0 := by omega
  have hwn : w64 ((n : Int) * n) = ((n * n : Nat) : Int) := by rw [← Int.natCast_mul]; exact w64_id (by omega) (by omega)
  refine ACalls.introB s_spec_l09DrawPartial (by simp) ?_; intro hB hA; unfold c_spec_l09DrawPartial; simp (config := { maxSteps := 1000000 }) (disch := (first | omega | (simp only [go_sem]; try omega))) only [go_sem, Nat.reduceAdd, Nat.reduceEqDiff, Nat.reduceLeDiff, Nat.reduceMul, Nat.reduceLT, reduceIte, Int.reduceToNat, w64_id, cast_succ]
  have hlen : ∀ t u, (H.set p (srcB code t u)).length = H.length := fun t u => List.length_set
  have hset2 : ∀ t u t' u' (ext : List Blk), (H.set p (srcB code t u) ++ ext).set p (srcB code t' u') = H.set p (srcB code t' u') ++ ext := fun t u t' u' ext => by
    rw [List.set_append_left _ _ (by rw [hlen]; exact hlt), List.set_set]
  have hpx : ∀ t u (ext : List Blk), (H.set p (srcB code t u) ++ ext)[p]? = some (srcB code t u) := fun t u ext => by
    rw [List.getElem?_append_left (by rw [hlen]; exact hlt)]; exact List.getElem?_set_self hlt
  have hBG := fun t u => HB_set hB (p := p) hcb t u
  have gX : ∀ t u (X : List Blk) k, (H.set p (srcB code t u) ++ X)[H.length + k]? = X[k]? := fun t u X k => by
    rw [List.getElem?_append_right (by rw [hlen]; omega), hlen, show H.length + k - H.length = k by omega]
  have gX0 : ∀ t u (X : List Blk), (H.set p (srcB code t u) ++ X)[H.length]? = X[0]? := fun t u X => gX t u X 0
  have sX : ∀ t u (X : List Blk) k (b : Blk), (H.set p (srcB code t u) ++ X).set (H.length + k) b = H.set p (srcB code t u) ++ X.set k b := fun t u X k b => by
    rw [List.set_append_right _ _ (by rw [hlen]; omega), hlen, show H.length + k - H.length = k by omega]
  repeat (first | (with_reducible first | refine SW.seq ?_ | refine SW.block ?_ | refine SW.rowC ?_ | refine SW.skip ?_ | refine SW.exit ?_ | intro _ | refine And.intro (by omega) ?_) | simp (config := { maxSteps := 1000000 }) (disch := (first | omega | (simp only [go_sem]; try omega))) only [go_sem, Nat.reduceAdd, Nat.reduceEqDiff, Nat.reduceLeDiff, Nat.reduceMul, Nat.reduceLT, reduceIte, Int.reduceToNat, w64_id, cast_succ])
  refine (l06DrawSquare_ok H p code ns t u n hp hc hcb (by omega) n1 (by omega)).mono ?_
  rintro r H1 ⟨a, u1, t1, ha, rfl, ht1, rfl⟩
  repeat (first | (with_reducible first | refine SW.seq ?_ | refine SW.block ?_ | refine SW.rowC ?_ | refine SW.skip ?_ | refine SW.exit ?_ | intro _ | refine And.intro (by omega) ?_) | simp (config := { maxSteps := 1000000 }) (disch := (first | omega | (simp only [go_sem]; try omega))) only [go_sem, Nat.reduceAdd, Nat.reduceEqDiff, Nat.reduceLeDiff, Nat.reduceMul, Nat.reduceLT, reduceIte, Int.reduceToNat, w64_id, cast_succ])
  refine (l06Own_sq _ (ilSS a) a (rd_ilSS _ _) (by have := ha.1.1; omega) (fun r hr => by have := ha.1.2 r hr; omega)).mono ?_
  rintro r H1 ⟨rfl, rfl⟩
  rw [ha.1.1, hlen]
  repeat (first | (with_reducible first | refine SW.seq ?_ | refine SW.block ?_ | refine SW.rowC ?_ | refine SW.skip ?_ | refine SW.exit ?_ | intro _ | refine And.intro (by omega) ?_) | simp (config := { maxSteps := 1000000 }) (disch := (first | omega | (simp only [go_sem]; try omega))) only [go_sem, Nat.reduceAdd, Nat.reduceEqDiff, Nat.reduceLeDiff, Nat.reduceMul, Nat.reduceLT, reduceIte, Int.reduceToNat, w64_id, cast_succ])
  refine (pick_ok _ p code ns t1 u1 5 (hpx _ _ _) hc (by omega)).mono ?_
  rintro r H1 ⟨kd, u2, t2, rfl, a2, b2, ht2, rfl⟩
  rw [hset2]
  have hk4 : kd ≤ 4 := by omega
  repeat (first | (with_reducible first | refine SW.seq ?_ | refine SW.block ?_ | refine SW.rowC ?_ | refine SW.skip ?_ | refine SW.exit ?_ | intro _ | refine And.intro (by omega) ?_) | simp (config := { maxSteps := 1000000 }) (disch := (first | omega | (simp only [go_sem]; try omega))) only [go_sem, Nat.reduceAdd, Nat.reduceEqDiff, Nat.reduceLeDiff, Nat.reduceMul, Nat.reduceLT, reduceIte, Int.reduceToNat, w64_id, cast_succ])
  refine SW.loopE (fun E0 H0 q E' H' => ∃ (c : Nat) (sq : List (List Int)) (u' : Int) (t' : Nat), c ≤ n * n ∧ q = n * n - c ∧ sqM n sq ∧ t' ≤ t + 402 + 10 * c ∧ E' = aput E0 7 (I c) ∧ H' = H.set p (srcB code t' u') ++ sqB n 1 H.length sq) (n * n) ⟨0, a, u2, t2, by omega, by omega, ha.m, by omega, rfl, rfl⟩ ?_
  rintro q E' H' ⟨c, sq, u3, t3, hcn, rfl, hs, ht3, rfl, rfl⟩
  simp (config := { maxSteps := 1000000 }) (disch := (first | omega | (simp only [go_sem]; try omega))) only [go_sem, Nat.reduceAdd, Nat.reduceEqDiff, Nat.reduceLeDiff, Nat.reduceMul, Nat.reduceLT, reduceIte, Int.reduceToNat, w64_id, cast_succ]
  repeat (first | (with_reducible first | refine SW.seq ?_ | refine SW.block ?_ | refine SW.rowC ?_ | refine SW.skip ?_ | refine SW.exit ?_ | intro _ | refine And.intro (by omega) ?_) | simp (config := { maxSteps := 1000000 }) (disch := (first | omega | (simp only [go_sem]; try omega))) only [go_sem, Nat.reduceAdd, Nat.reduceEqDiff, Nat.reduceLeDiff, Nat.reduceMul, Nat.reduceLT, reduceIte, Int.reduceToNat, w64_id, cast_succ])
  (first | refine SW.condD rfl (fun h => ?_) (fun h => ?_) | refine SW.condN rfl (fun h => ?_) (fun h => ?_) | refine SW.condNB rfl (fun h => ?_) (fun h => ?_) | refine SW.condB rfl (fun h => ?_) (fun h => ?_))
  · have hclt : c < n * n := by rw [← Int.natCast_mul] at h; omega
    have hx : c / n < n := Nat.div_lt_of_lt_mul hclt
    have hy : c % n < n := Nat.mod_lt _ (by omega)
    have hd1 : (c : Int).tdiv n = ((c / n : Nat) : Int) := (Int.ofNat_tdiv c n).symm
    have hd2 : (c : Int).tmod n = ((c % n : Nat) : Int) := (Int.ofNat_tmod c n).symm
    generalize c / n = x at *
    generalize c % n = y at *
    have hw1 : w64 (x : Int) = x := w64_id (by omega) (by omega)
    repeat (first | (with_reducible first | refine SW.seq ?_ | refine SW.block ?_ | refine SW.rowC ?_ | refine SW.skip ?_ | refine SW.exit ?_ | intro _ | refine And.intro (by omega) ?_) | simp (config := { maxSteps := 1000000 }) (disch := (first | omega | (simp only [go_sem]; try omega))) only [go_sem, Nat.reduceAdd, Nat.reduceEqDiff, Nat.reduceLeDiff, Nat.reduceMul, Nat.reduceLT, reduceIte, Int.reduceToNat, w64_id, cast_succ])
    refine (pick_ok _ p code ns t3 u3 10 (hpx _ _ _) hc (by omega)).mono ?_
    rintro r H1 ⟨pk, u4, t4, rfl, a4, b4, ht4, rfl⟩
    rw [hset2]
    repeat (first | (with_reducible first | refine SW.seq ?_ | refine SW.block ?_ | refine SW.rowC ?_ | refine SW.skip ?_ | refine SW.exit ?_ | intro _ | refine And.intro (by omega) ?_) | simp (config := { maxSteps := 1000000 }) (disch := (first | omega | (simp only [go_sem]; try omega))) only [go_sem, Nat.reduceAdd, Nat.reduceEqDiff, Nat.reduceLeDiff, Nat.reduceMul, Nat.reduceLT, reduceIte, Int.reduceToNat, w64_id, cast_succ])
    generalize decide (pk < 3 + 2 * kd) = gone
    have hrl : (sq.getD x []).length = n := hs.1.2 _ (by rw [getD_get (show x < sq.length by have := hs.1.1; omega)]; exact List.getElem_mem _)
    have htk : ((sq.getD x []).map I).take n = (sq.getD x []).map I := List.take_of_length_le (by rw [List.length_map, hrl]; exact Nat.le_refl _)
    have c0 := q0w (H := H) (n := n) (w := 1) (sq := sq) (ext := [])
    have c1 := qcellw (H := H) (w := 1) hs.1 hx
    have c2 := qtakew (H := H) (w := 1) hs.1.1
    have c3 := qroww (H := H) (w := 1) (ext := []) hs.1.1 hx
    have c4 := fun v => qsetw (H := H) (w := 1) (y := y) (ext := []) hs.1.1 hx v
    simp only [List.append_nil] at c0 c3 c4
    have aV : ∀ t u, aview (H.set p (srcB code t u) ++ sqB n 1 H.length sq) (.nm H.length n 0 n) = some (n, nmsV 1 (H.length + 1) sq) := fun t u => by
      simp only [aview]; rw [gX0, c0]; simp [c2]
    have aR : ∀ t u, aview (H.set p (srcB code t u) ++ sqB n 1 H.length sq) (.nm (H.length + (x + 1)) 1 0 n) = some (n, (sq.getD x []).map I) := fun t u => by
      simp only [aview]; rw [gX, c3]; simpa using htk
    have aS : ∀ t u v, astore (H.set p (srcB code t u) ++ sqB n 1 H.length sq) [I v] (.el (.nm (H.length + (x + 1)) 1 0 n) y) = some (H.set p (srcB code t u) ++ sqB n 1 H.length (setC sq x y v)) := fun t u v => by
      rw [store_nm (by rw [gX]; exact c3) (by rw [List.length_map, hrl]; exact hy), sX, ← c4 v, List.map_set]
    (first | refine SW.condD rfl (fun hq => ?_) (fun hq => ?_) | refine SW.condN rfl (fun hq => ?_) (fun hq => ?_) | refine SW.condNB rfl (fun hq => ?_) (fun hq => ?_) | refine SW.condB rfl (fun hq => ?_) (fun hq => ?_))
    · repeat (first | (with_reducible first | refine SW.seq ?_ | refine SW.block ?_ | refine SW.rowC ?_ | refine SW.skip ?_ | refine SW.exit ?_ | intro _ | refine And.intro (by omega) ?_) | simp (config := { maxSteps := 1000000 }) (disch := (first | omega | (simp only [go_sem]; try omega))) only [go_sem, Nat.reduceAdd, Nat.reduceEqDiff, Nat.reduceLeDiff, Nat.reduceMul, Nat.reduceLT, reduceIte, Int.reduceToNat, w64_id, cast_succ])
      refine (one_ok _ p code ns t4 u4 6 (hpx _ _ _) hc (by omega)).mono ?_
      rintro r H1 ⟨b, u5, t5, rfl, ht5, rfl⟩
      rw [hset2]
      repeat (first | (with_reducible first | refine SW.seq ?_ | refine SW.block ?_ | refine SW.rowC ?_ | refine SW.skip ?_ | refine SW.exit ?_ | intro _ | refine And.intro (by omega) ?_) | simp (config := { maxSteps := 1000000 }) (disch := (first | omega | (simp only [go_sem]; try omega))) only [go_sem, Nat.reduceAdd, Nat.reduceEqDiff, Nat.reduceLeDiff, Nat.reduceMul, Nat.reduceLT, reduceIte, Int.reduceToNat, w64_id, cast_succ])
      cases b
      · refine SW.condT rfl ?_
        repeat (first | (with_reducible first | refine SW.seq ?_ | refine SW.block ?_ | refine SW.rowC ?_ | refine SW.skip ?_ | refine SW.exit ?_ | intro _ | refine And.intro (by omega) ?_) | simp (config := { maxSteps := 1000000 }) (disch := (first | omega | (simp only [go_sem]; try omega))) only [go_sem, Nat.reduceAdd, Nat.reduceEqDiff, Nat.reduceLeDiff, Nat.reduceMul, Nat.reduceLT, reduceIte, Int.reduceToNat, w64_id, cast_succ, c0, c1, c2, c3, c4, hrl, htk, hd1, hd2, hn0, hw1, gX, gX0, sX, aV, aR, aS])
        exact SLoop.next (n * n - (c + 1)) (by omega) ⟨c + 1, setC sq x y (-1), _, _, by omega, rfl, sqM_set hs (by omega), (by omega), by simp [go_sem], rfl⟩
      · refine SW.condF rfl ?_
        repeat (first | (with_reducible first | refine SW.seq ?_ | refine SW.block ?_ | refine SW.rowC ?_ | refine SW.skip ?_ | refine SW.exit ?_ | intro _ | refine And.intro (by omega) ?_) | simp (config := { maxSteps := 1000000 }) (disch := (first | omega | (simp only [go_sem]; try omega))) only [go_sem, Nat.reduceAdd, Nat.reduceEqDiff, Nat.reduceLeDiff, Nat.reduceMul, Nat.reduceLT, reduceIte, Int.reduceToNat, w64_id, cast_succ])
        exact SLoop.next (n * n - (c + 1)) (by omega) ⟨c + 1, sq, _, _, by omega, rfl, hs, (by omega), by simp [go_sem], rfl⟩
    · cases gone
      · repeat (first | (with_reducible first | refine SW.seq ?_ | refine SW.block ?_ | refine SW.rowC ?_ | refine SW.skip ?_ | refine SW.exit ?_ | intro _ | refine And.intro (by omega) ?_) | simp (config := { maxSteps := 1000000 }) (disch := (first | omega | (simp only [go_sem]; try omega))) only [go_sem, Nat.reduceAdd, Nat.reduceEqDiff, Nat.reduceLeDiff, Nat.reduceMul, Nat.reduceLT, reduceIte, Int.reduceToNat, w64_id, cast_succ])
        refine SW.condF rfl ?_
        repeat (first | (with_reducible first | refine SW.seq ?_ | refine SW.block ?_ | refine SW.rowC ?_ | refine SW.skip ?_ | refine SW.exit ?_ | intro _ | refine And.intro (by omega) ?_) | simp (config := { maxSteps := 1000000 }) (disch := (first | omega | (simp only [go_sem]; try omega))) only [go_sem, Nat.reduceAdd, Nat.reduceEqDiff, Nat.reduceLeDiff, Nat.reduceMul, Nat.reduceLT, reduceIte, Int.reduceToNat, w64_id, cast_succ])
        exact SLoop.next (n * n - (c + 1)) (by omega) ⟨c + 1, sq, _, _, by omega, rfl, hs, (by omega), by simp [go_sem], rfl⟩
      · repeat (first | (with_reducible first | refine SW.seq ?_ | refine SW.block ?_ | refine SW.rowC ?_ | refine SW.skip ?_ | refine SW.exit ?_ | intro _ | refine And.intro (by omega) ?_) | simp (config := { maxSteps := 1000000 }) (disch := (first | omega | (simp only [go_sem]; try omega))) only [go_sem, Nat.reduceAdd, Nat.reduceEqDiff, Nat.reduceLeDiff, Nat.reduceMul, Nat.reduceLT, reduceIte, Int.reduceToNat, w64_id, cast_succ])
        refine SW.condT rfl ?_
        repeat (first | (with_reducible first | refine SW.seq ?_ | refine SW.block ?_ | refine SW.rowC ?_ | refine SW.skip ?_ | refine SW.exit ?_ | intro _ | refine And.intro (by omega) ?_) | simp (config := { maxSteps := 1000000 }) (disch := (first | omega | (simp only [go_sem]; try omega))) only [go_sem, Nat.reduceAdd, Nat.reduceEqDiff, Nat.reduceLeDiff, Nat.reduceMul, Nat.reduceLT, reduceIte, Int.reduceToNat, w64_id, cast_succ, c0, c1, c2, c3, c4, hrl, htk, hd1, hd2, hn0, hw1, gX, gX0, sX, aV, aR, aS])
        exact SLoop.next (n * n - (c + 1)) (by omega) ⟨c + 1, setC sq x y (-1), _, _, by omega, rfl, sqM_set hs (by omega), (by omega), by simp [go_sem], rfl⟩
  · obtain rfl : c = n * n := by rw [← Int.natCast_mul] at h; omega
    repeat (first | (with_reducible first | refine SW.seq ?_ | refine SW.block ?_ | refine SW.rowC ?_ | refine SW.skip ?_ | refine SW.exit ?_ | intro _ | refine And.intro (by omega) ?_) | simp (config := { maxSteps := 1000000 }) (disch := (first | omega | (simp only [go_sem]; try omega))) only [go_sem, Nat.reduceAdd, Nat.reduceEqDiff, Nat.reduceLeDiff, Nat.reduceMul, Nat.reduceLT, reduceIte, Int.reduceToNat, w64_id, cast_succ])
    refine (one_ok _ p code ns t3 u3 4 (hpx _ _ _) hc (by omega)).mono ?_
    rintro r H1 ⟨b, u4, t4, rfl, ht4, rfl⟩
    rw [hset2]
    repeat (first | (with_reducible first | refine SW.seq ?_ | refine SW.block ?_ | refine SW.rowC ?_ | refine SW.skip ?_ | refine SW.exit ?_ | intro _ | refine And.intro (by omega) ?_) | simp (config := { maxSteps := 1000000 }) (disch := (first | omega | (simp only [go_sem]; try omega))) only [go_sem, Nat.reduceAdd, Nat.reduceEqDiff, Nat.reduceLeDiff, Nat.reduceMul, Nat.reduceLT, reduceIte, Int.reduceToNat, w64_id, cast_succ])
    cases b
    · refine SW.condF rfl ?_
      repeat (first | (with_reducible first | refine SW.seq ?_ | refine SW.block ?_ | refine SW.rowC ?_ | refine SW.skip ?_ | refine SW.exit ?_ | intro _ | refine And.intro (by omega) ?_) | simp (config := { maxSteps := 1000000 }) (disch := (first | omega | (simp only [go_sem]; try omega))) only [go_sem, Nat.reduceAdd, Nat.reduceEqDiff, Nat.reduceLeDiff, Nat.reduceMul, Nat.reduceLT, reduceIte, Int.reduceToNat, w64_id, cast_succ])
      refine SW.ret ?_; (try simp only [go_sem]); (first | refine FunPost.one ?_ | refine FunPost.two ?_ | refine FunPost.three ?_); (try simp (config := { maxSteps := 1000000 }) (disch := (first | omega | (simp only [go_sem]; try omega))) only [go_sem, Nat.reduceAdd, Nat.reduceEqDiff, Nat.reduceLeDiff, Nat.reduceMul, Nat.reduceLT, reduceIte, Int.reduceToNat, w64_id, cast_succ])
      exact GR.of ⟨sq, u4, t4, hs, rfl, by omega, rfl⟩
    refine SW.condT rfl ?_
    repeat (first | (with_reducible first | refine SW.seq ?_ | refine SW.block ?_ | refine SW.rowC ?_ | refine SW.skip ?_ | refine SW.exit ?_ | intro _ | refine And.intro (by omega) ?_) | simp (config := { maxSteps := 1000000 }) (disch := (first | omega | (simp only [go_sem]; try omega))) only [go_sem, Nat.reduceAdd, Nat.reduceEqDiff, Nat.reduceLeDiff, Nat.reduceMul, Nat.reduceLT, reduceIte, Int.reduceToNat, w64_id, cast_succ])
    refine (pick_ok _ p code ns t4 u4 n (hpx _ _ _) hc (by omega)).mono ?_
    rintro r H1 ⟨x, u5, t5, rfl, a5, b5, ht5, rfl⟩
    rw [hset2]
    obtain ⟨x, rfl⟩ := Int.eq_ofNat_of_zero_le a5
    have hx : x < n := by omega
    repeat (first | (with_reducible first | refine SW.seq ?_ | refine SW.block ?_ | refine SW.rowC ?_ | refine SW.skip ?_ | refine SW.exit ?_ | intro _ | refine And.intro (by omega) ?_) | simp (config := { maxSteps := 1000000 }) (disch := (first | omega | (simp only [go_sem]; try omega))) only [go_sem, Nat.reduceAdd, Nat.reduceEqDiff, Nat.reduceLeDiff, Nat.reduceMul, Nat.reduceLT, reduceIte, Int.reduceToNat, w64_id, cast_succ])
    refine (pick_ok _ p code ns t5 u5 n (hpx _ _ _) hc (by omega)).mono ?_
    rintro r H1 ⟨y, u6, t6, rfl, a6, b6, ht6, rfl⟩
    rw [hset2]
    obtain ⟨y, rfl⟩ := Int.eq_ofNat_of_zero_le a6
    have hy : y < n := by omega
    have hrl : (sq.getD x []).length = n := hs.1.2 _ (by rw [getD_get (show x < sq.length by have := hs.1.1; omega)]; exact List.getElem_mem _)
    have htk : ((sq.getD x []).map I).take n = (sq.getD x []).map I := List.take_of_length_le (by rw [List.length_map, hrl]; exact Nat.le_refl _)
    have c0 := q0w (H := H) (n := n) (w := 1) (sq := sq) (ext := [])
    have c1 := qcellw (H := H) (w := 1) hs.1 hx
    have c2 := qtakew (H := H) (w := 1) hs.1.1
    have c3 := qroww (H := H) (w := 1) (ext := []) hs.1.1 hx
    have c4 := fun v => qsetw (H := H) (w := 1) (y := y) (ext := []) hs.1.1 hx v
    simp only [List.append_nil] at c0 c3 c4
    have aV : ∀ t u, aview (H.set p (srcB code t u) ++ sqB n 1 H.length sq) (.nm H.length n 0 n) = some (n, nmsV 1 (H.length + 1) sq) := fun t u => by
      simp only [aview]; rw [gX0, c0]; simp [c2]
    have aR : ∀ t u, aview (H.set p (srcB code t u) ++ sqB n 1 H.length sq) (.nm (H.length + (x + 1)) 1 0 n) = some (n, (sq.getD x []).map I) := fun t u => by
      simp only [aview]; rw [gX, c3]; simpa using htk
    have aS : ∀ t u v, astore (H.set p (srcB code t u) ++ sqB n 1 H.length sq) [I v] (.el (.nm (H.length + (x + 1)) 1 0 n) y) = some (H.set p (srcB code t u) ++ sqB n 1 H.length (setC sq x y v)) := fun t u v => by
      rw [store_nm (by rw [gX]; exact c3) (by rw [List.length_map, hrl]; exact hy), sX, ← c4 v, List.map_set]
    repeat (first | (with_reducible first | refine SW.seq ?_ | refine SW.block ?_ | refine SW.rowC ?_ | refine SW.skip ?_ | refine SW.exit ?_ | intro _ | refine And.intro (by omega) ?_) | simp (config := { maxSteps := 1000000 }) (disch := (first | omega | (simp only [go_sem]; try omega))) only [go_sem, Nat.reduceAdd, Nat.reduceEqDiff, Nat.reduceLeDiff, Nat.reduceMul, Nat.reduceLT, reduceIte, Int.reduceToNat, w64_id, cast_succ, c0, c1, c2, c3, c4, hrl, htk, hn0, gX, gX0, sX, aV, aR])
    (first | refine SW.condD rfl (fun hq => ?_) (fun hq => ?_) | refine SW.condN rfl (fun hq => ?_) (fun hq => ?_) | refine SW.condNB rfl (fun hq => ?_) (fun hq => ?_) | refine SW.condB rfl (fun hq => ?_) (fun hq => ?_))
    · have hcan := l09Candidates_new sq x y (by have := hs.1.1; omega) (by have := hs.1.1; omega) (fun r hr => by rw [hs.1.2 r hr, hs.1.1]) (by have := hs.1.1; omega)
      rw [hs.1.1] at hcan
      have hfz : ∀ t u, Froz (H.set p (srcB code t u) ++ sqB n 1 H.length sq) 0 (.nm H.length n 0 n) (ilSS sq) := fun t u => by
        have := froz_sqB (Hb := H.set p (srcB code t u)) (v := n) (w := 1) (b := 0) (xss := sq) (ext := []) (Nat.zero_le _)
        rw [hlen, hs.1.1, List.append_nil] at this
        exact this
      have hcm : ∀ v ∈ cands sq x y n, 0 ≤ v ∧ v < n := fun v hv => cands_mem hv
      have hll := cands_len sq x y n
      generalize cands sq x y n = L at *
      repeat (first | (with_reducible first | refine SW.seq ?_ | refine SW.block ?_ | refine SW.rowC ?_ | refine SW.skip ?_ | refine SW.exit ?_ | intro _ | refine And.intro (by omega) ?_) | simp (config := { maxSteps := 1000000 }) (disch := (first | omega | (simp only [go_sem]; try omega))) only [go_sem, Nat.reduceAdd, Nat.reduceEqDiff, Nat.reduceLeDiff, Nat.reduceMul, Nat.reduceLT, reduceIte, Int.reduceToNat, w64_id, cast_succ])
      refine (hcan.lendf (.cons (hfz _ _) (.cons (.I _) (.cons (.I _) .nil)))).mono ?_
      rintro r H1 ⟨rfl, rfl⟩
      repeat (first | (with_reducible first | refine SW.seq ?_ | refine SW.block ?_ | refine SW.rowC ?_ | refine SW.skip ?_ | refine SW.exit ?_ | intro _ | refine And.intro (by omega) ?_) | simp (config := { maxSteps := 1000000 }) (disch := (first | omega | (simp only [go_sem]; try omega))) only [go_sem, Nat.reduceAdd, Nat.reduceEqDiff, Nat.reduceLeDiff, Nat.reduceMul, Nat.reduceLT, reduceIte, Int.reduceToNat, w64_id, cast_succ])
      (first | refine SW.condD rfl (fun hL => ?_) (fun hL => ?_) | refine SW.condN rfl (fun hL => ?_) (fun hL => ?_) | refine SW.condNB rfl (fun hL => ?_) (fun hL => ?_) | refine SW.condB rfl (fun hL => ?_) (fun hL => ?_))
      · refine SW.mixR (fun E' H' => ∃ (v u7 : Int) (t7 : Nat), v ∈ L ∧ t7 ≤ t6 + 2 ∧ H' = H.set p (srcB code t7 u7) ++ sqB n 1 H.length (setC sq x y v) ∧ keep [5] E' = [(5, .nm H.length n 0 n)]) ?_ ?_
        · simp (config := { maxSteps := 1000000 }) (disch := (first | omega | (simp only [go_sem]; try omega))) only [go_sem, Nat.reduceAdd, Nat.reduceEqDiff, Nat.reduceLeDiff, Nat.reduceMul, Nat.reduceLT, reduceIte, Int.reduceToNat, w64_id, cast_succ, c0, c1, c2, c3, c4, hrl, htk, hn0, gX, gX0, sX, aV, aR]
          repeat' (with_reducible refine And.intro ?_ ?_)
          all_goals
            refine (among_ok _ p code ns t6 u6 (ilS L) L (hpx _ _ _) hc (by omega) (fun _ _ => rfl) (by omega)).mono ?_
            rintro r H1 ⟨v, u7, t7, rfl, hv, ht7, rfl⟩
            rw [hset2]
          all_goals simp (config := { maxSteps := 1000000 }) (disch := (first | omega | (simp only [go_sem]; try omega))) only [go_sem, Nat.reduceAdd, Nat.reduceEqDiff, Nat.reduceLeDiff, Nat.reduceMul, Nat.reduceLT, reduceIte, Int.reduceToNat, w64_id, cast_succ, c0, c1, c2, c3, c4, hrl, htk, hn0, gX, gX0, sX, aV, aR, aS]
          all_goals exact ⟨v, u7, t7, hv, ht7, rfl⟩
        rintro E2 H2 ⟨v, u7, t7, hv, ht7, rfl, hk⟩
        have hv2 := hcm v hv
        rw [hk]
        repeat (first | (with_reducible first | refine SW.seq ?_ | refine SW.block ?_ | refine SW.rowC ?_ | refine SW.skip ?_ | refine SW.exit ?_ | intro _ | refine And.intro (by omega) ?_) | simp (config := { maxSteps := 1000000 }) (disch := (first | omega | (simp only [go_sem]; try omega))) only [go_sem, Nat.reduceAdd, Nat.reduceEqDiff, Nat.reduceLeDiff, Nat.reduceMul, Nat.reduceLT, reduceIte, Int.reduceToNat, w64_id, cast_succ])
        refine SW.ret ?_; (try simp only [go_sem]); (first | refine FunPost.one ?_ | refine FunPost.two ?_ | refine FunPost.three ?_); (try simp (config := { maxSteps := 1000000 }) (disch := (first | omega | (simp only [go_sem]; try omega))) only [go_sem, Nat.reduceAdd, Nat.reduceEqDiff, Nat.reduceLeDiff, Nat.reduceMul, Nat.reduceLT, reduceIte, Int.reduceToNat, w64_id, cast_succ])
        exact GR.of ⟨setC sq x y v, u7, t7, sqM_set hs (by omega), rfl, by omega, rfl⟩
      · repeat (first | (with_reducible first | refine SW.seq ?_ | refine SW.block ?_ | refine SW.rowC ?_ | refine SW.skip ?_ | refine SW.exit ?_ | intro _ | refine And.intro (by omega) ?_) | simp (config := { maxSteps := 1000000 }) (disch := (first | omega | (simp only [go_sem]; try omega))) only [go_sem, Nat.reduceAdd, Nat.reduceEqDiff, Nat.reduceLeDiff, Nat.reduceMul, Nat.reduceLT, reduceIte, Int.reduceToNat, w64_id, cast_succ])
        refine SW.ret ?_; (try simp only [go_sem]); (first | refine FunPost.one ?_ | refine FunPost.two ?_ | refine FunPost.three ?_); (try simp (config := { maxSteps := 1000000 }) (disch := (first | omega | (simp only [go_sem]; try omega))) only [go_sem, Nat.reduceAdd, Nat.reduceEqDiff, Nat.reduceLeDiff, Nat.reduceMul, Nat.reduceLT, reduceIte, Int.reduceToNat, w64_id, cast_succ])
        exact GR.of ⟨sq, u6, t6, hs, rfl, by omega, rfl⟩
    · repeat (first | (with_reducible first | refine SW.seq ?_ | refine SW.block ?_ | refine SW.rowC ?_ | refine SW.skip ?_ | refine SW.exit ?_ | intro _ | refine And.intro (by omega) ?_) | simp (config := { maxSteps := 1000000 }) (disch := (first | omega | (simp only [go_sem]; try omega))) only [go_sem, Nat.reduceAdd, Nat.reduceEqDiff, Nat.reduceLeDiff, Nat.reduceMul, Nat.reduceLT, reduceIte, Int.reduceToNat, w64_id, cast_succ])
      refine SW.ret ?_; (try simp only [go_sem]); (first | refine FunPost.one ?_ | refine FunPost.two ?_ | refine FunPost.three ?_); (try simp (config := { maxSteps := 1000000 }) (disch := (first | omega | (simp only [go_sem]; try omega))) only [go_sem, Nat.reduceAdd, Nat.reduceEqDiff, Nat.reduceLeDiff, Nat.reduceMul, Nat.reduceLT, reduceIte, Int.reduceToNat, w64_id, cast_succ])
      exact GR.of ⟨sq, u6, t6, hs, rfl, by omega, rfl⟩
end Go.Proofs.Ytchehdplcbffmaa
