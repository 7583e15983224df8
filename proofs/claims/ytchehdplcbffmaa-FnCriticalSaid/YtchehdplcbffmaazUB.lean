/- What the law of critical sets draws. -/
import Derived.Test.YtchehdplcbffmaaProg
import Derived.KernelRfl
import Derived.Test.YtchehdplcbffmaazUA
import Derived.Test.YtchehdplcbffmaazDB
import Derived.Test.YtchehdplcbffmaazNF
import Derived.Test.YtchehdplcbffmaazY0
import Derived.Test.YtchehdplcbffmaazG1
set_option linter.unusedSimpArgs false
set_option linter.unusedVariables false
set_option maxHeartbeats 4000000
set_option maxRecDepth 100000
namespace Go.Proofs.Ytchehdplcbffmaa
open Go.Av
abbrev f_spec_DrawIsCritical : Nat := 9
def c_spec_DrawIsCritical : SC :=
 .seq (.reg [
     ⟨(some 2), .mv (.const (.slice none 0 0)), none⟩,
     ⟨(some 3), .mv (.const (.int .i64 0)), none⟩] [0])
 (.seq (.reg [
     ⟨(some 11), .mv (.tmp 0), none⟩,
     ⟨(some 12), .call 33 [(.tmp 11)], none⟩,
     ⟨(some 4), .mv (.tmp 12), none⟩] [4])
 (.seq (.reg [
     ⟨(some 13), .mv (.tmp 4), none⟩,
     ⟨(some 14), .call 34 [(.tmp 13), (.const (.int .i64 4))], none⟩,
     ⟨(some 15), .bin .add (.tmp 14) (.const (.int .i64 1)), none⟩,
     ⟨(some 5), .mv (.tmp 15), none⟩] [4, 5])
 (.seq (.reg [
     ⟨(some 16), .mv (.tmp 4), none⟩,
     ⟨(some 17), .mv (.tmp 5), none⟩,
     ⟨(some 18), .call 35 [(.tmp 16), (.tmp 17)], none⟩,
     ⟨(some 6), .mv (.tmp 18), none⟩] [4, 5, 6])
 (.seq (.seq (.reg [
     ⟨(some 19), .mv (.tmp 4), none⟩,
     ⟨(some 20), .call 36 [(.tmp 19), (.const (.int .i64 2))], none⟩] [4, 5, 6, 20])
 (.cond (.tmp 20)
  (.seq (.reg [
      ⟨(some 21), .mv (.tmp 4), none⟩,
      ⟨(some 22), .mv (.tmp 5), none⟩,
      ⟨(some 23), .call 38 [(.tmp 21), (.tmp 22)], none⟩,
      ⟨(some 24), .call 37 [(.tmp 23)], none⟩,
      ⟨(some 6), .mv (.tmp 24), none⟩] [4, 5, 6])
  (.seq (.reg [
      ⟨(some 7), .mv (.const (.int .i64 0)), none⟩] [4, 5, 6, 7])
  (.block 0 (.loop [4, 5, 6, 7]
    (.seq (.seq (.reg [
        ⟨(some 25), .mv (.tmp 7), none⟩,
        ⟨(some 26), .mv (.tmp 5), none⟩,
        ⟨(some 27), .mv (.tmp 5), none⟩,
        ⟨(some 28), .bin .mul (.tmp 26) (.tmp 27), none⟩,
        ⟨(some 29), .bin .lss (.tmp 25) (.tmp 28), none⟩] [4, 5, 6, 7, 29])
    (.cond (.tmp 29)
     (.skip)
     (.exit 0)))
    (.seq (.block 1 (.seq (.reg [
         ⟨(some 32), .mv (.tmp 6), none⟩,
         ⟨(some 33), .call 37 [(.tmp 32)], none⟩,
         ⟨(some 8), .mv (.tmp 33), none⟩] [4, 5, 6, 7, 8])
     (.seq (.reg [
         ⟨(some 34), .mv (.tmp 8), none⟩,
         ⟨(some 35), .mv (.tmp 7), none⟩,
         ⟨(some 36), .mv (.tmp 5), none⟩,
         ⟨(some 37), .bin .quo (.tmp 35) (.tmp 36), none⟩,
         ⟨(some 38), .iaddr 1 (.tmp 34) (.tmp 37), none⟩,
         ⟨(some 39), .load 1 false (.tmp 38), none⟩,
         ⟨(some 40), .mv (.tmp 7), none⟩,
         ⟨(some 41), .mv (.tmp 5), none⟩,
         ⟨(some 42), .bin .rem (.tmp 40) (.tmp 41), none⟩,
         ⟨(some 43), .iaddr 1 (.tmp 39) (.tmp 42), none⟩,
         ⟨none, .store 1 (.tmp 43) (.const (.int .i64 (-1))), none⟩] [4, 5, 6, 7, 8])
     (.seq (.reg [
         ⟨(some 45), .mv (.tmp 8), none⟩,
         ⟨(some 46), .call 39 [(.tmp 45), (.const (.int .i64 2)), (.const (.int .i64 2000))], none⟩,
         ⟨(some 44), .mv (.tmp 46), none⟩,
         ⟨(some 47), .ext (.tmp 44) 0, none⟩,
         ⟨(some 48), .ext (.tmp 44) 1, none⟩,
         ⟨(some 9), .mv (.tmp 47), none⟩,
         ⟨(some 10), .mv (.tmp 48), none⟩] [4, 5, 6, 7, 8, 9, 10])
     (.seq (.reg [
         ⟨(some 49), .mv (.tmp 10), none⟩,
         ⟨(some 50), .bin .eql (.tmp 49) (.const (.int .i64 0)), none⟩,
         ⟨(some 51), .mv (.tmp 50), none⟩,
         ⟨(some 52), .mv (.tmp 9), (some (51, true))⟩,
         ⟨(some 53), .bin .eql (.tmp 52) (.const (.int .i64 1)), (some (51, true))⟩,
         ⟨(some 54), .pick (.tmp 51) (.tmp 53) (.const (.bool false)), none⟩] [4, 5, 6, 7, 8, 54])
     (.cond (.tmp 54)
      (.reg [
          ⟨(some 55), .mv (.tmp 8), none⟩,
          ⟨(some 6), .mv (.tmp 55), none⟩] [4, 5, 6, 7])
      (.skip)))))))
    (.reg [
        ⟨(some 30), .mv (.tmp 7), none⟩,
        ⟨(some 31), .bin .add (.tmp 30) (.const (.int .i64 1)), none⟩,
        ⟨(some 7), .mv (.tmp 31), none⟩] [4, 5, 6, 7])))))))
  (.skip)))
 (.seq (.reg [
     ⟨(some 56), .mv (.tmp 6), none⟩,
     ⟨(some 57), .mv (.tmp 4), none⟩,
     ⟨(some 58), .call 40 [(.tmp 57)], none⟩,
     ⟨(some 2), .mv (.tmp 56), none⟩,
     ⟨(some 3), .mv (.tmp 58), none⟩] [2, 3])
 (.ret))))))
theorem s_spec_DrawIsCritical : stripF Try.prog 9 [[0], [4], [4, 5], [4, 5, 6], [4, 5, 6, 20], [4, 5, 6], [4, 5, 6, 7], [4, 5, 6, 7], [4, 5, 6, 7, 29], [4, 5, 6, 7, 8], [4, 5, 6, 7, 8], [4, 5, 6, 7, 8, 9, 10], [4, 5, 6, 7, 8, 54], [4, 5, 6, 7], [4, 5, 6, 7], [2, 3]] = some (c_spec_DrawIsCritical, [.tmp 2, .tmp 3], 59) := by kernel_rfl
theorem DrawIsCritical_ok (H : List Blk) (ns : List Int) (hz : ∀ z ∈ ns, 0 ≤ z ∧ z < 256) (hl : ns.length ≤ 2000000) :
    ACalls Try.prog f_spec_DrawIsCritical [ilY ns] H (fun r H' => H' = H ∧ ∃ (xss : List (List Int)) (b : Int), 1 ≤ xss.length ∧ xss.length ≤ 10 ∧ sqM xss.length xss ∧ r = .tup [ilSS xss, I b]) := by
  have hbn := fun k => Bel_ilY k ns
  have hco := codeOk_ilY hz hl
  refine ACalls.introB s_spec_DrawIsCritical (by simp) ?_; intro hB hA; unfold c_spec_DrawIsCritical; simp (config := { maxSteps := 1000000 }) (disch := (first | omega | (simp only [go_sem]; try omega))) only [go_sem, Nat.reduceAdd, Nat.reduceEqDiff, Nat.reduceLeDiff, Nat.reduceMul, Nat.reduceLT, reduceIte, Int.reduceToNat, w64_id, cast_succ]
  repeat (first | (with_reducible first | refine SW.seq ?_ | refine SW.block ?_ | refine SW.rowC ?_ | refine SW.skip ?_ | refine SW.exit ?_ | intro _ | refine And.intro (by omega) ?_) | simp (config := { maxSteps := 1000000 }) (disch := (first | omega | (simp only [go_sem]; try omega))) only [go_sem, Nat.reduceAdd, Nat.reduceEqDiff, Nat.reduceLeDiff, Nat.reduceMul, Nat.reduceLT, reduceIte, Int.reduceToNat, w64_id, cast_succ])
  refine (l00From_ok H ns).mono ?_
  rintro r H0 ⟨rfl, rfl⟩
  obtain ⟨H1, hH1⟩ : ∃ H1, H1 = H ++ [srcB (ilY ns) 0 0] := ⟨_, rfl⟩
  rw [← hH1]
  have hL : H1.length = H.length + 1 := by rw [hH1]; simp
  have hlt : H.length < H1.length := by omega
  have hp : H1[H.length]? = some (srcB (ilY ns) 0 0) := by rw [hH1, List.getElem?_append_right (Nat.le_refl _), Nat.sub_self]; rfl
  have hsH : ∀ t u, H1.set H.length (srcB (ilY ns) t u) = H ++ [srcB (ilY ns) t u] := fun t u => by rw [hH1, List.set_append_right _ _ (Nat.le_refl _), Nat.sub_self]; rfl
  have hpx : ∀ t u (ext : List Blk), (H1.set H.length (srcB (ilY ns) t u) ++ ext)[H.length]? = some (srcB (ilY ns) t u) := fun t u ext => by
    rw [List.getElem?_append_left (by rw [List.length_set]; exact hlt)]; exact List.getElem?_set_self hlt
  have hpy : ∀ t u, (H1.set H.length (srcB (ilY ns) t u))[H.length]? = some (srcB (ilY ns) t u) := fun t u => List.getElem?_set_self hlt
  have hset2 : ∀ t u t' u' (ext : List Blk), (H1.set H.length (srcB (ilY ns) t u) ++ ext).set H.length (srcB (ilY ns) t' u') = H1.set H.length (srcB (ilY ns) t' u') ++ ext := fun t u t' u' ext => by
    rw [List.set_append_left _ _ (by rw [List.length_set]; exact hlt), List.set_set]
  have hlen : ∀ t u, (H1.set H.length (srcB (ilY ns) t u)).length = H1.length := fun t u => List.length_set
  refine SW.hb fun hB1 => ?_
  have hBG := fun t u => HB_set hB1 (p := H.length) hbn t u
  repeat (first | (with_reducible first | refine SW.seq ?_ | refine SW.block ?_ | refine SW.rowC ?_ | refine SW.skip ?_ | refine SW.exit ?_ | intro _ | refine And.intro (by omega) ?_) | simp (config := { maxSteps := 1000000 }) (disch := (first | omega | (simp only [go_sem]; try omega))) only [go_sem, Nat.reduceAdd, Nat.reduceEqDiff, Nat.reduceLeDiff, Nat.reduceMul, Nat.reduceLT, reduceIte, Int.reduceToNat, w64_id, cast_succ])
  refine (pick_ok _ H.length (ilY ns) ns 0 0 4 hp hco (by omega)).mono ?_
  rintro r H0 ⟨x1, u1, t1, rfl, a1, b1, ht1, rfl⟩
  obtain ⟨k, rfl⟩ := Int.eq_ofNat_of_zero_le a1
  have hn1 : (k : Int) + 1 = ((k + 1 : Nat) : Int) := by omega
  have hn4 : k + 1 ≤ 4 := by omega
  have hw : w64 ((k : Int) + 1) = ((k + 1 : Nat) : Int) := by rw [hn1]; exact w64_id (by omega) (by omega)
  repeat (first | (with_reducible first | refine SW.seq ?_ | refine SW.block ?_ | refine SW.rowC ?_ | refine SW.skip ?_ | refine SW.exit ?_ | intro _ | refine And.intro (by omega) ?_) | simp (config := { maxSteps := 1000000 }) (disch := (first | omega | (simp only [go_sem]; try omega))) only [go_sem, Nat.reduceAdd, Nat.reduceEqDiff, Nat.reduceLeDiff, Nat.reduceMul, Nat.reduceLT, reduceIte, Int.reduceToNat, w64_id, cast_succ, hw])
  obtain ⟨n, hn⟩ : ∃ n, n = k + 1 := ⟨_, rfl⟩
  rw [← hn]
  have n1 : 1 ≤ n := by omega
  have n4 : n ≤ 4 := by omega
  refine (l09DrawPartial_ok _ H.length (ilY ns) ns t1 u1 n (hpy _ _) hco hbn (by omega) n1 (by omega)).mono ?_
  rintro r H0 ⟨sq, u2, t2, hs, rfl, ht2, rfl⟩
  rw [List.set_set, hlen]
  clear hn hw hn1 hn4
  repeat (first | (with_reducible first | refine SW.seq ?_ | refine SW.block ?_ | refine SW.rowC ?_ | refine SW.skip ?_ | refine SW.exit ?_ | intro _ | refine And.intro (by omega) ?_) | simp (config := { maxSteps := 1000000 }) (disch := (first | omega | (simp only [go_sem]; try omega))) only [go_sem, Nat.reduceAdd, Nat.reduceEqDiff, Nat.reduceLeDiff, Nat.reduceMul, Nat.reduceLT, reduceIte, Int.reduceToNat, w64_id, cast_succ])
  refine (one_ok _ H.length (ilY ns) ns t2 u2 2 (hpx _ _ _) hco (by omega)).mono ?_
  rintro r H0 ⟨b, u3, t3, rfl, ht3, rfl⟩
  rw [hset2]
  repeat (first | (with_reducible first | refine SW.seq ?_ | refine SW.block ?_ | refine SW.rowC ?_ | refine SW.skip ?_ | refine SW.exit ?_ | intro _ | refine And.intro (by omega) ?_) | simp (config := { maxSteps := 1000000 }) (disch := (first | omega | (simp only [go_sem]; try omega))) only [go_sem, Nat.reduceAdd, Nat.reduceEqDiff, Nat.reduceLeDiff, Nat.reduceMul, Nat.reduceLT, reduceIte, Int.reduceToNat, w64_id, cast_succ])
  have hfz : ∀ t u (sq : List (List Int)), sqM n sq → Froz (H1.set H.length (srcB (ilY ns) t u) ++ sqB n 1 H1.length sq) H1.length (.nm H1.length n 0 n) (ilSS sq) := fun t u sq hs => by
    have := froz_sqB (Hb := H1.set H.length (srcB (ilY ns) t u)) (v := n) (w := 1) (b := (H1.set H.length (srcB (ilY ns) t u)).length) (xss := sq) (ext := []) (Nat.le_refl _)
    rw [List.append_nil, hlen, hs.1.1] at this
    exact this
  refine SW.froz (hBG _ _) (by rw [hlen]; omega) (.cons _ (.old _ (by rw [hlen]; simp [go_sem]; omega)) (.cons _ (ren_I _) (.cons _ (ren_of_froz (by rw [hlen]; exact hfz _ _ _ hs)) (.cons _ (ren_B _) .nil)))) ?_
  cases b
  · refine SW.condF rfl ?_
    repeat (first | (with_reducible first | refine SW.seq ?_ | refine SW.block ?_ | refine SW.rowC ?_ | refine SW.skip ?_ | refine SW.exit ?_ | intro _ | refine And.intro (by omega) ?_) | simp (config := { maxSteps := 1000000 }) (disch := (first | omega | (simp only [go_sem]; try omega))) only [go_sem, Nat.reduceAdd, Nat.reduceEqDiff, Nat.reduceLeDiff, Nat.reduceMul, Nat.reduceLT, reduceIte, Int.reduceToNat, w64_id, cast_succ])
    refine (l09DrawBudget_ok _ H.length (ilY ns) ns t3 u3 (hpy _ _) hco hbn (by omega)).mono ?_
    rintro r H0 ⟨bd, u4, t4, rfl, ht4, rfl⟩
    rw [List.set_set]
    repeat (first | (with_reducible first | refine SW.seq ?_ | refine SW.block ?_ | refine SW.rowC ?_ | refine SW.skip ?_ | refine SW.exit ?_ | intro _ | refine And.intro (by omega) ?_) | simp (config := { maxSteps := 1000000 }) (disch := (first | omega | (simp only [go_sem]; try omega))) only [go_sem, Nat.reduceAdd, Nat.reduceEqDiff, Nat.reduceLeDiff, Nat.reduceMul, Nat.reduceLT, reduceIte, Int.reduceToNat, w64_id, cast_succ])
    refine SW.ret ?_; (try simp only [go_sem]); (first | refine FunPost.one ?_ | refine FunPost.two ?_ | refine FunPost.three ?_); (try simp (config := { maxSteps := 1000000 }) (disch := (first | omega | (simp only [go_sem]; try omega))) only [go_sem, Nat.reduceAdd, Nat.reduceEqDiff, Nat.reduceLeDiff, Nat.reduceMul, Nat.reduceLT, reduceIte, Int.reduceToNat, w64_id, cast_succ])
    rw [hsH]
    exact GR.froz (froz_tup2 (froz_ilSS sq) (froz_I' _)) ⟨rfl, sq, bd, by have := hs.1.1; omega, by have := hs.1.1; omega, by rw [hs.1.1]; exact hs, rfl⟩
  · refine SW.condT rfl ?_
    clear hs
    repeat (first | (with_reducible first | refine SW.seq ?_ | refine SW.block ?_ | refine SW.rowC ?_ | refine SW.skip ?_ | refine SW.exit ?_ | intro _ | refine And.intro (by omega) ?_) | simp (config := { maxSteps := 1000000 }) (disch := (first | omega | (simp only [go_sem]; try omega))) only [go_sem, Nat.reduceAdd, Nat.reduceEqDiff, Nat.reduceLeDiff, Nat.reduceMul, Nat.reduceLT, reduceIte, Int.reduceToNat, w64_id, cast_succ])
    refine (l06DrawSquare_ok _ H.length (ilY ns) ns t3 u3 n (hpy _ _) hco hbn (by omega) n1 (by omega)).mono ?_
    rintro r H0 ⟨a, u4, t4, ha, rfl, ht4, rfl⟩
    rw [List.set_set]
    repeat (first | (with_reducible first | refine SW.seq ?_ | refine SW.block ?_ | refine SW.rowC ?_ | refine SW.skip ?_ | refine SW.exit ?_ | intro _ | refine And.intro (by omega) ?_) | simp (config := { maxSteps := 1000000 }) (disch := (first | omega | (simp only [go_sem]; try omega))) only [go_sem, Nat.reduceAdd, Nat.reduceEqDiff, Nat.reduceLeDiff, Nat.reduceMul, Nat.reduceLT, reduceIte, Int.reduceToNat, w64_id, cast_succ])
    refine (l06Own_sq _ (ilSS a) a (rd_ilSS _ _) (by have := ha.1.1; omega) (fun r hr => by have := ha.1.2 r hr; omega)).mono ?_
    rintro r H0 ⟨rfl, rfl⟩
    rw [ha.1.1, hlen]
    repeat (first | (with_reducible first | refine SW.seq ?_ | refine SW.block ?_ | refine SW.rowC ?_ | refine SW.skip ?_ | refine SW.exit ?_ | intro _ | refine And.intro (by omega) ?_) | simp (config := { maxSteps := 1000000 }) (disch := (first | omega | (simp only [go_sem]; try omega))) only [go_sem, Nat.reduceAdd, Nat.reduceEqDiff, Nat.reduceLeDiff, Nat.reduceMul, Nat.reduceLT, reduceIte, Int.reduceToNat, w64_id, cast_succ])
    refine SW.froz (hBG _ _) (by rw [hlen]; omega) (.cons _ (.old _ (by rw [hlen]; simp [go_sem]; omega)) (.cons _ (ren_I _) (.cons _ (ren_of_froz (by rw [hlen]; exact hfz _ _ _ ha.m)) (.cons _ (ren_I _) .nil)))) ?_
    have hnn : n * n ≤ 16 := Nat.mul_le_mul n4 n4
    have hn0 : (n : Int) ≠ 0 := by omega
    have hwn : w64 ((n : Int) * n) = ((n * n : Nat) : Int) := by rw [← Int.natCast_mul]; exact w64_id (by omega) (by omega)
    have hlX : ∀ (X : List Blk) k, (H1.set H.length (srcB (ilY ns) t4 u4) ++ X)[H1.length + k]? = X[k]? := fun X k => by
      rw [List.getElem?_append_right (by rw [hlen]; omega), hlen, show H1.length + k - H1.length = k by omega]
    have gX0 : ∀ (X : List Blk), (H1.set H.length (srcB (ilY ns) t4 u4) ++ X)[H1.length]? = X[0]? := fun X => hlX X 0
    have sX : ∀ (X : List Blk) k (b : Blk), (H1.set H.length (srcB (ilY ns) t4 u4) ++ X).set (H1.length + k) b = H1.set H.length (srcB (ilY ns) t4 u4) ++ X.set k b := fun X k b => by
      rw [List.set_append_right _ _ (by rw [hlen]; omega), hlen, show H1.length + k - H1.length = k by omega]
    refine SW.loopE (fun E0 H0 q E' H' => ∃ (c : Nat) (sq : List (List Int)), c ≤ n * n ∧ q = n * n - c ∧ sqM n sq ∧ E' = aput (aput E0 6 (ilSS sq)) 7 (I c) ∧ H' = H0) (n * n) ⟨0, a, by omega, by omega, ha.m, rfl, rfl⟩ ?_
    rintro q E' H' ⟨c, sq, hcn, rfl, hs, rfl, rfl⟩
    simp (config := { maxSteps := 1000000 }) (disch := (first | omega | (simp only [go_sem]; try omega))) only [go_sem, Nat.reduceAdd, Nat.reduceEqDiff, Nat.reduceLeDiff, Nat.reduceMul, Nat.reduceLT, reduceIte, Int.reduceToNat, w64_id, cast_succ]
    repeat (first | (with_reducible first | refine SW.seq ?_ | refine SW.block ?_ | refine SW.rowC ?_ | refine SW.skip ?_ | refine SW.exit ?_ | intro _ | refine And.intro (by omega) ?_) | simp (config := { maxSteps := 1000000 }) (disch := (first | omega | (simp only [go_sem]; try omega))) only [go_sem, Nat.reduceAdd, Nat.reduceEqDiff, Nat.reduceLeDiff, Nat.reduceMul, Nat.reduceLT, reduceIte, Int.reduceToNat, w64_id, cast_succ])
    (first | refine SW.condD rfl (fun h => ?_) (fun h => ?_) | refine SW.condN rfl (fun h => ?_) (fun h => ?_) | refine SW.condNB rfl (fun h => ?_) (fun h => ?_) | refine SW.condB rfl (fun h => ?_) (fun h => ?_))
    · have hclt : c < n * n := by rw [← Int.natCast_mul] at h; omega
      have hx : c / n < n := Nat.div_lt_of_lt_mul hclt
      have hy : c % n < n := Nat.mod_lt _ (by omega)
      have hd1 : (c : Int).tdiv n = ((c / n : Nat) : Int) := (Int.ofNat_tdiv c n).symm
      have hd2 : (c : Int).tmod n = ((c % n : Nat) : Int) := (Int.ofNat_tmod c n).symm
      generalize c / n = x at *
      generalize c % n = y at *
      have hw1 : w64 (x : Int) = x := w64_id (by omega) (by omega)
      have hrl : (sq.getD x []).length = n := hs.1.2 _ (by rw [getD_get (show x < sq.length by have := hs.1.1; omega)]; exact List.getElem_mem _)
      have htk : ((sq.getD x []).map I).take n = (sq.getD x []).map I := List.take_of_length_le (by rw [List.length_map, hrl]; exact Nat.le_refl _)
      have c0 := q0w (H := H1) (n := n) (w := 1) (sq := sq) (ext := [])
      have c1 := qcellw (H := H1) (w := 1) hs.1 hx
      have c2 := qtakew (H := H1) (w := 1) hs.1.1
      have c3 := qroww (H := H1) (w := 1) (ext := []) hs.1.1 hx
      have c4 := fun v => qsetw (H := H1) (w := 1) (y := y) (ext := []) hs.1.1 hx v
      simp only [List.append_nil] at c0 c3 c4
      have hs2 := sqM_set (x := x) (y := y) (v := -1) hs (by omega)
      repeat (first | (with_reducible first | refine SW.seq ?_ | refine SW.block ?_ | refine SW.rowC ?_ | refine SW.skip ?_ | refine SW.exit ?_ | intro _ | refine And.intro (by omega) ?_) | simp (config := { maxSteps := 1000000 }) (disch := (first | omega | (simp only [go_sem]; try omega))) only [go_sem, Nat.reduceAdd, Nat.reduceEqDiff, Nat.reduceLeDiff, Nat.reduceMul, Nat.reduceLT, reduceIte, Int.reduceToNat, w64_id, cast_succ])
      refine (l06Own_sq _ (ilSS sq) sq (rd_ilSS _ _) (by have := hs.1.1; omega) (fun r hr => by have := hs.1.2 r hr; omega)).mono ?_
      rintro r H0 ⟨rfl, rfl⟩
      rw [hs.1.1, hlen]
      have aV : aview (H1.set H.length (srcB (ilY ns) t4 u4) ++ sqB n 1 H1.length sq) (.nm H1.length n 0 n) = some (n, nmsV 1 (H1.length + 1) sq) := by
        simp only [aview]; rw [gX0, c0]; simp [c2]
      have aR : aview (H1.set H.length (srcB (ilY ns) t4 u4) ++ sqB n 1 H1.length sq) (.nm (H1.length + (x + 1)) 1 0 n) = some (n, (sq.getD x []).map I) := by
        simp only [aview]; rw [hlX, c3]; simpa using htk
      have aS : ∀ v, astore (H1.set H.length (srcB (ilY ns) t4 u4) ++ sqB n 1 H1.length sq) [I v] (.el (.nm (H1.length + (x + 1)) 1 0 n) y) = some (H1.set H.length (srcB (ilY ns) t4 u4) ++ sqB n 1 H1.length (setC sq x y v)) := fun v => by
        rw [store_nm (by rw [hlX]; exact c3) (by rw [List.length_map, hrl]; exact hy), sX, ← c4 v, List.map_set]
      repeat (first | (with_reducible first | refine SW.seq ?_ | refine SW.block ?_ | refine SW.rowC ?_ | refine SW.skip ?_ | refine SW.exit ?_ | intro _ | refine And.intro (by omega) ?_) | simp (config := { maxSteps := 1000000 }) (disch := (first | omega | (simp only [go_sem]; try omega))) only [go_sem, Nat.reduceAdd, Nat.reduceEqDiff, Nat.reduceLeDiff, Nat.reduceMul, Nat.reduceLT, reduceIte, Int.reduceToNat, w64_id, cast_succ, c0, c1, c2, c3, c4, hrl, htk, hn0, hd1, hd2, hw1, hlX, gX0, sX, aV, aR, aS])
      have hct := l09Count_fnG (setC sq x y (-1)) 2 2000 (by rw [hs2.1.1]; exact ⟨by omega, by omega, hs2.1.2⟩) (by rw [hs2.1.1]; exact hs2.ge) (by omega) (by omega)
      generalize (if (outS (setC sq x y (-1)).length 2 (setC sq x y (-1)) 2000).spent then (0 : Int) else ((outS (setC sq x y (-1)).length 2 (setC sq x y (-1)) 2000).count : Int)) = k1 at hct
      generalize (if (outS (setC sq x y (-1)).length 2 (setC sq x y (-1)) 2000).spent then (5 : Int) else 0) = k2 at hct
      generalize setC sq x y (-1) = sq2 at *
      have hfq : Froz (H1.set H.length (srcB (ilY ns) t4 u4) ++ sqB n 1 H1.length sq2) 0 (.nm H1.length n 0 n) (ilSS sq2) := by
        have := froz_sqB (Hb := H1.set H.length (srcB (ilY ns) t4 u4)) (v := n) (w := 1) (b := 0) (xss := sq2) (ext := []) (Nat.zero_le _)
        rw [List.append_nil, hlen, hs2.1.1] at this
        exact this
      refine (hct.lendv (.tup2 (.I _) (.I _)) (sh_II _ _ _) (.cons hfq (.cons (.I _) (.cons (.I _) .nil)))).mono ?_
      rintro r H0 ⟨rfl, rfl⟩
      by_cases hk2 : k2 = 0
      · by_cases hk1 : k1 = 1
        · repeat (first | (with_reducible first | refine SW.seq ?_ | refine SW.block ?_ | refine SW.rowC ?_ | refine SW.skip ?_ | refine SW.exit ?_ | intro _ | refine And.intro (by omega) ?_) | simp (config := { maxSteps := 1000000 }) (disch := (first | omega | (simp only [go_sem]; try omega))) only [go_sem, Nat.reduceAdd, Nat.reduceEqDiff, Nat.reduceLeDiff, Nat.reduceMul, Nat.reduceLT, reduceIte, Int.reduceToNat, w64_id, cast_succ, hk2, hk1])
          refine SW.condT rfl ?_
          repeat (first | (with_reducible first | refine SW.seq ?_ | refine SW.block ?_ | refine SW.rowC ?_ | refine SW.skip ?_ | refine SW.exit ?_ | intro _ | refine And.intro (by omega) ?_) | simp (config := { maxSteps := 1000000 }) (disch := (first | omega | (simp only [go_sem]; try omega))) only [go_sem, Nat.reduceAdd, Nat.reduceEqDiff, Nat.reduceLeDiff, Nat.reduceMul, Nat.reduceLT, reduceIte, Int.reduceToNat, w64_id, cast_succ])
          refine SLoop.nextFz (n * n - (c + 1)) [(4, .pc H.length 0 0), (5, I n), (6, ilSS sq2), (7, I ((c + 1 : Nat) : Int))] (hBG _ _) (by rw [hlen]; omega) (by omega) (.cons _ (.old _ (by rw [hlen]; simp [go_sem]; omega)) (.cons _ (ren_I _) (.cons _ (ren_of_froz (by rw [hlen]; exact hfz _ _ _ hs2)) (.cons _ (ren_I _) .nil)))) ⟨c + 1, sq2, by omega, rfl, hs2, rfl, rfl⟩
        · repeat (first | (with_reducible first | refine SW.seq ?_ | refine SW.block ?_ | refine SW.rowC ?_ | refine SW.skip ?_ | refine SW.exit ?_ | intro _ | refine And.intro (by omega) ?_) | simp (config := { maxSteps := 1000000 }) (disch := (first | omega | (simp only [go_sem]; try omega))) only [go_sem, Nat.reduceAdd, Nat.reduceEqDiff, Nat.reduceLeDiff, Nat.reduceMul, Nat.reduceLT, reduceIte, Int.reduceToNat, w64_id, cast_succ, hk2, hk1])
          refine SW.condF rfl ?_
          repeat (first | (with_reducible first | refine SW.seq ?_ | refine SW.block ?_ | refine SW.rowC ?_ | refine SW.skip ?_ | refine SW.exit ?_ | intro _ | refine And.intro (by omega) ?_) | simp (config := { maxSteps := 1000000 }) (disch := (first | omega | (simp only [go_sem]; try omega))) only [go_sem, Nat.reduceAdd, Nat.reduceEqDiff, Nat.reduceLeDiff, Nat.reduceMul, Nat.reduceLT, reduceIte, Int.reduceToNat, w64_id, cast_succ])
          refine SLoop.nextFz (n * n - (c + 1)) [(4, .pc H.length 0 0), (5, I n), (6, ilSS sq), (7, I ((c + 1 : Nat) : Int))] (hBG _ _) (by rw [hlen]; omega) (by omega) (.cons _ (.old _ (by rw [hlen]; simp [go_sem]; omega)) (.cons _ (ren_I _) (.cons _ (ren_ilSS _) (.cons _ (ren_I _) .nil)))) ⟨c + 1, sq, by omega, rfl, hs, rfl, rfl⟩
      · repeat (first | (with_reducible first | refine SW.seq ?_ | refine SW.block ?_ | refine SW.rowC ?_ | refine SW.skip ?_ | refine SW.exit ?_ | intro _ | refine And.intro (by omega) ?_) | simp (config := { maxSteps := 1000000 }) (disch := (first | omega | (simp only [go_sem]; try omega))) only [go_sem, Nat.reduceAdd, Nat.reduceEqDiff, Nat.reduceLeDiff, Nat.reduceMul, Nat.reduceLT, reduceIte, Int.reduceToNat, w64_id, cast_succ, hk2])
        refine SW.condF rfl ?_
        repeat (first | (with_reducible first | refine SW.seq ?_ | refine SW.block ?_ | refine SW.rowC ?_ | refine SW.skip ?_ | refine SW.exit ?_ | intro _ | refine And.intro (by omega) ?_) | simp (config := { maxSteps := 1000000 }) (disch := (first | omega | (simp only [go_sem]; try omega))) only [go_sem, Nat.reduceAdd, Nat.reduceEqDiff, Nat.reduceLeDiff, Nat.reduceMul, Nat.reduceLT, reduceIte, Int.reduceToNat, w64_id, cast_succ])
        refine SLoop.nextFz (n * n - (c + 1)) [(4, .pc H.length 0 0), (5, I n), (6, ilSS sq), (7, I ((c + 1 : Nat) : Int))] (hBG _ _) (by rw [hlen]; omega) (by omega) (.cons _ (.old _ (by rw [hlen]; simp [go_sem]; omega)) (.cons _ (ren_I _) (.cons _ (ren_ilSS _) (.cons _ (ren_I _) .nil)))) ⟨c + 1, sq, by omega, rfl, hs, rfl, rfl⟩
    · repeat (first | (with_reducible first | refine SW.seq ?_ | refine SW.block ?_ | refine SW.rowC ?_ | refine SW.skip ?_ | refine SW.exit ?_ | intro _ | refine And.intro (by omega) ?_) | simp (config := { maxSteps := 1000000 }) (disch := (first | omega | (simp only [go_sem]; try omega))) only [go_sem, Nat.reduceAdd, Nat.reduceEqDiff, Nat.reduceLeDiff, Nat.reduceMul, Nat.reduceLT, reduceIte, Int.reduceToNat, w64_id, cast_succ])
      refine (l09DrawBudget_ok _ H.length (ilY ns) ns t4 u4 (hpy _ _) hco hbn (by omega)).mono ?_
      rintro r H0 ⟨bd, u5, t5, rfl, ht5, rfl⟩
      rw [List.set_set]
      repeat (first | (with_reducible first | refine SW.seq ?_ | refine SW.block ?_ | refine SW.rowC ?_ | refine SW.skip ?_ | refine SW.exit ?_ | intro _ | refine And.intro (by omega) ?_) | simp (config := { maxSteps := 1000000 }) (disch := (first | omega | (simp only [go_sem]; try omega))) only [go_sem, Nat.reduceAdd, Nat.reduceEqDiff, Nat.reduceLeDiff, Nat.reduceMul, Nat.reduceLT, reduceIte, Int.reduceToNat, w64_id, cast_succ])
      refine SW.ret ?_; (try simp only [go_sem]); (first | refine FunPost.one ?_ | refine FunPost.two ?_ | refine FunPost.three ?_); (try simp (config := { maxSteps := 1000000 }) (disch := (first | omega | (simp only [go_sem]; try omega))) only [go_sem, Nat.reduceAdd, Nat.reduceEqDiff, Nat.reduceLeDiff, Nat.reduceMul, Nat.reduceLT, reduceIte, Int.reduceToNat, w64_id, cast_succ])
      rw [hsH]
      exact GR.froz (froz_tup2 (froz_ilSS sq) (froz_I' _)) ⟨rfl, sq, bd, by have := hs.1.1; omega, by have := hs.1.1; omega, by rw [hs.1.1]; exact hs, rfl⟩
end Go.Proofs.Ytchehdplcbffmaa
