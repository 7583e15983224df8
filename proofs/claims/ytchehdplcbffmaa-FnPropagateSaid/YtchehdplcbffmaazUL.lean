/- Drawn partial squares, some of them spoiled. -/
import Derived.Test.YtchehdplcbffmaaProg
import Derived.KernelRfl
import Derived.Test.YtchehdplcbffmaazUA
import Derived.Test.YtchehdplcbffmaazU1
import Derived.Test.YtchehdplcbffmaazY0
import Derived.Test.YtchehdplcbffmaazG1
set_option linter.unusedSimpArgs false
set_option linter.unusedVariables false
set_option maxHeartbeats 4000000
set_option maxRecDepth 100000
namespace Go.Proofs.Ytchehdplcbffmaa
open Go.Av
abbrev f_spec_l09Draw : Nat := 50
def c_spec_l09Draw : SC :=
 .seq (.reg [
     ⟨(some 2), .mv (.const (.slice none 0 0)), none⟩] [0])
 (.seq (.reg [
     ⟨(some 7), .mv (.tmp 0), none⟩,
     ⟨(some 8), .call 34 [(.tmp 7), (.const (.int .i64 6))], none⟩,
     ⟨(some 9), .bin .add (.tmp 8) (.const (.int .i64 1)), none⟩,
     ⟨(some 3), .mv (.tmp 9), none⟩] [0, 3])
 (.seq (.seq (.reg [
     ⟨(some 10), .mv (.tmp 0), none⟩,
     ⟨(some 11), .call 36 [(.tmp 10), (.const (.int .i64 6))], none⟩] [0, 3, 11])
 (.cond (.tmp 11)
  (.reg [
      ⟨(some 12), .mv (.tmp 0), none⟩,
      ⟨(some 13), .call 34 [(.tmp 12), (.const (.int .i64 10))], none⟩,
      ⟨(some 14), .bin .add (.tmp 13) (.const (.int .i64 1)), none⟩,
      ⟨(some 3), .mv (.tmp 14), none⟩] [0, 3])
  (.skip)))
 (.seq (.reg [
     ⟨(some 15), .mv (.tmp 0), none⟩,
     ⟨(some 16), .mv (.tmp 3), none⟩,
     ⟨(some 17), .call 35 [(.tmp 15), (.tmp 16)], none⟩,
     ⟨(some 4), .mv (.tmp 17), none⟩] [0, 3, 4])
 (.seq (.seq (.reg [
     ⟨(some 18), .mv (.tmp 0), none⟩,
     ⟨(some 19), .call 34 [(.tmp 18), (.const (.int .i64 12))], none⟩] [0, 3, 4, 19])
 (.block 0 (.seq (.reg [
      ⟨(some 21), .bin .eql (.tmp 19) (.const (.int .i64 0)), none⟩,
      ⟨(some 20), .mv (.tmp 21), none⟩] [0, 3, 4, 19, 20])
  (.cond (.tmp 20)
   (.seq (.reg [
       ⟨(some 22), .mv (.tmp 0), none⟩,
       ⟨(some 23), .mv (.tmp 3), none⟩,
       ⟨(some 24), .call 34 [(.tmp 22), (.tmp 23)], none⟩,
       ⟨(some 5), .mv (.tmp 24), none⟩] [0, 3, 4, 5])
   (.seq (.reg [
       ⟨(some 25), .mv (.tmp 0), none⟩,
       ⟨(some 26), .mv (.tmp 3), none⟩,
       ⟨(some 27), .call 34 [(.tmp 25), (.tmp 26)], none⟩,
       ⟨(some 6), .mv (.tmp 27), none⟩] [0, 3, 4, 5, 6])
   (.mix (.one ⟨(some 28), .mv (.tmp 4), none⟩
    (.one ⟨(some 29), .mv (.tmp 5), none⟩
    (.one ⟨(some 32), .mv (.tmp 6), none⟩
    (.one ⟨(some 33), .mv (.tmp 0), none⟩
    (.one ⟨(some 34), .mv (.tmp 3), none⟩
    (.one ⟨(some 35), .mv (.tmp 3), none⟩
    (.one ⟨(some 36), .bin .sub (.tmp 35) (.const (.int .i64 1)), none⟩
    (.both (.one ⟨(some 30), .iaddr 1 (.tmp 28) (.tmp 29), none⟩
     (.both (.one ⟨(some 31), .load 1 false (.tmp 30), none⟩
      (.one ⟨(some 37), .bslice 2 1 4 [(.int .i64 0), (.int .i64 0), (.int .i64 0), (.int .i64 0)] [(0, (.const (.int .i64 (-2)))), (1, (.tmp 34)), (2, (.const (.int .i64 0))), (3, (.tmp 36))], none⟩
      (.one ⟨(some 38), .call 79 [(.tmp 33), (.tmp 37)], none⟩
      (.one ⟨(some 39), .iaddr 1 (.tmp 31) (.tmp 32), none⟩
      (.one ⟨none, .store 1 (.tmp 39) (.tmp 38), none⟩
      (.done))))))
     (.one ⟨(some 37), .bslice 2 1 4 [(.int .i64 0), (.int .i64 0), (.int .i64 0), (.int .i64 0)] [(0, (.const (.int .i64 (-2)))), (1, (.tmp 34)), (2, (.const (.int .i64 0))), (3, (.tmp 36))], none⟩
      (.both (.one ⟨(some 31), .load 1 false (.tmp 30), none⟩
       (.one ⟨(some 38), .call 79 [(.tmp 33), (.tmp 37)], none⟩
       (.one ⟨(some 39), .iaddr 1 (.tmp 31) (.tmp 32), none⟩
       (.one ⟨none, .store 1 (.tmp 39) (.tmp 38), none⟩
       (.done)))))
      (.one ⟨(some 38), .call 79 [(.tmp 33), (.tmp 37)], none⟩
       (.one ⟨(some 31), .load 1 false (.tmp 30), none⟩
       (.one ⟨(some 39), .iaddr 1 (.tmp 31) (.tmp 32), none⟩
       (.one ⟨none, .store 1 (.tmp 39) (.tmp 38), none⟩
       (.done)))))))))
    (.one ⟨(some 37), .bslice 2 1 4 [(.int .i64 0), (.int .i64 0), (.int .i64 0), (.int .i64 0)] [(0, (.const (.int .i64 (-2)))), (1, (.tmp 34)), (2, (.const (.int .i64 0))), (3, (.tmp 36))], none⟩
     (.both (.one ⟨(some 30), .iaddr 1 (.tmp 28) (.tmp 29), none⟩
      (.both (.one ⟨(some 31), .load 1 false (.tmp 30), none⟩
       (.one ⟨(some 38), .call 79 [(.tmp 33), (.tmp 37)], none⟩
       (.one ⟨(some 39), .iaddr 1 (.tmp 31) (.tmp 32), none⟩
       (.one ⟨none, .store 1 (.tmp 39) (.tmp 38), none⟩
       (.done)))))
      (.one ⟨(some 38), .call 79 [(.tmp 33), (.tmp 37)], none⟩
       (.one ⟨(some 31), .load 1 false (.tmp 30), none⟩
       (.one ⟨(some 39), .iaddr 1 (.tmp 31) (.tmp 32), none⟩
       (.one ⟨none, .store 1 (.tmp 39) (.tmp 38), none⟩
       (.done)))))))
     (.one ⟨(some 38), .call 79 [(.tmp 33), (.tmp 37)], none⟩
      (.one ⟨(some 30), .iaddr 1 (.tmp 28) (.tmp 29), none⟩
      (.one ⟨(some 31), .load 1 false (.tmp 30), none⟩
      (.one ⟨(some 39), .iaddr 1 (.tmp 31) (.tmp 32), none⟩
      (.one ⟨none, .store 1 (.tmp 39) (.tmp 38), none⟩
      (.done)))))))))))))))) [4])))
   (.seq (.reg [
       ⟨(some 41), .bin .eql (.tmp 19) (.const (.int .i64 1)), none⟩,
       ⟨(some 40), .mv (.tmp 41), none⟩] [0, 3, 4, 40])
   (.cond (.tmp 40)
    (.seq (.reg [
        ⟨(some 42), .mv (.tmp 0), none⟩,
        ⟨(some 43), .call 36 [(.tmp 42), (.const (.int .i64 3))], none⟩] [3, 4, 43])
    (.cond (.tmp 43)
     (.reg [
         ⟨(some 44), .mv (.tmp 4), none⟩,
         ⟨(some 45), .mv (.tmp 4), none⟩,
         ⟨(some 46), .iaddr 1 (.tmp 45) (.const (.int .i64 0)), none⟩,
         ⟨(some 47), .load 1 false (.tmp 46), none⟩,
         ⟨(some 48), .mv (.tmp 3), none⟩,
         ⟨(some 49), .bin .sub (.tmp 48) (.const (.int .i64 1)), none⟩,
         ⟨(some 50), .slc 1 (.tmp 47) none (some (.tmp 49)), none⟩,
         ⟨(some 51), .iaddr 1 (.tmp 44) (.const (.int .i64 0)), none⟩,
         ⟨none, .store 1 (.tmp 51) (.tmp 50), none⟩] [4])
     (.skip)))
    (.skip)))))))
 (.seq (.reg [
     ⟨(some 52), .mv (.tmp 4), none⟩,
     ⟨(some 2), .mv (.tmp 52), none⟩] [2])
 (.ret))))))
theorem s_spec_l09Draw : stripF Try.prog 50 [[0], [0, 3], [0, 3, 11], [0, 3], [0, 3, 4], [0, 3, 4, 19], [0, 3, 4, 19, 20], [0, 3, 4, 5], [0, 3, 4, 5, 6], [4, 1000010], [0, 3, 4, 40], [3, 4, 43], [4], [2]] = some (c_spec_l09Draw, [.tmp 2], 53) := by kernel_rfl
def smallM (p : List (List Int)) : Prop := p.length ≤ 10 ∧ ∀ r ∈ p, r.length ≤ 10
theorem sqM.small {n : Nat} {sq : List (List Int)} (h : sqM n sq) (hn : n ≤ 10) : smallM sq := ⟨by have := h.1.1; omega, fun r hr => by have := h.1.2 r hr; omega⟩
theorem small_set {n : Nat} {sq : List (List Int)} (h : sqM n sq) (hn : n ≤ 10) (x y : Nat) (v : Int) : smallM (setC sq x y v) := by
  have := setC_ok (x := x) (y := y) (v := v) h.1
  exact ⟨by omega, fun r hr => by have := this.2 r hr; omega⟩
theorem slcNm {H : List Blk} {K : AV → Prop} {r v l n : Nat} {y : Int} {cells : List AV} (hs : (H[r]?).map Blk.sz = some 1) (h0 : 0 ≤ y) (h1 : y ≤ n) : SlcG 1 (.nm r v 0 l) 0 y H K (some (n, cells)) = K (.nm r v 0 y.toNat) := by
  simp only [SlcG, if_true]
  refine propext ⟨fun h => h.2.2.2.2, fun h => ⟨by omega, h0, h1, ?_, h⟩⟩
  intro i ver off len he
  cases he
  exact hs
theorem froz_cut {H : List Blk} {b r ver ty len : Nat} {xs : List Int} (hb : b ≤ r) (hr : H[r]? = some ⟨ver, ty, 1, xs.map I⟩) (hl : len ≤ xs.length) : Froz H b (.nm r ver 0 len) (ilS (xs.take len)) := by
  have e : ilS (xs.take len) = .il len ((xs.take len).map I) := by
    show AV.il (xs.take len).length _ = _
    rw [List.length_take, Nat.min_eq_left hl]
  rw [e]
  refine .nm r ver 0 len _ ((xs.take len).map I) hb hr rfl (by simp) ?_
  simp only [List.drop_zero, Nat.mul_one]
  intro j c c' g1 g2
  rw [List.map_take] at g2
  rw [g1] at g2; cases g2
  obtain ⟨x, _, rfl⟩ := List.mem_map.1 (List.mem_of_mem_take (List.mem_of_getElem? g1))
  exact .old _ (.lit _)
theorem froz_short {Hb : List Blk} {n : Nat} {sq : List (List Int)} (hs : sq.length = n ∧ ∀ r ∈ sq, r.length = n) (n1 : 1 ≤ n) : Froz (Hb ++ (sqB n 1 Hb.length sq).set 0 ⟨n, 33, 1, (nmsV 1 (Hb.length + 1) sq).set 0 (.nm (Hb.length + 1) 1 0 (n - 1))⟩) Hb.length (.nm Hb.length n 0 n) (ilSS (sq.set 0 ((sq.getD 0 []).take (n - 1)))) := by
  have hrl : (sq.getD 0 []).length = n := hs.2 _ (by rw [getD_get (show 0 < sq.length by omega)]; exact List.getElem_mem _)
  have hX : ∀ j, j < n → (Hb ++ (sqB n 1 Hb.length sq).set 0 ⟨n, 33, 1, (nmsV 1 (Hb.length + 1) sq).set 0 (.nm (Hb.length + 1) 1 0 (n - 1))⟩)[Hb.length + 1 + j]? = some ⟨1, 2, 1, (sq.getD j []).map I⟩ := fun j hj => by
    have g := sq_get (Hb := Hb) (v := n) (w := 1) (xss := sq) (ext := []) (x := j) (by omega)
    rw [List.append_nil] at g
    rw [List.getElem?_append_right (by omega)] at g ⊢
    rw [List.getElem?_set_ne (by omega)]
    exact g
  have h0 : (Hb ++ (sqB n 1 Hb.length sq).set 0 ⟨n, 33, 1, (nmsV 1 (Hb.length + 1) sq).set 0 (.nm (Hb.length + 1) 1 0 (n - 1))⟩)[Hb.length]? = some ⟨n, 33, 1, (nmsV 1 (Hb.length + 1) sq).set 0 (.nm (Hb.length + 1) 1 0 (n - 1))⟩ := by
    rw [List.getElem?_append_right (Nat.le_refl _), Nat.sub_self]
    exact List.getElem?_set_self (by rw [sqB_length]; omega)
  have e : ilSS (sq.set 0 ((sq.getD 0 []).take (n - 1))) = .il n ((sq.set 0 ((sq.getD 0 []).take (n - 1))).map ilS) := by
    show AV.il (sq.set 0 _).length _ = _
    rw [List.length_set, hs.1]
  rw [e]
  refine .nm Hb.length n 0 n _ _ (Nat.le_refl _) h0 rfl (by simp [nmsV_length, hs.1]) ?_
  simp only [List.drop_zero, Nat.mul_one]
  rw [List.take_of_length_le (by rw [List.length_set, nmsV_length]; omega)]
  intro j c c' g1 g2
  have hj : j < n := by
    have := (List.getElem?_eq_some_iff.1 g1).1
    rw [List.length_set, nmsV_length] at this; omega
  rw [List.getElem?_map] at g2
  cases j with
  | zero =>
    rw [List.getElem?_set_self (by rw [nmsV_length]; omega)] at g1
    rw [List.getElem?_set_self (by omega)] at g2
    cases g1; cases g2
    exact froz_cut (by omega) (hX 0 hj) (by omega)
  | succ j =>
    rw [List.getElem?_set_ne (by omega), sq_cell (by omega)] at g1
    rw [List.getElem?_set_ne (by omega), List.getElem?_eq_getElem (by omega)] at g2
    cases g1; cases g2
    have e2 : sq.getD (j + 1) [] = sq[j + 1] := getD_get (by omega)
    have := hX (j + 1) hj
    rw [e2] at this ⊢
    exact froz_rowI (by omega) this
theorem l09Draw_ok (H : List Blk) (p : Nat) (code : AV) (ns : List Int) (t : Nat) (u : Int) (hp : H[p]? = some (srcB code t u)) (hc : CodeOk code ns) (hcb : ∀ k, Bel k code) (ht : t ≤ 100000000) :
    ACalls Try.prog f_spec_l09Draw [.pc p 0 0] H (fun r H' => ∃ (sq : List (List Int)) (u' : Int) (t' : Nat), smallM sq ∧ r = ilSS sq ∧ t' ≤ t + 4000 ∧ H' = H.set p (srcB code t' u')) := by
  have hlt := (List.getElem?_eq_some_iff.1 hp).1
  refine ACalls.introB s_spec_l09Draw (by simp) ?_; intro hB hA; unfold c_spec_l09Draw; simp (config := { maxSteps := 1000000 }) (disch := (first | omega | (simp only [go_sem]; try omega))) only [go_sem, Nat.reduceAdd, Nat.reduceEqDiff, Nat.reduceLeDiff, Nat.reduceMul, Nat.reduceLT, reduceIte, Int.reduceToNat, w64_id, cast_succ]
  have hlen : ∀ t u, (H.set p (srcB code t u)).length = H.length := fun t u => List.length_set
  have hset2 : ∀ t u t' u' (ext : List Blk), (H.set p (srcB code t u) ++ ext).set p (srcB code t' u') = H.set p (srcB code t' u') ++ ext := fun t u t' u' ext => by
    rw [List.set_append_left _ _ (by rw [hlen]; exact hlt), List.set_set]
  have hpx : ∀ t u (ext : List Blk), (H.set p (srcB code t u) ++ ext)[p]? = some (srcB code t u) := fun t u ext => by
    rw [List.getElem?_append_left (by rw [hlen]; exact hlt)]; exact List.getElem?_set_self hlt
  have hpy : ∀ t u, (H.set p (srcB code t u))[p]? = some (srcB code t u) := fun t u => List.getElem?_set_self hlt
  have hBG := fun t u => HB_set hB (p := p) hcb t u
  have gX : ∀ t u (X : List Blk) k, (H.set p (srcB code t u) ++ X)[H.length + k]? = X[k]? := fun t u X k => by
    rw [List.getElem?_append_right (by rw [hlen]; omega), hlen, show H.length + k - H.length = k by omega]
  have gX0 : ∀ t u (X : List Blk), (H.set p (srcB code t u) ++ X)[H.length]? = X[0]? := fun t u X => gX t u X 0
  have sX : ∀ t u (X : List Blk) k (b : Blk), (H.set p (srcB code t u) ++ X).set (H.length + k) b = H.set p (srcB code t u) ++ X.set k b := fun t u X k b => by
    rw [List.set_append_right _ _ (by rw [hlen]; omega), hlen, show H.length + k - H.length = k by omega]
  repeat (first | (with_reducible first | refine SW.seq ?_ | refine SW.block ?_ | refine SW.rowC ?_ | refine SW.skip ?_ | refine SW.exit ?_ | intro _ | refine And.intro (by omega) ?_) | simp (config := { maxSteps := 1000000 }) (disch := (first | omega | (simp only [go_sem]; try omega))) only [go_sem, Nat.reduceAdd, Nat.reduceEqDiff, Nat.reduceLeDiff, Nat.reduceMul, Nat.reduceLT, reduceIte, Int.reduceToNat, w64_id, cast_succ])
  refine (pick_ok _ p code ns t u 6 hp hc (by omega)).mono ?_
  rintro r H1 ⟨x1, u1, t1, rfl, a1, b1, ht1, rfl⟩
  obtain ⟨x1, rfl⟩ := Int.eq_ofNat_of_zero_le a1
  simp (config := { maxSteps := 1000000 }) (disch := (first | omega | (simp only [go_sem]; try omega))) only [go_sem, Nat.reduceAdd, Nat.reduceEqDiff, Nat.reduceLeDiff, Nat.reduceMul, Nat.reduceLT, reduceIte, Int.reduceToNat, w64_id, cast_succ]
  refine SW.seqM (fun E' H' => ∃ (n t' : Nat) (u' : Int), 1 ≤ n ∧ n ≤ 10 ∧ t' ≤ t + 10 ∧ aget E' 0 = .pc p 0 0 ∧ aget E' 3 = I n ∧ H' = H.set p (srcB code t' u')) ?_ ?_
  · repeat (first | (with_reducible first | refine SW.seq ?_ | refine SW.block ?_ | refine SW.rowC ?_ | refine SW.skip ?_ | refine SW.exit ?_ | intro _ | refine And.intro (by omega) ?_) | simp (config := { maxSteps := 1000000 }) (disch := (first | omega | (simp only [go_sem]; try omega))) only [go_sem, Nat.reduceAdd, Nat.reduceEqDiff, Nat.reduceLeDiff, Nat.reduceMul, Nat.reduceLT, reduceIte, Int.reduceToNat, w64_id, cast_succ])
    refine (one_ok _ p code ns t1 u1 6 (hpy _ _) hc (by omega)).mono ?_
    rintro r H1 ⟨b, u2, t2, rfl, ht2, rfl⟩
    rw [List.set_set]
    repeat (first | (with_reducible first | refine SW.seq ?_ | refine SW.block ?_ | refine SW.rowC ?_ | refine SW.skip ?_ | refine SW.exit ?_ | intro _ | refine And.intro (by omega) ?_) | simp (config := { maxSteps := 1000000 }) (disch := (first | omega | (simp only [go_sem]; try omega))) only [go_sem, Nat.reduceAdd, Nat.reduceEqDiff, Nat.reduceLeDiff, Nat.reduceMul, Nat.reduceLT, reduceIte, Int.reduceToNat, w64_id, cast_succ])
    cases b
    · refine SW.condF rfl ?_
      repeat (first | (with_reducible first | refine SW.seq ?_ | refine SW.block ?_ | refine SW.rowC ?_ | refine SW.skip ?_ | refine SW.exit ?_ | intro _ | refine And.intro (by omega) ?_) | simp (config := { maxSteps := 1000000 }) (disch := (first | omega | (simp only [go_sem]; try omega))) only [go_sem, Nat.reduceAdd, Nat.reduceEqDiff, Nat.reduceLeDiff, Nat.reduceMul, Nat.reduceLT, reduceIte, Int.reduceToNat, w64_id, cast_succ])
      exact ⟨x1 + 1, t2, u2, by omega, by omega, by omega, rfl, rfl⟩
    · refine SW.condT rfl ?_
      repeat (first | (with_reducible first | refine SW.seq ?_ | refine SW.block ?_ | refine SW.rowC ?_ | refine SW.skip ?_ | refine SW.exit ?_ | intro _ | refine And.intro (by omega) ?_) | simp (config := { maxSteps := 1000000 }) (disch := (first | omega | (simp only [go_sem]; try omega))) only [go_sem, Nat.reduceAdd, Nat.reduceEqDiff, Nat.reduceLeDiff, Nat.reduceMul, Nat.reduceLT, reduceIte, Int.reduceToNat, w64_id, cast_succ])
      refine (pick_ok _ p code ns t2 u2 10 (hpy _ _) hc (by omega)).mono ?_
      rintro r H1 ⟨x3, u3, t3, rfl, a3, b3, ht3, rfl⟩
      rw [List.set_set]
      obtain ⟨x3, rfl⟩ := Int.eq_ofNat_of_zero_le a3
      repeat (first | (with_reducible first | refine SW.seq ?_ | refine SW.block ?_ | refine SW.rowC ?_ | refine SW.skip ?_ | refine SW.exit ?_ | intro _ | refine And.intro (by omega) ?_) | simp (config := { maxSteps := 1000000 }) (disch := (first | omega | (simp only [go_sem]; try omega))) only [go_sem, Nat.reduceAdd, Nat.reduceEqDiff, Nat.reduceLeDiff, Nat.reduceMul, Nat.reduceLT, reduceIte, Int.reduceToNat, w64_id, cast_succ])
      exact ⟨x3 + 1, t3, u3, by omega, by omega, by omega, rfl, rfl⟩
  rintro E2 H2 ⟨n, t2, u2, n1, hn, ht2, e0, e3, rfl⟩
  repeat (first | (with_reducible first | refine SW.seq ?_ | refine SW.block ?_ | refine SW.rowC ?_ | refine SW.skip ?_ | refine SW.exit ?_ | intro _ | refine And.intro (by omega) ?_) | simp (config := { maxSteps := 1000000 }) (disch := (first | omega | (simp only [go_sem]; try omega))) only [go_sem, Nat.reduceAdd, Nat.reduceEqDiff, Nat.reduceLeDiff, Nat.reduceMul, Nat.reduceLT, reduceIte, Int.reduceToNat, w64_id, cast_succ, e0, e3])
  refine (l09DrawPartial_ok _ p code ns t2 u2 n (hpy _ _) hc hcb (by omega) n1 hn).mono ?_
  rintro r H1 ⟨sq, u3, t3, hs, rfl, ht3, rfl⟩
  rw [List.set_set, hlen]
  repeat (first | (with_reducible first | refine SW.seq ?_ | refine SW.block ?_ | refine SW.rowC ?_ | refine SW.skip ?_ | refine SW.exit ?_ | intro _ | refine And.intro (by omega) ?_) | simp (config := { maxSteps := 1000000 }) (disch := (first | omega | (simp only [go_sem]; try omega))) only [go_sem, Nat.reduceAdd, Nat.reduceEqDiff, Nat.reduceLeDiff, Nat.reduceMul, Nat.reduceLT, reduceIte, Int.reduceToNat, w64_id, cast_succ, e0, e3])
  refine (pick_ok _ p code ns t3 u3 12 (hpx _ _ _) hc (by omega)).mono ?_
  rintro r H1 ⟨x4, u4, t4, rfl, a4, b4, ht4, rfl⟩
  rw [hset2]
  have hw1 : w64 ((n : Int) - 1) = (n : Int) - 1 := w64_id (by omega) (by omega)
  have fin : ∀ t' u' (X : List Blk) (xss : List (List Int)) (r : AV), Froz (H.set p (srcB code t' u') ++ X) H.length r (ilSS xss) → smallM xss → t' ≤ t + 4000 → GR H (fun r H' => ∃ sq u' t', smallM sq ∧ r = ilSS sq ∧ t' ≤ t + 4000 ∧ H' = H.set p (srcB code t' u')) r (H.set p (srcB code t' u') ++ X) := fun t' u' X xss r h1 h2 h3 =>
    GR.frozH (H0 := H) (H1 := H.set p (srcB code t' u')) (by simp) (hBG _ _) h1 ⟨xss, u', t', h2, rfl, h3, rfl⟩
  have hfz : ∀ t u (ext : List Blk) (sq : List (List Int)), sq.length = n → Froz (H.set p (srcB code t u) ++ (sqB n 1 H.length sq ++ ext)) H.length (.nm H.length n 0 n) (ilSS sq) := fun t u ext sq hl => by
    have := froz_sqB (Hb := H.set p (srcB code t u)) (v := n) (w := 1) (b := H.length) (xss := sq) (ext := ext) (by rw [hlen]; exact Nat.le_refl _)
    rw [hlen, hl] at this
    exact this
  repeat (first | (with_reducible first | refine SW.seq ?_ | refine SW.block ?_ | refine SW.rowC ?_ | refine SW.skip ?_ | refine SW.exit ?_ | intro _ | refine And.intro (by omega) ?_) | simp (config := { maxSteps := 1000000 }) (disch := (first | omega | (simp only [go_sem]; try omega))) only [go_sem, Nat.reduceAdd, Nat.reduceEqDiff, Nat.reduceLeDiff, Nat.reduceMul, Nat.reduceLT, reduceIte, Int.reduceToNat, w64_id, cast_succ, e0, e3])
  (first | refine SW.condD rfl (fun h0 => ?_) (fun h0 => ?_) | refine SW.condN rfl (fun h0 => ?_) (fun h0 => ?_) | refine SW.condNB rfl (fun h0 => ?_) (fun h0 => ?_) | refine SW.condB rfl (fun h0 => ?_) (fun h0 => ?_))
  · repeat (first | (with_reducible first | refine SW.seq ?_ | refine SW.block ?_ | refine SW.rowC ?_ | refine SW.skip ?_ | refine SW.exit ?_ | intro _ | refine And.intro (by omega) ?_) | simp (config := { maxSteps := 1000000 }) (disch := (first | omega | (simp only [go_sem]; try omega))) only [go_sem, Nat.reduceAdd, Nat.reduceEqDiff, Nat.reduceLeDiff, Nat.reduceMul, Nat.reduceLT, reduceIte, Int.reduceToNat, w64_id, cast_succ, e0, e3])
    refine (pick_ok _ p code ns t4 u4 n (hpx _ _ _) hc (by omega)).mono ?_
    rintro r H1 ⟨x, u5, t5, rfl, a5, b5, ht5, rfl⟩
    rw [hset2]
    obtain ⟨x, rfl⟩ := Int.eq_ofNat_of_zero_le a5
    have hx : x < n := by omega
    repeat (first | (with_reducible first | refine SW.seq ?_ | refine SW.block ?_ | refine SW.rowC ?_ | refine SW.skip ?_ | refine SW.exit ?_ | intro _ | refine And.intro (by omega) ?_) | simp (config := { maxSteps := 1000000 }) (disch := (first | omega | (simp only [go_sem]; try omega))) only [go_sem, Nat.reduceAdd, Nat.reduceEqDiff, Nat.reduceLeDiff, Nat.reduceMul, Nat.reduceLT, reduceIte, Int.reduceToNat, w64_id, cast_succ])
    refine (pick_ok _ p code ns t5 u5 n (hpx _ _ _) hc (by omega)).mono ?_
    rintro r H1 ⟨y, u6, t6, rfl, a6, b6, ht6, rfl⟩
    rw [hset2]
    obtain ⟨y, rfl⟩ := Int.eq_ofNat_of_zero_le a6
    have hy : y < n := by omega
    have hrl : (sq.getD x []).length = n := hs.1.2 _ (by rw [getD_get (show x < sq.length by have := hs.1.1; omega)]; exact List.getElem_mem _)
    have htk : ((sq.getD x []).map I).take n = (sq.getD x []).map I := List.take_of_length_le (by rw [List.length_map, hrl]; exact Nat.le_refl _)
    have c0 := fun ext => q0w (H := H) (n := n) (w := 1) (sq := sq) (ext := ext)
    have c1 := qcellw (H := H) (w := 1) hs.1 hx
    have c2 := qtakew (H := H) (w := 1) hs.1.1
    have c3 := fun ext => qroww (H := H) (w := 1) (ext := ext) hs.1.1 hx
    have c4 := fun ext v => qsetw (H := H) (w := 1) (y := y) (ext := ext) hs.1.1 hx v
    have aV : ∀ t u ext, aview (H.set p (srcB code t u) ++ (sqB n 1 H.length sq ++ ext)) (.nm H.length n 0 n) = some (n, nmsV 1 (H.length + 1) sq) := fun t u ext => by
      simp only [aview]; rw [gX0, c0]; simp [c2]
    have aR : ∀ t u ext, aview (H.set p (srcB code t u) ++ (sqB n 1 H.length sq ++ ext)) (.nm (H.length + (x + 1)) 1 0 n) = some (n, (sq.getD x []).map I) := fun t u ext => by
      simp only [aview]; rw [gX, c3]; simpa using htk
    have aS : ∀ t u ext v, astore (H.set p (srcB code t u) ++ (sqB n 1 H.length sq ++ ext)) [I v] (.el (.nm (H.length + (x + 1)) 1 0 n) y) = some (H.set p (srcB code t u) ++ (sqB n 1 H.length (setC sq x y v) ++ ext)) := fun t u ext v => by
      rw [store_nm (by rw [gX]; exact c3 _) (by rw [List.length_map, hrl]; exact hy), sX, ← c4 ext v, List.map_set]
    have aV0 := fun t u => aV t u []
    simp only [List.append_nil] at aV0
    repeat (first | (with_reducible first | refine SW.seq ?_ | refine SW.block ?_ | refine SW.rowC ?_ | refine SW.skip ?_ | refine SW.exit ?_ | intro _ | refine And.intro (by omega) ?_) | simp (config := { maxSteps := 1000000 }) (disch := (first | omega | (simp only [go_sem]; try omega))) only [go_sem, Nat.reduceAdd, Nat.reduceEqDiff, Nat.reduceLeDiff, Nat.reduceMul, Nat.reduceLT, reduceIte, Int.reduceToNat, w64_id, cast_succ])
    have hw2 : w64 ((n : Int) - 1) = (n : Int) - 1 := w64_id (by omega) (by omega)
    have hsl : (sqB n 1 H.length sq).length = n + 1 := by rw [sqB_length, hs.1.1]
    have gL : ∀ t u (X : List Blk), (H.set p (srcB code t u) ++ X).length = H.length + X.length := fun t u X => by rw [List.length_append, hlen]
    refine SW.mixR (fun E' H' => ∃ (v u7 : Int) (t7 : Nat) (ext : List Blk), t7 ≤ t6 + 2 ∧ H' = H.set p (srcB code t7 u7) ++ (sqB n 1 H.length (setC sq x y v) ++ ext) ∧ keep [4] E' = [(4, .nm H.length n 0 n)]) ?_ ?_
    · simp (config := { maxSteps := 1000000 }) (disch := (first | omega | (simp only [go_sem]; try omega))) only [go_sem, Nat.reduceAdd, Nat.reduceEqDiff, Nat.reduceLeDiff, Nat.reduceMul, Nat.reduceLT, reduceIte, Int.reduceToNat, w64_id, cast_succ, c0, c1, c2, c3, hrl, htk, gX, gX0, aV, aV0, aR, hw1]
      repeat' (with_reducible refine And.intro ?_ ?_)
      all_goals
        refine (among_new H p code ns t6 u6 [-2, (n : Int), 0, (n : Int) - 1] hlt hc (by omega) (by simp) (sqB n 1 H.length sq)).mono ?_
        rintro r H1 ⟨v, u7, t7, rfl, hv, ht7, rfl⟩
      all_goals simp (config := { maxSteps := 1000000 }) (disch := (first | omega | (simp only [go_sem]; try omega))) only [go_sem, Nat.reduceAdd, Nat.reduceEqDiff, Nat.reduceLeDiff, Nat.reduceMul, Nat.reduceLT, reduceIte, Int.reduceToNat, w64_id, cast_succ, c0, c1, c2, c3, hrl, htk, gX, gX0, aV, aR, aS, hw1]
      all_goals exact ⟨v, u7, t7, _, ht7, rfl⟩
    rintro E2 H2 ⟨v, u7, t7, ext, ht7, rfl, hk⟩
    rw [hk]
    repeat (first | (with_reducible first | refine SW.seq ?_ | refine SW.block ?_ | refine SW.rowC ?_ | refine SW.skip ?_ | refine SW.exit ?_ | intro _ | refine And.intro (by omega) ?_) | simp (config := { maxSteps := 1000000 }) (disch := (first | omega | (simp only [go_sem]; try omega))) only [go_sem, Nat.reduceAdd, Nat.reduceEqDiff, Nat.reduceLeDiff, Nat.reduceMul, Nat.reduceLT, reduceIte, Int.reduceToNat, w64_id, cast_succ])
    refine SW.ret ?_; (try simp only [go_sem]); (first | refine FunPost.one ?_ | refine FunPost.two ?_ | refine FunPost.three ?_); (try simp (config := { maxSteps := 1000000 }) (disch := (first | omega | (simp only [go_sem]; try omega))) only [go_sem, Nat.reduceAdd, Nat.reduceEqDiff, Nat.reduceLeDiff, Nat.reduceMul, Nat.reduceLT, reduceIte, Int.reduceToNat, w64_id, cast_succ])
    exact fin _ _ _ _ _ (hfz _ _ _ _ (setC_ok hs.1).1) (small_set hs hn _ _ _) (by omega)
  · repeat (first | (with_reducible first | refine SW.seq ?_ | refine SW.block ?_ | refine SW.rowC ?_ | refine SW.skip ?_ | refine SW.exit ?_ | intro _ | refine And.intro (by omega) ?_) | simp (config := { maxSteps := 1000000 }) (disch := (first | omega | (simp only [go_sem]; try omega))) only [go_sem, Nat.reduceAdd, Nat.reduceEqDiff, Nat.reduceLeDiff, Nat.reduceMul, Nat.reduceLT, reduceIte, Int.reduceToNat, w64_id, cast_succ, e0, e3])
    (first | refine SW.condD rfl (fun h1 => ?_) (fun h1 => ?_) | refine SW.condN rfl (fun h1 => ?_) (fun h1 => ?_) | refine SW.condNB rfl (fun h1 => ?_) (fun h1 => ?_) | refine SW.condB rfl (fun h1 => ?_) (fun h1 => ?_))
    · repeat (first | (with_reducible first | refine SW.seq ?_ | refine SW.block ?_ | refine SW.rowC ?_ | refine SW.skip ?_ | refine SW.exit ?_ | intro _ | refine And.intro (by omega) ?_) | simp (config := { maxSteps := 1000000 }) (disch := (first | omega | (simp only [go_sem]; try omega))) only [go_sem, Nat.reduceAdd, Nat.reduceEqDiff, Nat.reduceLeDiff, Nat.reduceMul, Nat.reduceLT, reduceIte, Int.reduceToNat, w64_id, cast_succ, e0, e3])
      refine (one_ok _ p code ns t4 u4 3 (hpx _ _ _) hc (by omega)).mono ?_
      rintro r H1 ⟨b, u5, t5, rfl, ht5, rfl⟩
      rw [hset2]
      repeat (first | (with_reducible first | refine SW.seq ?_ | refine SW.block ?_ | refine SW.rowC ?_ | refine SW.skip ?_ | refine SW.exit ?_ | intro _ | refine And.intro (by omega) ?_) | simp (config := { maxSteps := 1000000 }) (disch := (first | omega | (simp only [go_sem]; try omega))) only [go_sem, Nat.reduceAdd, Nat.reduceEqDiff, Nat.reduceLeDiff, Nat.reduceMul, Nat.reduceLT, reduceIte, Int.reduceToNat, w64_id, cast_succ])
      cases b
      · refine SW.condF rfl ?_
        repeat (first | (with_reducible first | refine SW.seq ?_ | refine SW.block ?_ | refine SW.rowC ?_ | refine SW.skip ?_ | refine SW.exit ?_ | intro _ | refine And.intro (by omega) ?_) | simp (config := { maxSteps := 1000000 }) (disch := (first | omega | (simp only [go_sem]; try omega))) only [go_sem, Nat.reduceAdd, Nat.reduceEqDiff, Nat.reduceLeDiff, Nat.reduceMul, Nat.reduceLT, reduceIte, Int.reduceToNat, w64_id, cast_succ])
        refine SW.ret ?_; (try simp only [go_sem]); (first | refine FunPost.one ?_ | refine FunPost.two ?_ | refine FunPost.three ?_); (try simp (config := { maxSteps := 1000000 }) (disch := (first | omega | (simp only [go_sem]; try omega))) only [go_sem, Nat.reduceAdd, Nat.reduceEqDiff, Nat.reduceLeDiff, Nat.reduceMul, Nat.reduceLT, reduceIte, Int.reduceToNat, w64_id, cast_succ])
        have := hfz t5 u5 [] sq hs.1.1
        rw [List.append_nil] at this
        exact fin _ _ _ _ _ this (hs.small hn) (by omega)
      · refine SW.condT rfl ?_
        repeat (first | (with_reducible first | refine SW.seq ?_ | refine SW.block ?_ | refine SW.rowC ?_ | refine SW.skip ?_ | refine SW.exit ?_ | intro _ | refine And.intro (by omega) ?_) | simp (config := { maxSteps := 1000000 }) (disch := (first | omega | (simp only [go_sem]; try omega))) only [go_sem, Nat.reduceAdd, Nat.reduceEqDiff, Nat.reduceLeDiff, Nat.reduceMul, Nat.reduceLT, reduceIte, Int.reduceToNat, w64_id, cast_succ])
        have hx : 0 < n := by omega
        have hrl : (sq.getD 0 []).length = n := hs.1.2 _ (by rw [getD_get (show 0 < sq.length by have := hs.1.1; omega)]; exact List.getElem_mem _)
        have htk : ((sq.getD 0 []).map I).take n = (sq.getD 0 []).map I := List.take_of_length_le (by rw [List.length_map, hrl]; exact Nat.le_refl _)
        have c0 := fun ext => q0w (H := H) (n := n) (w := 1) (sq := sq) (ext := ext)
        have c1 := qcellw (H := H) (w := 1) hs.1 hx
        have c2 := qtakew (H := H) (w := 1) hs.1.1
        have c3 := fun ext => qroww (H := H) (w := 1) (ext := ext) hs.1.1 hx
        have aV : ∀ t u ext, aview (H.set p (srcB code t u) ++ (sqB n 1 H.length sq ++ ext)) (.nm H.length n 0 n) = some (n, nmsV 1 (H.length + 1) sq) := fun t u ext => by
          simp only [aview]; rw [gX0, c0]; simp [c2]
        have aR : ∀ t u ext, aview (H.set p (srcB code t u) ++ (sqB n 1 H.length sq ++ ext)) (.nm (H.length + (0 + 1)) 1 0 n) = some (n, (sq.getD 0 []).map I) := fun t u ext => by
          simp only [aview]; rw [gX, c3]; simpa using htk
        have aV0 := fun t u => aV t u []
        have aR0 := fun t u => aR t u []
        simp only [List.append_nil] at aV0 aR0
        have hR1 := gX t5 u5 (sqB n 1 H.length sq) 1
        have c30 := c3 []
        rw [List.append_nil] at c30
        rw [c30] at hR1
        have hsz : ((H.set p (srcB code t5 u5) ++ sqB n 1 H.length sq)[H.length + 1]?).map Blk.sz = some 1 := by rw [hR1]; rfl
        have hsl := fun K => slcNm (K := K) (v := 1) (l := n) (n := n) (y := (n : Int) - 1) (cells := (sq.getD 0 []).map I) hsz (by omega) (by omega)
        have aS : ∀ c, astore (H.set p (srcB code t5 u5) ++ sqB n 1 H.length sq) [c] (.el (.nm H.length n 0 n) 0) = some (H.set p (srcB code t5 u5) ++ (sqB n 1 H.length sq).set 0 ⟨n, 33, 1, (nmsV 1 (H.length + 1) sq).set 0 c⟩) := fun c => by
          have c00 := c0 []
          rw [List.append_nil] at c00
          rw [store_nm (by rw [gX0]; exact c00) (by rw [nmsV_length, hs.1.1]; exact hx)]
          exact congrArg some (sX t5 u5 _ 0 _)
        repeat (first | (with_reducible first | refine SW.seq ?_ | refine SW.block ?_ | refine SW.rowC ?_ | refine SW.skip ?_ | refine SW.exit ?_ | intro _ | refine And.intro (by omega) ?_) | simp (config := { maxSteps := 1000000 }) (disch := (first | omega | (simp only [go_sem]; try omega))) only [go_sem, Nat.reduceAdd, Nat.reduceEqDiff, Nat.reduceLeDiff, Nat.reduceMul, Nat.reduceLT, reduceIte, Int.reduceToNat, w64_id, cast_succ, c1, hrl, aV0, aR0, hw1, hR1, hsl, aS, Option.map_some, Option.map_none])
        refine SW.ret ?_; (try simp only [go_sem]); (first | refine FunPost.one ?_ | refine FunPost.two ?_ | refine FunPost.three ?_); (try simp (config := { maxSteps := 1000000 }) (disch := (first | omega | (simp only [go_sem]; try omega))) only [go_sem, Nat.reduceAdd, Nat.reduceEqDiff, Nat.reduceLeDiff, Nat.reduceMul, Nat.reduceLT, reduceIte, Int.reduceToNat, w64_id, cast_succ])
        have hfs := froz_short (Hb := H.set p (srcB code t5 u5)) hs.1 n1
        rw [hlen] at hfs
        rw [show ((n : Int) - 1).toNat = n - 1 by omega]
        refine fin _ _ _ _ _ hfs ⟨by rw [List.length_set]; have := hs.1.1; omega, fun r hr => ?_⟩ (by omega)
        rcases List.mem_or_eq_of_mem_set hr with h | h
        · have := hs.1.2 r h; omega
        · rw [h, List.length_take]; omega
    · repeat (first | (with_reducible first | refine SW.seq ?_ | refine SW.block ?_ | refine SW.rowC ?_ | refine SW.skip ?_ | refine SW.exit ?_ | intro _ | refine And.intro (by omega) ?_) | simp (config := { maxSteps := 1000000 }) (disch := (first | omega | (simp only [go_sem]; try omega))) only [go_sem, Nat.reduceAdd, Nat.reduceEqDiff, Nat.reduceLeDiff, Nat.reduceMul, Nat.reduceLT, reduceIte, Int.reduceToNat, w64_id, cast_succ, e0, e3])
      refine SW.ret ?_; (try simp only [go_sem]); (first | refine FunPost.one ?_ | refine FunPost.two ?_ | refine FunPost.three ?_); (try simp (config := { maxSteps := 1000000 }) (disch := (first | omega | (simp only [go_sem]; try omega))) only [go_sem, Nat.reduceAdd, Nat.reduceEqDiff, Nat.reduceLeDiff, Nat.reduceMul, Nat.reduceLT, reduceIte, Int.reduceToNat, w64_id, cast_succ])
      have := hfz t4 u4 [] sq hs.1.1
      rw [List.append_nil] at this
      exact fin _ _ _ _ _ this (hs.small hn) (by omega)
end Go.Proofs.Ytchehdplcbffmaa
