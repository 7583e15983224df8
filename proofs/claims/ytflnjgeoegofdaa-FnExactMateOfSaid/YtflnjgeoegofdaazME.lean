/- Mates: the reference's search. -/
import Derived.Test.YtflnjgeoegofdaaProg
import Derived.KernelRfl
import Derived.Test.YtflnjgeoegofdaazMC
set_option linter.unusedSimpArgs false
set_option linter.unusedVariables false
set_option maxHeartbeats 4000000
set_option maxRecDepth 100000
namespace Go.Proofs.Ytflnjgeoegofdaa
open Go.Av
abbrev f_spec_l07Mate_free : Nat := 29
def c_spec_l07Mate_free : SC :=
 .seq (.reg [
     ⟨(some 8), .mv (.const (.bool false)), none⟩] [0, 1, 2, 3])
 (.seq (.seq (.reg [
     ⟨(some 9), .mv (.const (.int .i64 0)), none⟩] [0, 1, 2, 3, 9])
 (.block 0 (.loop [0, 1, 2, 3, 9]
   (.seq (.seq (.reg [
       ⟨(some 11), .mv (.tmp 9), none⟩,
       ⟨(some 12), .mv (.tmp 2), none⟩,
       ⟨(some 13), .bin .lss (.tmp 11) (.tmp 12), none⟩] [0, 1, 2, 3, 9, 13])
   (.cond (.tmp 13)
    (.skip)
    (.exit 0)))
   (.seq (.block 1 (.seq (.reg [
        ⟨(some 10), .mv (.const (.int .i64 0)), none⟩] [0, 1, 2, 3, 9, 10])
    (.block 2 (.loop [0, 1, 2, 3, 9, 10]
      (.seq (.seq (.reg [
          ⟨(some 16), .mv (.tmp 10), none⟩,
          ⟨(some 17), .mv (.tmp 0), none⟩,
          ⟨(some 18), .nilc (.tmp 17), none⟩,
          ⟨(some 19), .faddr 0 (.tmp 18), none⟩,
          ⟨(some 20), .load 1 false (.tmp 19), none⟩,
          ⟨(some 21), .len (.tmp 20), none⟩,
          ⟨(some 22), .bin .lss (.tmp 16) (.tmp 21), none⟩] [0, 1, 2, 3, 9, 10, 22])
      (.cond (.tmp 22)
       (.skip)
       (.exit 2)))
      (.seq (.block 3 (.seq (.reg [
           ⟨(some 25), .mv (.tmp 0), none⟩,
           ⟨(some 26), .nilc (.tmp 25), none⟩,
           ⟨(some 27), .faddr 1 (.tmp 26), none⟩,
           ⟨(some 28), .load 1 false (.tmp 27), none⟩,
           ⟨(some 29), .mv (.tmp 9), none⟩,
           ⟨(some 30), .iaddr 1 (.tmp 28) (.tmp 29), none⟩,
           ⟨(some 31), .load 1 false (.tmp 30), none⟩,
           ⟨(some 32), .mv (.tmp 10), none⟩,
           ⟨(some 33), .iaddr 1 (.tmp 31) (.tmp 32), none⟩,
           ⟨(some 34), .load 1 false (.tmp 33), none⟩,
           ⟨(some 35), .mv (.tmp 1), none⟩,
           ⟨(some 36), .bin .eql (.tmp 34) (.tmp 35), none⟩,
           ⟨(some 37), .mv (.tmp 36), none⟩,
           ⟨(some 38), .mv (.tmp 10), (some (37, true))⟩,
           ⟨(some 39), .mv (.tmp 3), (some (37, true))⟩,
           ⟨(some 40), .bin .eql (.tmp 38) (.tmp 39), (some (37, true))⟩,
           ⟨(some 41), .mv (.tmp 40), (some (37, true))⟩,
           ⟨(some 42), .mv (.tmp 0), (some (41, false))⟩,
           ⟨(some 43), .nilc (.tmp 42), (some (41, false))⟩,
           ⟨(some 44), .faddr 0 (.tmp 43), (some (41, false))⟩,
           ⟨(some 45), .load 1 false (.tmp 44), (some (41, false))⟩,
           ⟨(some 46), .mv (.tmp 9), (some (41, false))⟩,
           ⟨(some 47), .iaddr 1 (.tmp 45) (.tmp 46), (some (41, false))⟩,
           ⟨(some 48), .load 1 false (.tmp 47), (some (41, false))⟩,
           ⟨(some 49), .mv (.tmp 10), (some (41, false))⟩,
           ⟨(some 50), .iaddr 1 (.tmp 48) (.tmp 49), (some (41, false))⟩,
           ⟨(some 51), .load 1 false (.tmp 50), (some (41, false))⟩,
           ⟨(some 52), .mv (.tmp 0), (some (41, false))⟩,
           ⟨(some 53), .nilc (.tmp 52), (some (41, false))⟩,
           ⟨(some 54), .faddr 0 (.tmp 53), (some (41, false))⟩,
           ⟨(some 55), .load 1 false (.tmp 54), (some (41, false))⟩,
           ⟨(some 56), .mv (.tmp 2), (some (41, false))⟩,
           ⟨(some 57), .iaddr 1 (.tmp 55) (.tmp 56), (some (41, false))⟩,
           ⟨(some 58), .load 1 false (.tmp 57), (some (41, false))⟩,
           ⟨(some 59), .mv (.tmp 3), (some (41, false))⟩,
           ⟨(some 60), .iaddr 1 (.tmp 58) (.tmp 59), (some (41, false))⟩,
           ⟨(some 61), .load 1 false (.tmp 60), (some (41, false))⟩,
           ⟨(some 62), .bin .eql (.tmp 51) (.tmp 61), (some (41, false))⟩,
           ⟨(some 63), .pick (.tmp 41) (.const (.bool true)) (.tmp 62), (some (37, true))⟩,
           ⟨(some 64), .pick (.tmp 37) (.tmp 63) (.const (.bool false)), none⟩] [0, 1, 2, 3, 9, 10, 64])
       (.cond (.tmp 64)
        (.seq (.reg [
            ⟨(some 8), .mv (.const (.bool false)), none⟩] [8])
        (.ret))
        (.skip))))
      (.reg [
          ⟨(some 23), .mv (.tmp 10), none⟩,
          ⟨(some 24), .bin .add (.tmp 23) (.const (.int .i64 1)), none⟩,
          ⟨(some 10), .mv (.tmp 24), none⟩] [0, 1, 2, 3, 9, 10])))))))
   (.reg [
       ⟨(some 14), .mv (.tmp 9), none⟩,
       ⟨(some 15), .bin .add (.tmp 14) (.const (.int .i64 1)), none⟩,
       ⟨(some 9), .mv (.tmp 15), none⟩] [0, 1, 2, 3, 9]))))))
 (.seq (.reg [
     ⟨(some 8), .mv (.const (.bool true)), none⟩] [8])
 (.ret)))
theorem s_spec_l07Mate_free : stripF Try.prog 29 [[0, 1, 2, 3], [0, 1, 2, 3, 9], [0, 1, 2, 3, 9], [0, 1, 2, 3, 9, 13], [0, 1, 2, 3, 9, 10], [0, 1, 2, 3, 9, 10], [0, 1, 2, 3, 9, 10, 22], [0, 1, 2, 3, 9, 10, 64], [8], [0, 1, 2, 3, 9, 10], [0, 1, 2, 3, 9], [8]] = some (c_spec_l07Mate_free, [.tmp 8], 65) := by kernel_rfl
abbrev tyL7 : Nat := 36
def hpL (H : List Blk) (n bud : Nat) (a sq : List (List Int)) (left : Nat) (fl : Bool) : List Blk :=
  H ++ (sqB n 0 H.length sq ++ [⟨0, tyL7, 1, [ilSS a, .nm H.length n 0 n, I ((bud - left : Nat) : Int), I bud, Bv fl]⟩])
def maskM (b : List (List Int)) (n k : Nat) : List (List Int) := b.set 0 ((List.range n).map fun j => if j ≤ k then (j : Int) else -1)
section
variable {b : List (List Int)} {n k : Nat}
theorem maskM_ok (hb : b.length = n ∧ ∀ r ∈ b, r.length = n) : (maskM b n k).length = n ∧ ∀ r ∈ maskM b n k, r.length = n := by
  refine ⟨by simp [maskM, hb.1], fun r hr => ?_⟩
  rcases List.mem_or_eq_of_mem_set hr with hr | rfl
  · exact hb.2 r hr
  · simp
theorem maskM_get (hb : b.length = n ∧ ∀ r ∈ b, r.length = n) (h1 : 1 ≤ n) (i j : Nat) (hj : j < n) : cellAt (maskM b n k) i j = if i = 0 then (if j ≤ k then (j : Int) else -1) else cellAt b i j := by
  unfold cellAt maskM
  by_cases hi : i = 0
  · subst hi
    rw [if_pos rfl]
    have e : (b.set 0 ((List.range n).map fun j => if j ≤ k then (j : Int) else -1)).getD 0 [] = (List.range n).map fun j => if j ≤ k then (j : Int) else -1 := by
      rw [List.getD_eq_getElem?_getD, List.getElem?_set_self (by omega)]; rfl
    rw [e, getD_get (by simpa using hj)]
    simp
  · rw [if_neg hi]
    have e : (b.set 0 ((List.range n).map fun j => if j ≤ k then (j : Int) else -1)).getD i [] = b.getD i [] := by
      simp only [List.getD_eq_getElem?_getD]
      rw [List.getElem?_set_ne (Ne.symm hi)]
    rw [e]
theorem sq_ext {s t : List (List Int)} (hs : s.length = n ∧ ∀ r ∈ s, r.length = n) (ht : t.length = n ∧ ∀ r ∈ t, r.length = n) (h : ∀ i j, i < n → j < n → cellAt s i j = cellAt t i j) : s = t := by
  refine List.ext_getElem (by omega) fun i h1 h2 => ?_
  have l1 : s[i].length = n := hs.2 _ (List.getElem_mem _)
  have l2 : t[i].length = n := ht.2 _ (List.getElem_mem _)
  refine List.ext_getElem (by omega) fun j g1 g2 => ?_
  have := h i j (by omega) (by omega)
  unfold cellAt at this
  rw [getD_get h1, getD_get h2, getD_get g1, getD_get g2] at this
  exact this
theorem maskM_set (hb : b.length = n ∧ ∀ r ∈ b, r.length = n) {x y : Nat} (hx1 : 1 ≤ x) (hx : x < n) (hy : y < n) (v : Int) : setC (maskM b n k) x y v = maskM (setC b x y v) n k := by
  refine sq_ext (setC_ok (maskM_ok hb)) (maskM_ok (setC_ok hb)) fun i j hi hj => ?_
  rw [cellAt_setC (maskM_ok hb) hx hy, maskM_get (setC_ok hb) (by omega) i j hj, maskM_get hb (by omega) i j hj, cellAt_setC hb hx hy]
  by_cases h : i = x ∧ j = y
  · rw [if_pos h, if_neg (by omega), if_pos h]
  · rw [if_neg h, if_neg h]
theorem maskM_next (hb : b.length = n ∧ ∀ r ∈ b, r.length = n) (hk : k + 1 < n) : setC (maskM b n k) 0 (k + 1) ((k + 1 : Nat) : Int) = maskM b n (k + 1) := by
  refine sq_ext (setC_ok (maskM_ok hb)) (maskM_ok hb) fun i j hi hj => ?_
  rw [cellAt_setC (maskM_ok hb) (by omega) hk, maskM_get hb (by omega) i j hj, maskM_get hb (by omega) i j hj]
  by_cases h0 : i = 0
  · rw [if_pos h0, if_pos h0]
    by_cases hj2 : j = k + 1
    · rw [if_pos ⟨h0, hj2⟩, if_pos (by omega), hj2]
    · rw [if_neg (by omega)]
      by_cases hjk : j ≤ k
      · rw [if_pos hjk, if_pos (by omega)]
      · rw [if_neg hjk, if_neg (by omega)]
  · rw [if_neg h0, if_neg h0, if_neg (by omega)]
theorem maskM_back (hb : b.length = n ∧ ∀ r ∈ b, r.length = n) (hk : k + 1 < n) : setC (maskM b n (k + 1)) 0 (k + 1) (-1) = maskM b n k := by
  refine sq_ext (setC_ok (maskM_ok hb)) (maskM_ok hb) fun i j hi hj => ?_
  rw [cellAt_setC (maskM_ok hb) (by omega) hk, maskM_get hb (by omega) i j hj, maskM_get hb (by omega) i j hj]
  by_cases h0 : i = 0
  · rw [if_pos h0, if_pos h0]
    by_cases hj2 : j = k + 1
    · rw [if_pos ⟨h0, hj2⟩, if_neg (by omega)]
    · rw [if_neg (by omega)]
      by_cases hjk : j ≤ k
      · rw [if_pos hjk, if_pos (by omega)]
      · rw [if_neg hjk, if_neg (by omega)]
  · rw [if_neg h0, if_neg h0, if_neg (by omega)]
theorem maskM_full (hb : b.length = n ∧ ∀ r ∈ b, r.length = n) (h1 : 1 ≤ n) (ht : ∀ j, j < n → cellAt b 0 j = (j : Int)) : maskM b n (n - 1) = b := by
  refine sq_ext (maskM_ok hb) hb fun i j hi hj => ?_
  rw [maskM_get hb h1 i j hj]
  by_cases h0 : i = 0
  · rw [if_pos h0, if_pos (by omega), h0, ht j hj]
  · rw [if_neg h0]
theorem maskM_first (h1 : 1 ≤ n) : setC (List.replicate n (List.replicate n (-1))) 0 0 0 = maskM (topM n n) n 0 := by
  have hz : (List.replicate n (List.replicate n (-1 : Int))).length = n ∧ ∀ r ∈ List.replicate n (List.replicate n (-1 : Int)), r.length = n := topM_ok 0
  refine sq_ext (setC_ok hz) (maskM_ok (topM_ok n)) fun i j hi hj => ?_
  rw [cellAt_setC hz (by omega) (by omega), maskM_get (topM_ok n) h1 i j hj]
  have e0 : cellAt (List.replicate n (List.replicate n (-1 : Int))) i j = -1 := by
    have := topM_get h1 0 (by omega) i j hi hj
    rw [if_neg (by omega)] at this
    exact this
  rw [e0]
  by_cases h0 : i = 0
  · rw [if_pos h0]
    by_cases hj0 : j = 0
    · rw [if_pos ⟨h0, hj0⟩, if_pos (by omega), hj0]; rfl
    · rw [if_neg (by omega), if_neg (by omega)]
  · rw [if_neg (by omega), if_neg h0, topM_get h1 n (Nat.le_refl _) i j hi hj, if_neg (by omega)]
end
def freeX (a sq : List (List Int)) (n k x y : Nat) : Bool := (List.range x).any fun i => (List.range n).any fun j => decide (cellAt sq i j = (k : Int)) && (decide (j = y) || decide (cellAt a i j = cellAt a x y))
theorem free_blk {a b : List (List Int)} {n k x y s : Nat} (hb : BOk b n k x) (hk : k < n) (h1 : 1 ≤ x) (hx : x < n) (hy : y < n) (hs : cellAt a x y = (s : Int)) : (colM b n k y || symM a b n k s) = freeX a (maskM b n k) n k x y := by
  have hcell : ∀ i j, j < n → i < x → (cellAt (maskM b n k) i j = (k : Int) ↔ cellAt b i j = (k : Int)) := fun i j hj hi => by
    rw [maskM_get hb.sq (by omega) i j hj]
    by_cases h0 : i = 0
    · rw [if_pos h0, h0, hb.top j hj]
      split <;> omega
    · rw [if_neg h0]
  have hlow : ∀ i j, i < n → j < n → cellAt b i j = (k : Int) → i < x := fun i j hi hj h => by
    by_cases h0 : i = 0
    · omega
    · rcases hb.low i j (by omega) hi hj with g | ⟨g, g2⟩ <;> omega
  unfold colM symM freeX
  rw [Bool.eq_iff_iff]
  simp only [Bool.or_eq_true, List.any_eq_true, List.mem_range, decide_eq_true_eq, Bool.and_eq_true]
  constructor
  · rintro (⟨i, hi, h⟩ | ⟨i, hi, j, hj, h, h2⟩)
    · have := hlow i y hi hy h
      exact ⟨i, this, y, hy, (hcell i y hy this).2 h, .inl rfl⟩
    · have := hlow i j hi hj h
      exact ⟨i, this, j, hj, (hcell i j hj this).2 h, .inr (by rw [h2, hs])⟩
  · rintro ⟨i, hi, j, hj, h, h2⟩
    have hc := (hcell i j hj hi).1 h
    rcases h2 with rfl | h2
    · exact .inl ⟨i, by omega, hc⟩
    · exact .inr ⟨i, by omega, j, hj, hc, by rw [h2, hs]⟩
theorem lFree_ok (H : List Blk) (n bud : Nat) (a sq : List (List Int)) (left : Nat) (fl : Bool) (hn : 1 ≤ n ∧ n ≤ 10) (ha : a.length = n ∧ ∀ r ∈ a, r.length = n) (hsq : sq.length = n ∧ ∀ r ∈ sq, r.length = n) (k x y : Nat) (hk : k < n) (hx : x < n) (hy : y < n) (ext : List Blk) :
    ACalls Try.prog f_spec_l07Mate_free [.pc (H.length + (n + 1)) 0 0, I k, I x, I y] (hpL H n bud a sq left fl ++ ext) (fun r H' => r = Bv (!freeX a sq n k x y) ∧ H' = hpL H n bud a sq left fl ++ ext) := by
  have hQ := sqB_length n 0 H.length sq
  rw [hsq.1] at hQ
  have hg1 := fun (b : Blk) (r : List Blk) => getAt hQ b r
  have t0 := fun ext => q0w (H := H) (n := n) (w := 0) (sq := sq) (ext := ext)
  have t1 := qtakew (H := H) (w := 0) hsq.1
  have t2 := fun x hx => qcellw (H := H) (w := 0) (x := x) hsq hx
  have t3 := fun x ext hx => qroww (H := H) (w := 0) (x := x) (ext := ext) hsq.1 hx
  have hla := ha.1
  have e0 : hpL H n bud a sq left fl ++ ext = H ++ (sqB n 0 H.length sq ++ ⟨0, tyL7, 1, [ilSS a, .nm H.length n 0 n, I ((bud - left : Nat) : Int), I bud, Bv fl]⟩ :: ext) := by simp [hpL]
  rw [e0]
  refine ACalls.introB s_spec_l07Mate_free (by simp) ?_; intro hB hA; unfold c_spec_l07Mate_free; simp (config := { maxSteps := 1000000 }) (disch := (first | omega | (simp only [go_sem]; try omega))) only [go_sem, Nat.reduceAdd, Nat.reduceEqDiff, Nat.reduceLeDiff, Nat.reduceMul, Nat.reduceLT, reduceIte, Int.reduceToNat, w64_id, cast_succ]
  repeat (first | (with_reducible first | refine SW.seq ?_ | refine SW.block ?_ | refine SW.rowC ?_ | refine SW.skip ?_ | refine SW.exit ?_ | intro _ | refine And.intro (by omega) ?_) | simp (config := { maxSteps := 1000000 }) (disch := (first | omega | (simp only [go_sem]; try omega))) only [go_sem, Nat.reduceAdd, Nat.reduceEqDiff, Nat.reduceLeDiff, Nat.reduceMul, Nat.reduceLT, reduceIte, Int.reduceToNat, w64_id, cast_succ, hg1, t0, t1, hla])
  have hax : (a.getD x []).length = n := ha.2 _ (by rw [getD_get (by omega)]; exact List.getElem_mem _)
  refine SW.loopE (fun E0 H0 q E' H' => ∃ i : Nat, i ≤ x ∧ q = x - i ∧ E' = aput E0 9 (I i) ∧ H' = H0 ∧ ∀ i', i' < i → ((List.range n).any fun j => decide (cellAt sq i' j = (k : Int)) && (decide (j = y) || decide (cellAt a i' j = cellAt a x y))) = false) x ⟨0, by omega, by omega, rfl, rfl, fun i hi => by omega⟩ ?_
  rintro q E' H' ⟨i, hi, rfl, rfl, rfl, hno⟩
  simp (config := { maxSteps := 1000000 }) (disch := (first | omega | (simp only [go_sem]; try omega))) only [go_sem, Nat.reduceAdd, Nat.reduceEqDiff, Nat.reduceLeDiff, Nat.reduceMul, Nat.reduceLT, reduceIte, Int.reduceToNat, w64_id, cast_succ]
  repeat (first | (with_reducible first | refine SW.seq ?_ | refine SW.block ?_ | refine SW.rowC ?_ | refine SW.skip ?_ | refine SW.exit ?_ | intro _ | refine And.intro (by omega) ?_) | simp (config := { maxSteps := 1000000 }) (disch := (first | omega | (simp only [go_sem]; try omega))) only [go_sem, Nat.reduceAdd, Nat.reduceEqDiff, Nat.reduceLeDiff, Nat.reduceMul, Nat.reduceLT, reduceIte, Int.reduceToNat, w64_id, cast_succ])
  (first | refine SW.condD rfl (fun h1 => ?_) (fun h1 => ?_) | refine SW.condN rfl (fun h1 => ?_) (fun h1 => ?_) | refine SW.condNB rfl (fun h1 => ?_) (fun h1 => ?_) | refine SW.condB rfl (fun h1 => ?_) (fun h1 => ?_))
  · have hix : i < x := by omega
    have hai : (a.getD i []).length = n := ha.2 _ (by rw [getD_get (by omega)]; exact List.getElem_mem _)
    have hsi : (sq.getD i []).length = n := hsq.2 _ (by rw [getD_get (by omega)]; exact List.getElem_mem _)
    have hcr := t2 i (by omega)
    have hrr := fun ext => t3 i ext (by omega)
    have htk : ((sq.getD i []).map I).take n = (sq.getD i []).map I := List.take_of_length_le (by simp only [List.length_map]; omega)
    repeat (first | (with_reducible first | refine SW.seq ?_ | refine SW.block ?_ | refine SW.rowC ?_ | refine SW.skip ?_ | refine SW.exit ?_ | intro _ | refine And.intro (by omega) ?_) | simp (config := { maxSteps := 1000000 }) (disch := (first | omega | (simp only [go_sem]; try omega))) only [go_sem, Nat.reduceAdd, Nat.reduceEqDiff, Nat.reduceLeDiff, Nat.reduceMul, Nat.reduceLT, reduceIte, Int.reduceToNat, w64_id, cast_succ])
    refine SW.loopE (fun E0 H0 q E' H' => ∃ j : Nat, j ≤ n ∧ q = n - j ∧ E' = aput E0 10 (I j) ∧ H' = H0 ∧ ∀ j', j' < j → (decide (cellAt sq i j' = (k : Int)) && (decide (j' = y) || decide (cellAt a i j' = cellAt a x y))) = false) n ⟨0, by omega, by omega, rfl, rfl, fun j hj => by omega⟩ ?_
    rintro q E' H' ⟨j, hj, rfl, rfl, rfl, hnj⟩
    simp (config := { maxSteps := 1000000 }) (disch := (first | omega | (simp only [go_sem]; try omega))) only [go_sem, Nat.reduceAdd, Nat.reduceEqDiff, Nat.reduceLeDiff, Nat.reduceMul, Nat.reduceLT, reduceIte, Int.reduceToNat, w64_id, cast_succ]
    repeat (first | (with_reducible first | refine SW.seq ?_ | refine SW.block ?_ | refine SW.rowC ?_ | refine SW.skip ?_ | refine SW.exit ?_ | intro _ | refine And.intro (by omega) ?_) | simp (config := { maxSteps := 1000000 }) (disch := (first | omega | (simp only [go_sem]; try omega))) only [go_sem, Nat.reduceAdd, Nat.reduceEqDiff, Nat.reduceLeDiff, Nat.reduceMul, Nat.reduceLT, reduceIte, Int.reduceToNat, w64_id, cast_succ, hg1, t0, t1, hla])
    (first | refine SW.condD rfl (fun h2 => ?_) (fun h2 => ?_) | refine SW.condN rfl (fun h2 => ?_) (fun h2 => ?_) | refine SW.condNB rfl (fun h2 => ?_) (fun h2 => ?_) | refine SW.condB rfl (fun h2 => ?_) (fun h2 => ?_))
    · have hjn : j < n := by omega
      have hhit : (decide (cellAt sq i j = (k : Int)) && (decide (j = y) || decide (cellAt a i j = cellAt a x y))) = true → freeX a sq n k x y = true := fun h => by
        unfold freeX
        rw [List.any_eq_true]
        exact ⟨i, List.mem_range.2 hix, List.any_eq_true.2 ⟨j, List.mem_range.2 hjn, h⟩⟩
      have hstep : (decide (cellAt sq i j = (k : Int)) && (decide (j = y) || decide (cellAt a i j = cellAt a x y))) = false → ∀ j', j' < j + 1 → (decide (cellAt sq i j' = (k : Int)) && (decide (j' = y) || decide (cellAt a i j' = cellAt a x y))) = false := fun h j' hj' => by
        by_cases e : j' = j
        · rw [e]; exact h
        · exact hnj j' (by omega)
      have c1 : cellAt sq i j = (sq.getD i []).getD j 0 := rfl
      have c2 : cellAt a i j = (a.getD i []).getD j 0 := rfl
      have c3 : cellAt a x y = (a.getD x []).getD y 0 := rfl
      have cj : decide (j = y) = decide ((j : Int) = (y : Int)) := by rw [Bool.eq_iff_iff, decide_eq_true_eq, decide_eq_true_eq]; omega
      rw [c1, c2, c3, cj] at hhit hstep
      cases d1 : decide ((sq.getD i []).getD j 0 = (k : Int))
      · have hs := hstep (by rw [d1]; rfl)
        repeat (first | (with_reducible first | refine SW.seq ?_ | refine SW.block ?_ | refine SW.rowC ?_ | refine SW.skip ?_ | refine SW.exit ?_ | intro _ | refine And.intro (by omega) ?_) | simp (config := { maxSteps := 1000000 }) (disch := (first | omega | (simp only [go_sem]; try omega))) only [go_sem, Nat.reduceAdd, Nat.reduceEqDiff, Nat.reduceLeDiff, Nat.reduceMul, Nat.reduceLT, reduceIte, Int.reduceToNat, w64_id, cast_succ, hg1, t0, t1, hla, hcr, hrr, htk, hsi, hai, hax, d1])
        refine SW.condF rfl ?_
        repeat (first | (with_reducible first | refine SW.seq ?_ | refine SW.block ?_ | refine SW.rowC ?_ | refine SW.skip ?_ | refine SW.exit ?_ | intro _ | refine And.intro (by omega) ?_) | simp (config := { maxSteps := 1000000 }) (disch := (first | omega | (simp only [go_sem]; try omega))) only [go_sem, Nat.reduceAdd, Nat.reduceEqDiff, Nat.reduceLeDiff, Nat.reduceMul, Nat.reduceLT, reduceIte, Int.reduceToNat, w64_id, cast_succ])
        exact SLoop.next (n - (j + 1)) (by omega) ⟨j + 1, by omega, rfl, by simp [go_sem], rfl, hs⟩
      · cases d2 : decide ((j : Int) = (y : Int))
        · cases d3 : decide ((a.getD i []).getD j 0 = (a.getD x []).getD y 0)
          · have hs := hstep (by rw [d1, d2, d3]; rfl)
            repeat (first | (with_reducible first | refine SW.seq ?_ | refine SW.block ?_ | refine SW.rowC ?_ | refine SW.skip ?_ | refine SW.exit ?_ | intro _ | refine And.intro (by omega) ?_) | simp (config := { maxSteps := 1000000 }) (disch := (first | omega | (simp only [go_sem]; try omega))) only [go_sem, Nat.reduceAdd, Nat.reduceEqDiff, Nat.reduceLeDiff, Nat.reduceMul, Nat.reduceLT, reduceIte, Int.reduceToNat, w64_id, cast_succ, hg1, t0, t1, hla, hcr, hrr, htk, hsi, hai, hax, d1, d2, d3])
            refine SW.condF rfl ?_
            repeat (first | (with_reducible first | refine SW.seq ?_ | refine SW.block ?_ | refine SW.rowC ?_ | refine SW.skip ?_ | refine SW.exit ?_ | intro _ | refine And.intro (by omega) ?_) | simp (config := { maxSteps := 1000000 }) (disch := (first | omega | (simp only [go_sem]; try omega))) only [go_sem, Nat.reduceAdd, Nat.reduceEqDiff, Nat.reduceLeDiff, Nat.reduceMul, Nat.reduceLT, reduceIte, Int.reduceToNat, w64_id, cast_succ])
            exact SLoop.next (n - (j + 1)) (by omega) ⟨j + 1, by omega, rfl, by simp [go_sem], rfl, hs⟩
          · rw [hhit (by rw [d1, d2, d3]; rfl)]
            repeat (first | (with_reducible first | refine SW.seq ?_ | refine SW.block ?_ | refine SW.rowC ?_ | refine SW.skip ?_ | refine SW.exit ?_ | intro _ | refine And.intro (by omega) ?_) | simp (config := { maxSteps := 1000000 }) (disch := (first | omega | (simp only [go_sem]; try omega))) only [go_sem, Nat.reduceAdd, Nat.reduceEqDiff, Nat.reduceLeDiff, Nat.reduceMul, Nat.reduceLT, reduceIte, Int.reduceToNat, w64_id, cast_succ, hg1, t0, t1, hla, hcr, hrr, htk, hsi, hai, hax, d1, d2, d3])
            refine SW.condT rfl ?_
            repeat (first | (with_reducible first | refine SW.seq ?_ | refine SW.block ?_ | refine SW.rowC ?_ | refine SW.skip ?_ | refine SW.exit ?_ | intro _ | refine And.intro (by omega) ?_) | simp (config := { maxSteps := 1000000 }) (disch := (first | omega | (simp only [go_sem]; try omega))) only [go_sem, Nat.reduceAdd, Nat.reduceEqDiff, Nat.reduceLeDiff, Nat.reduceMul, Nat.reduceLT, reduceIte, Int.reduceToNat, w64_id, cast_succ])
            refine SW.ret ?_; (try simp only [go_sem]); (first | refine FunPost.one ?_ | refine FunPost.two ?_ | refine FunPost.three ?_); (try simp (config := { maxSteps := 1000000 }) (disch := (first | omega | (simp only [go_sem]; try omega))) only [go_sem, Nat.reduceAdd, Nat.reduceEqDiff, Nat.reduceLeDiff, Nat.reduceMul, Nat.reduceLT, reduceIte, Int.reduceToNat, w64_id, cast_succ])
            exact GR.of ⟨rfl, rfl⟩
        · rw [hhit (by rw [d1, d2]; rfl)]
          repeat (first | (with_reducible first | refine SW.seq ?_ | refine SW.block ?_ | refine SW.rowC ?_ | refine SW.skip ?_ | refine SW.exit ?_ | intro _ | refine And.intro (by omega) ?_) | simp (config := { maxSteps := 1000000 }) (disch := (first | omega | (simp only [go_sem]; try omega))) only [go_sem, Nat.reduceAdd, Nat.reduceEqDiff, Nat.reduceLeDiff, Nat.reduceMul, Nat.reduceLT, reduceIte, Int.reduceToNat, w64_id, cast_succ, hg1, t0, t1, hla, hcr, hrr, htk, hsi, hai, hax, d1, d2])
          refine SW.condT rfl ?_
          repeat (first | (with_reducible first | refine SW.seq ?_ | refine SW.block ?_ | refine SW.rowC ?_ | refine SW.skip ?_ | refine SW.exit ?_ | intro _ | refine And.intro (by omega) ?_) | simp (config := { maxSteps := 1000000 }) (disch := (first | omega | (simp only [go_sem]; try omega))) only [go_sem, Nat.reduceAdd, Nat.reduceEqDiff, Nat.reduceLeDiff, Nat.reduceMul, Nat.reduceLT, reduceIte, Int.reduceToNat, w64_id, cast_succ])
          refine SW.ret ?_; (try simp only [go_sem]); (first | refine FunPost.one ?_ | refine FunPost.two ?_ | refine FunPost.three ?_); (try simp (config := { maxSteps := 1000000 }) (disch := (first | omega | (simp only [go_sem]; try omega))) only [go_sem, Nat.reduceAdd, Nat.reduceEqDiff, Nat.reduceLeDiff, Nat.reduceMul, Nat.reduceLT, reduceIte, Int.reduceToNat, w64_id, cast_succ])
          exact GR.of ⟨rfl, rfl⟩
    · have hjn : j = n := by omega
      subst hjn
      repeat (first | (with_reducible first | refine SW.seq ?_ | refine SW.block ?_ | refine SW.rowC ?_ | refine SW.skip ?_ | refine SW.exit ?_ | intro _ | refine And.intro (by omega) ?_) | simp (config := { maxSteps := 1000000 }) (disch := (first | omega | (simp only [go_sem]; try omega))) only [go_sem, Nat.reduceAdd, Nat.reduceEqDiff, Nat.reduceLeDiff, Nat.reduceMul, Nat.reduceLT, reduceIte, Int.reduceToNat, w64_id, cast_succ])
      refine SLoop.next (x - (i + 1)) (by omega) ⟨i + 1, by omega, rfl, by simp [go_sem], rfl, fun i' hi' => ?_⟩
      by_cases e : i' = i
      · rw [e, List.any_eq_false]
        intro j' hj'
        rw [hnj j' (List.mem_range.1 hj')]; simp
      · exact hno i' (by omega)
  · have hix : i = x := by omega
    subst hix
    have hf : freeX a sq n k i y = false := by
      unfold freeX
      rw [List.any_eq_false]
      intro i' hi'
      rw [hno i' (List.mem_range.1 hi')]; simp
    rw [hf]
    repeat (first | (with_reducible first | refine SW.seq ?_ | refine SW.block ?_ | refine SW.rowC ?_ | refine SW.skip ?_ | refine SW.exit ?_ | intro _ | refine And.intro (by omega) ?_) | simp (config := { maxSteps := 1000000 }) (disch := (first | omega | (simp only [go_sem]; try omega))) only [go_sem, Nat.reduceAdd, Nat.reduceEqDiff, Nat.reduceLeDiff, Nat.reduceMul, Nat.reduceLT, reduceIte, Int.reduceToNat, w64_id, cast_succ])
    refine SW.ret ?_; (try simp only [go_sem]); (first | refine FunPost.one ?_ | refine FunPost.two ?_ | refine FunPost.three ?_); (try simp (config := { maxSteps := 1000000 }) (disch := (first | omega | (simp only [go_sem]; try omega))) only [go_sem, Nat.reduceAdd, Nat.reduceEqDiff, Nat.reduceLeDiff, Nat.reduceMul, Nat.reduceLT, reduceIte, Int.reduceToNat, w64_id, cast_succ])
    exact GR.of ⟨rfl, rfl⟩
end Go.Proofs.Ytflnjgeoegofdaa
