/- The search that completes a partial square: the reference. -/
import Derived.Test.YtchehdplcbffmaaProg
import Derived.KernelRfl
import Derived.Test.YtchehdplcbffmaazK32
set_option linter.unusedSimpArgs false
set_option linter.unusedVariables false
set_option maxHeartbeats 4000000
set_option maxRecDepth 100000
namespace Go.Proofs.Ytchehdplcbffmaa
open Go.Av
abbrev f_spec_l09Find_run : Nat := 107
def c_spec_l09Find_run : SC :=
 .seq (.reg [
     ⟨(some 8), .mv (.tmp 0), none⟩,
     ⟨(some 9), .nilc (.tmp 8), none⟩,
     ⟨(some 10), .faddr 0 (.tmp 9), none⟩,
     ⟨(some 11), .load 1 false (.tmp 10), none⟩,
     ⟨(some 12), .len (.tmp 11), none⟩,
     ⟨(some 4), .mv (.tmp 12), none⟩] [0, 1, 4])
 (.seq (.reg [
     ⟨(some 13), .mv (.tmp 1), none⟩,
     ⟨(some 5), .mv (.tmp 13), none⟩] [0, 4, 5])
 (.seq (.block 0 (.loop [0, 4, 5]
   (.seq (.seq (.reg [
       ⟨(some 14), .mv (.tmp 5), none⟩,
       ⟨(some 15), .mv (.tmp 4), none⟩,
       ⟨(some 16), .mv (.tmp 4), none⟩,
       ⟨(some 17), .bin .mul (.tmp 15) (.tmp 16), none⟩,
       ⟨(some 18), .bin .lss (.tmp 14) (.tmp 17), none⟩,
       ⟨(some 19), .mv (.tmp 18), none⟩,
       ⟨(some 20), .mv (.tmp 0), (some (19, true))⟩,
       ⟨(some 21), .nilc (.tmp 20), (some (19, true))⟩,
       ⟨(some 22), .faddr 0 (.tmp 21), (some (19, true))⟩,
       ⟨(some 23), .load 1 false (.tmp 22), (some (19, true))⟩,
       ⟨(some 24), .mv (.tmp 5), (some (19, true))⟩,
       ⟨(some 25), .mv (.tmp 4), (some (19, true))⟩,
       ⟨(some 26), .bin .quo (.tmp 24) (.tmp 25), (some (19, true))⟩,
       ⟨(some 27), .iaddr 1 (.tmp 23) (.tmp 26), (some (19, true))⟩,
       ⟨(some 28), .load 1 false (.tmp 27), (some (19, true))⟩,
       ⟨(some 29), .mv (.tmp 5), (some (19, true))⟩,
       ⟨(some 30), .mv (.tmp 4), (some (19, true))⟩,
       ⟨(some 31), .bin .rem (.tmp 29) (.tmp 30), (some (19, true))⟩,
       ⟨(some 32), .iaddr 1 (.tmp 28) (.tmp 31), (some (19, true))⟩,
       ⟨(some 33), .load 1 false (.tmp 32), (some (19, true))⟩,
       ⟨(some 34), .bin .geq (.tmp 33) (.const (.int .i64 0)), (some (19, true))⟩,
       ⟨(some 35), .pick (.tmp 19) (.tmp 34) (.const (.bool false)), none⟩] [0, 4, 5, 35])
   (.cond (.tmp 35)
    (.skip)
    (.exit 0)))
   (.block 1 (.reg [
        ⟨(some 36), .mv (.tmp 5), none⟩,
        ⟨(some 37), .bin .add (.tmp 36) (.const (.int .i64 1)), none⟩,
        ⟨(some 5), .mv (.tmp 37), none⟩] [0, 4, 5])))))
 (.seq (.seq (.reg [
     ⟨(some 38), .mv (.tmp 5), none⟩,
     ⟨(some 39), .mv (.tmp 4), none⟩,
     ⟨(some 40), .mv (.tmp 4), none⟩,
     ⟨(some 41), .bin .mul (.tmp 39) (.tmp 40), none⟩,
     ⟨(some 42), .bin .eql (.tmp 38) (.tmp 41), none⟩] [0, 4, 5, 42])
 (.cond (.tmp 42)
  (.seq (.seq (.reg [
      ⟨(some 43), .mv (.tmp 0), none⟩,
      ⟨(some 44), .nilc (.tmp 43), none⟩,
      ⟨(some 45), .faddr 2 (.tmp 44), none⟩,
      ⟨(some 46), .load 1 false (.tmp 45), none⟩,
      ⟨(some 47), .bin .eql (.tmp 46) (.const (.int .i64 0)), none⟩] [0, 47])
  (.cond (.tmp 47)
   (.reg [
       ⟨(some 48), .mv (.tmp 0), none⟩,
       ⟨(some 49), .mv (.tmp 0), none⟩,
       ⟨(some 50), .nilc (.tmp 49), none⟩,
       ⟨(some 51), .faddr 0 (.tmp 50), none⟩,
       ⟨(some 52), .load 1 false (.tmp 51), none⟩,
       ⟨(some 53), .call 37 [(.tmp 52)], none⟩,
       ⟨(some 54), .nilc (.tmp 48), none⟩,
       ⟨(some 55), .faddr 1 (.tmp 54), none⟩,
       ⟨none, .store 1 (.tmp 55) (.tmp 53), none⟩] [0])
   (.skip)))
  (.seq (.reg [
      ⟨(some 56), .mv (.tmp 0), none⟩,
      ⟨(some 57), .nilc (.tmp 56), none⟩,
      ⟨(some 58), .faddr 2 (.tmp 57), none⟩,
      ⟨(some 59), .load 1 false (.tmp 58), none⟩,
      ⟨(some 60), .bin .add (.tmp 59) (.const (.int .i64 1)), none⟩,
      ⟨(some 61), .nilc (.tmp 56), none⟩,
      ⟨(some 62), .faddr 2 (.tmp 61), none⟩,
      ⟨none, .store 1 (.tmp 62) (.tmp 60), none⟩] [])
  (.ret)))
  (.skip)))
 (.seq (.reg [
     ⟨(some 63), .mv (.tmp 0), none⟩,
     ⟨(some 64), .nilc (.tmp 63), none⟩,
     ⟨(some 65), .faddr 0 (.tmp 64), none⟩,
     ⟨(some 66), .load 1 false (.tmp 65), none⟩,
     ⟨(some 67), .mv (.tmp 5), none⟩,
     ⟨(some 68), .mv (.tmp 4), none⟩,
     ⟨(some 69), .bin .quo (.tmp 67) (.tmp 68), none⟩,
     ⟨(some 70), .mv (.tmp 5), none⟩,
     ⟨(some 71), .mv (.tmp 4), none⟩,
     ⟨(some 72), .bin .rem (.tmp 70) (.tmp 71), none⟩,
     ⟨(some 73), .qcall 78 [(.tmp 66), (.tmp 69), (.tmp 72)], none⟩,
     ⟨(some 6), .mv (.tmp 73), none⟩] [0, 4, 5, 6])
 (.seq (.reg [
     ⟨(some 7), .mv (.const (.int .i64 0)), none⟩] [0, 4, 5, 6, 7])
 (.block 2 (.loop [0, 4, 5, 6, 7]
   (.seq (.seq (.reg [
       ⟨(some 74), .mv (.tmp 7), none⟩,
       ⟨(some 75), .mv (.tmp 6), none⟩,
       ⟨(some 76), .len (.tmp 75), none⟩,
       ⟨(some 77), .bin .lss (.tmp 74) (.tmp 76), none⟩] [0, 4, 5, 6, 7, 77])
   (.cond (.tmp 77)
    (.skip)
    (.exit 2)))
   (.seq (.block 3 (.seq (.seq (.reg [
        ⟨(some 80), .mv (.tmp 0), none⟩,
        ⟨(some 81), .nilc (.tmp 80), none⟩,
        ⟨(some 82), .faddr 5 (.tmp 81), none⟩,
        ⟨(some 83), .load 1 false (.tmp 82), none⟩,
        ⟨(some 84), .mv (.tmp 0), none⟩,
        ⟨(some 85), .nilc (.tmp 84), none⟩,
        ⟨(some 86), .faddr 4 (.tmp 85), none⟩,
        ⟨(some 87), .load 1 false (.tmp 86), none⟩,
        ⟨(some 88), .bin .eql (.tmp 83) (.tmp 87), none⟩] [0, 4, 5, 6, 7, 88])
    (.cond (.tmp 88)
     (.reg [
         ⟨(some 89), .mv (.tmp 0), none⟩,
         ⟨(some 90), .nilc (.tmp 89), none⟩,
         ⟨(some 91), .faddr 6 (.tmp 90), none⟩,
         ⟨none, .store 1 (.tmp 91) (.const (.bool true)), none⟩] [0, 4, 5, 6, 7])
     (.skip)))
    (.seq (.seq (.reg [
        ⟨(some 92), .mv (.tmp 0), none⟩,
        ⟨(some 93), .nilc (.tmp 92), none⟩,
        ⟨(some 94), .faddr 6 (.tmp 93), none⟩,
        ⟨(some 95), .load 1 false (.tmp 94), none⟩,
        ⟨(some 96), .mv (.tmp 95), none⟩,
        ⟨(some 97), .mv (.tmp 0), (some (96, false))⟩,
        ⟨(some 98), .nilc (.tmp 97), (some (96, false))⟩,
        ⟨(some 99), .faddr 2 (.tmp 98), (some (96, false))⟩,
        ⟨(some 100), .load 1 false (.tmp 99), (some (96, false))⟩,
        ⟨(some 101), .mv (.tmp 0), (some (96, false))⟩,
        ⟨(some 102), .nilc (.tmp 101), (some (96, false))⟩,
        ⟨(some 103), .faddr 3 (.tmp 102), (some (96, false))⟩,
        ⟨(some 104), .load 1 false (.tmp 103), (some (96, false))⟩,
        ⟨(some 105), .bin .eql (.tmp 100) (.tmp 104), (some (96, false))⟩,
        ⟨(some 106), .pick (.tmp 96) (.const (.bool true)) (.tmp 105), none⟩] [0, 4, 5, 6, 7, 106])
    (.cond (.tmp 106)
     (.ret)
     (.skip)))
    (.seq (.reg [
        ⟨(some 107), .mv (.tmp 0), none⟩,
        ⟨(some 108), .nilc (.tmp 107), none⟩,
        ⟨(some 109), .faddr 5 (.tmp 108), none⟩,
        ⟨(some 110), .load 1 false (.tmp 109), none⟩,
        ⟨(some 111), .bin .add (.tmp 110) (.const (.int .i64 1)), none⟩,
        ⟨(some 112), .nilc (.tmp 107), none⟩,
        ⟨(some 113), .faddr 5 (.tmp 112), none⟩,
        ⟨none, .store 1 (.tmp 113) (.tmp 111), none⟩] [0, 4, 5, 6, 7])
    (.seq (.reg [
        ⟨(some 114), .mv (.tmp 0), none⟩,
        ⟨(some 115), .nilc (.tmp 114), none⟩,
        ⟨(some 116), .faddr 0 (.tmp 115), none⟩,
        ⟨(some 117), .load 1 false (.tmp 116), none⟩,
        ⟨(some 118), .mv (.tmp 5), none⟩,
        ⟨(some 119), .mv (.tmp 4), none⟩,
        ⟨(some 120), .bin .quo (.tmp 118) (.tmp 119), none⟩,
        ⟨(some 121), .iaddr 1 (.tmp 117) (.tmp 120), none⟩,
        ⟨(some 122), .load 1 false (.tmp 121), none⟩,
        ⟨(some 123), .mv (.tmp 5), none⟩,
        ⟨(some 124), .mv (.tmp 4), none⟩,
        ⟨(some 125), .bin .rem (.tmp 123) (.tmp 124), none⟩,
        ⟨(some 126), .mv (.tmp 6), none⟩,
        ⟨(some 127), .mv (.tmp 7), none⟩,
        ⟨(some 128), .iaddr 1 (.tmp 126) (.tmp 127), none⟩,
        ⟨(some 129), .load 1 false (.tmp 128), none⟩,
        ⟨(some 130), .iaddr 1 (.tmp 122) (.tmp 125), none⟩,
        ⟨none, .store 1 (.tmp 130) (.tmp 129), none⟩] [0, 4, 5, 6, 7])
    (.seq (.reg [
        ⟨(some 131), .mv (.tmp 0), none⟩,
        ⟨(some 132), .mv (.tmp 5), none⟩,
        ⟨(some 133), .bin .add (.tmp 132) (.const (.int .i64 1)), none⟩,
        ⟨(some 134), .call 107 [(.tmp 131), (.tmp 133)], none⟩] [0, 4, 5, 6, 7])
    (.reg [
        ⟨(some 135), .mv (.tmp 0), none⟩,
        ⟨(some 136), .nilc (.tmp 135), none⟩,
        ⟨(some 137), .faddr 0 (.tmp 136), none⟩,
        ⟨(some 138), .load 1 false (.tmp 137), none⟩,
        ⟨(some 139), .mv (.tmp 5), none⟩,
        ⟨(some 140), .mv (.tmp 4), none⟩,
        ⟨(some 141), .bin .quo (.tmp 139) (.tmp 140), none⟩,
        ⟨(some 142), .iaddr 1 (.tmp 138) (.tmp 141), none⟩,
        ⟨(some 143), .load 1 false (.tmp 142), none⟩,
        ⟨(some 144), .mv (.tmp 5), none⟩,
        ⟨(some 145), .mv (.tmp 4), none⟩,
        ⟨(some 146), .bin .rem (.tmp 144) (.tmp 145), none⟩,
        ⟨(some 147), .iaddr 1 (.tmp 143) (.tmp 146), none⟩,
        ⟨none, .store 1 (.tmp 147) (.const (.int .i64 (-1))), none⟩] [0, 4, 5, 6, 7])))))))
   (.reg [
       ⟨(some 78), .mv (.tmp 7), none⟩,
       ⟨(some 79), .bin .add (.tmp 78) (.const (.int .i64 1)), none⟩,
       ⟨(some 7), .mv (.tmp 79), none⟩] [0, 4, 5, 6, 7]))))))))))
theorem s_spec_l09Find_run : stripF Try.prog 107 [[0, 1, 4], [0, 4, 5], [0, 4, 5], [0, 4, 5, 35], [0, 4, 5], [0, 4, 5, 42], [0, 47], [0], [], [0, 4, 5, 6], [0, 4, 5, 6, 7], [0, 4, 5, 6, 7], [0, 4, 5, 6, 7, 77], [0, 4, 5, 6, 7, 88], [0, 4, 5, 6, 7], [0, 4, 5, 6, 7, 106], [0, 4, 5, 6, 7], [0, 4, 5, 6, 7], [0, 4, 5, 6, 7], [0, 4, 5, 6, 7], [0, 4, 5, 6, 7]] = some (c_spec_l09Find_run, [], 148) := by kernel_rfl
def emR (sq : List (List Int)) (n c : Nat) : List Nat := ((List.range (n * n)).drop c).filter (isE sq n)
theorem emR_zero (sq : List (List Int)) (n : Nat) : emR sq n 0 = empT sq n (n * n) := rfl
theorem emR_end (sq : List (List Int)) (n : Nat) : emR sq n (n * n) = [] := by unfold emR; rw [List.drop_of_length_le (by simp)]; rfl
theorem emR_succ (sq : List (List Int)) (n c : Nat) (h : c < n * n) : emR sq n c = (if isE sq n c then [c] else []) ++ emR sq n (c + 1) := by
  unfold emR
  rw [List.drop_eq_getElem_cons (by simpa using h), List.filter_cons, List.getElem_range]
  split <;> rfl
theorem emR_set (sq : List (List Int)) (n c : Nat) (v : Int) : emR (setC sq (c / n) (c % n) v) n (c + 1) = emR sq n (c + 1) := by
  unfold emR
  refine List.filter_congr fun d hd => ?_
  have hd2 : c + 1 ≤ d := by
    obtain ⟨i, hi, rfl⟩ := List.mem_iff_getElem.1 hd
    rw [List.getElem_drop, List.getElem_range]; omega
  unfold isE
  rw [setC_get]
  rintro ⟨h1, h2⟩
  have : d = c := by rw [← Nat.div_add_mod d n, ← Nat.div_add_mod c n, h1, h2]
  omega
abbrev tyF : Nat := 107
def hpF (H : List Blk) (n lim bud : Nat) (sq : List (List Int)) (st : CS) (fl : Bool) : List Blk :=
  H ++ (sqB n 1 H.length sq ++ ⟨0, tyF, 1, [.nm H.length n 0 n, fAV n H.length st.first, I st.count, I lim, I bud, I ((bud - st.left : Nat) : Int), Bv fl]⟩ :: fB n H.length st.first)
def geM (n : Nat) (sq : List (List Int)) : Prop := ∀ x y, x < n → y < n → -1 ≤ cellAt sq x y
theorem geM_set {n : Nat} {sq : List (List Int)} (h : geM n sq) (hsq : sq.length = n ∧ ∀ r ∈ sq, r.length = n) {x y : Nat} {v : Int} (hx : x < n) (hy : y < n) (hv : 0 ≤ v) : geM n (setC sq x y v) := by
  intro a b ha hb
  by_cases hab : a = x ∧ b = y
  · obtain ⟨rfl, rfl⟩ := hab
    have hrl : (sq.getD a []).length = n := hsq.2 _ (by rw [getD_get (by omega)]; exact List.getElem_mem _)
    have : cellAt (setC sq a b v) a b = v := by
      unfold cellAt setC
      have e : (sq.set a ((sq.getD a []).set b v)).getD a [] = (sq.getD a []).set b v := by simp [List.getD_eq_getElem?_getD, show a < sq.length by omega]
      rw [e, List.getD_eq_getElem?_getD, List.getElem?_set_self (by omega)]; rfl
    omega
  · rw [setC_get hab]; exact h a b ha hb
theorem run_ok (n lim bud : Nat) (hn : 1 ≤ n ∧ n ≤ 10) (hlim : lim ≤ 1000) (hbud : bud ≤ 1000000) : ∀ (cs : List Nat) (a : Nat) (H : List Blk) (sq : List (List Int)) (st : CS), a ≤ n * n → emR sq n a = cs → (sq.length = n ∧ ∀ r ∈ sq, r.length = n) → geM n sq →
    Good lim st → FirstOk n st → st.count < lim → st.spent = false → st.left ≤ bud →
    ACalls Try.prog f_spec_l09Find_run [.pc (H.length + (n + 1)) 0 0, I a] (hpF H n lim bud sq st false) (fun r H' => ∃ fl, H' = hpF H n lim bud sq (srch n lim cs sq st) fl ∧ (fl = (srch n lim cs sq st).spent ∨ (srch n lim cs sq st).count = lim)) := by
  intro cs
  induction cs with
  | nil =>
    intro a H sq st ha hem hsq hge hgood _ hct hsp hleft
    have hnn : n * n ≤ 100 := Nat.mul_le_mul hn.2 hn.2
    have hn0 : (n : Int) ≠ 0 := by omega
    have hwn : w64 ((n : Int) * n) = ((n * n : Nat) : Int) := by rw [← Int.natCast_mul]; exact w64_id (by omega) (by omega)
    have hQ := sqB_length n 1 H.length sq
    rw [hsq.1] at hQ
    have hg1 := fun (b : Blk) (r : List Blk) => getAt hQ b r
    have hs1 := fun (b c : Blk) (r : List Blk) => setAt hQ b c r
    have t0 := fun ext => q0 (H := H) (n := n) (sq := sq) (ext := ext)
    have t1 := qtake (H := H) hsq.1
    have t2 := fun x hx => qcell (H := H) (x := x) hsq hx
    have t3 := fun x ext hx => qrow (H := H) (x := x) (ext := ext) hsq.1 hx
    have hrowl : ∀ x, x < n → (sq.getD x []).length = n := fun x hx => hsq.2 _ (by rw [getD_get (by omega)]; exact List.getElem_mem _)
    have e0 : hpF H n lim bud sq st false = H ++ (sqB n 1 H.length sq ++ ⟨0, tyF, 1, [.nm H.length n 0 n, fAV n H.length st.first, I st.count, I lim, I bud, I ((bud - st.left : Nat) : Int), Bv false]⟩ :: fB n H.length st.first) := rfl
    rw [e0]
    refine ACalls.introB s_spec_l09Find_run (by simp) ?_; intro hB hA; unfold c_spec_l09Find_run; simp (config := { maxSteps := 1000000 }) (disch := (first | omega | (simp only [go_sem]; try omega))) only [go_sem, Nat.reduceAdd, Nat.reduceEqDiff, Nat.reduceLeDiff, Nat.reduceMul, Nat.reduceLT, reduceIte, Int.reduceToNat, w64_id, cast_succ]
    repeat (first | (with_reducible first | refine SW.seq ?_ | refine SW.block ?_ | refine SW.rowC ?_ | refine SW.skip ?_ | refine SW.exit ?_ | intro _ | refine And.intro (by omega) ?_) | simp (config := { maxSteps := 1000000 }) (disch := (first | omega | (simp only [go_sem]; try omega))) only [go_sem, Nat.reduceAdd, Nat.reduceEqDiff, Nat.reduceLeDiff, Nat.reduceMul, Nat.reduceLT, reduceIte, Int.reduceToNat, w64_id, cast_succ, hg1, hs1, t0, t1])
    refine SW.loopE (fun E0 H0 q E' H' => ∃ c : Nat, a ≤ c ∧ c ≤ n * n ∧ q = n * n - c ∧ E' = aput E0 5 (I c) ∧ H' = H0 ∧ emR sq n c = []) (n * n - a) ⟨a, by omega, ha, rfl, rfl, rfl, hem⟩ ?_
    rintro q E' H' ⟨c, hac, hcn, rfl, rfl, rfl, hec⟩
    rcases Nat.lt_or_eq_of_le hcn with hclt | hceq
    · have hx : c / n < n := Nat.div_lt_of_lt_mul hclt
      have hy : c % n < n := Nat.mod_lt _ (by omega)
      have hd1 : (c : Int).tdiv n = ((c / n : Nat) : Int) := (Int.ofNat_tdiv c n).symm
      have hd2 : (c : Int).tmod n = ((c % n : Nat) : Int) := (Int.ofNat_tmod c n).symm
      have hes := emR_succ sq n c hclt
      have hisE : isE sq n c = decide (cellAt sq (c / n) (c % n) = -1) := rfl
      generalize hxd : c / n = x at *
      generalize hyd : c % n = y at *
      have hw1 : w64 (x : Int) = x := w64_id (by omega) (by omega)
      have hcr := t2 x hx
      have hrr := fun ext => t3 x ext hx
      have hrl := hrowl x hx
      have htk : ((sq.getD x []).map I).take n = (sq.getD x []).map I := List.take_of_length_le (by simp only [List.length_map]; omega)
      have hclI : (c : Int) < (n : Int) * n := by rw [← Int.natCast_mul]; omega
      have hgc := hge x y hx hy
      have hcd : cellAt sq x y = (sq.getD x []).getD y 0 := rfl
      simp (config := { maxSteps := 1000000 }) (disch := (first | omega | (simp only [go_sem]; try omega))) only [go_sem, Nat.reduceAdd, Nat.reduceEqDiff, Nat.reduceLeDiff, Nat.reduceMul, Nat.reduceLT, reduceIte, Int.reduceToNat, w64_id, cast_succ]
      have hne : isE sq n c = false := by
        cases h : isE sq n c with
        | false => rfl
        | true => rw [h, if_pos rfl, hec] at hes; cases hes
      rw [hne, if_neg (by simp), List.nil_append] at hes
      have hpos : 0 ≤ (sq.getD x []).getD y 0 := by
        rw [hisE] at hne
        have := of_decide_eq_false hne
        omega
      repeat (first | (with_reducible first | refine SW.seq ?_ | refine SW.block ?_ | refine SW.rowC ?_ | refine SW.skip ?_ | refine SW.exit ?_ | intro _ | refine And.intro (by omega) ?_) | simp (config := { maxSteps := 1000000 }) (disch := (first | omega | (simp only [go_sem]; try omega))) only [go_sem, Nat.reduceAdd, Nat.reduceEqDiff, Nat.reduceLeDiff, Nat.reduceMul, Nat.reduceLT, reduceIte, Int.reduceToNat, w64_id, cast_succ, hwn, hclI, hg1, hs1, t0, t1, hd1, hd2, hn0, hw1, hcr, hrr, hrl, htk, hpos])
      refine SW.condT rfl ?_
      repeat (first | (with_reducible first | refine SW.seq ?_ | refine SW.block ?_ | refine SW.rowC ?_ | refine SW.skip ?_ | refine SW.exit ?_ | intro _ | refine And.intro (by omega) ?_) | simp (config := { maxSteps := 1000000 }) (disch := (first | omega | (simp only [go_sem]; try omega))) only [go_sem, Nat.reduceAdd, Nat.reduceEqDiff, Nat.reduceLeDiff, Nat.reduceMul, Nat.reduceLT, reduceIte, Int.reduceToNat, w64_id, cast_succ])
      refine SLoop.next (n * n - (c + 1)) (by omega) ⟨c + 1, by omega, by omega, rfl, ?_, rfl, by rw [← hes]; exact hec⟩
      simp [go_sem]
    · subst hceq
      have hclI : ¬ (((n * n : Nat) : Int) < (n : Int) * n) := by rw [Int.natCast_mul]; omega
      have hceI : ((n * n : Nat) : Int) = (n : Int) * n := Int.natCast_mul n n
      simp (config := { maxSteps := 1000000 }) (disch := (first | omega | (simp only [go_sem]; try omega))) only [go_sem, Nat.reduceAdd, Nat.reduceEqDiff, Nat.reduceLeDiff, Nat.reduceMul, Nat.reduceLT, reduceIte, Int.reduceToNat, w64_id, cast_succ]
      rw [hceI]
      have hirr : decide ((n : Int) * n < (n : Int) * n) = false := by simp
      repeat (first | (with_reducible first | refine SW.seq ?_ | refine SW.block ?_ | refine SW.rowC ?_ | refine SW.skip ?_ | refine SW.exit ?_ | intro _ | refine And.intro (by omega) ?_) | simp (config := { maxSteps := 1000000 }) (disch := (first | omega | (simp only [go_sem]; try omega))) only [go_sem, Nat.reduceAdd, Nat.reduceEqDiff, Nat.reduceLeDiff, Nat.reduceMul, Nat.reduceLT, reduceIte, Int.reduceToNat, w64_id, cast_succ, hwn, hirr])
      refine SW.condF rfl ?_
      repeat (first | (with_reducible first | refine SW.seq ?_ | refine SW.block ?_ | refine SW.rowC ?_ | refine SW.skip ?_ | refine SW.exit ?_ | intro _ | refine And.intro (by omega) ?_) | simp (config := { maxSteps := 1000000 }) (disch := (first | omega | (simp only [go_sem]; try omega))) only [go_sem, Nat.reduceAdd, Nat.reduceEqDiff, Nat.reduceLeDiff, Nat.reduceMul, Nat.reduceLT, reduceIte, Int.reduceToNat, w64_id, cast_succ, hwn])
      refine SW.condT (by simp [go_sem]) ?_
      have hrd : RdSS (hpF H n lim bud sq st false) (.nm H.length n 0 n) sq := by
        have := sq_rd (Hb := H) (v := n) (w := 1) (xss := sq) (ext := ⟨0, tyF, 1, [.nm H.length n 0 n, fAV n H.length st.first, I st.count, I lim, I bud, I ((bud - st.left : Nat) : Int), Bv false]⟩ :: fB n H.length st.first)
        rw [hsq.1] at this
        exact this
      obtain ⟨left, spent, count, first⟩ := st
      simp only at hct hsp hleft
      subst hsp
      by_cases h0 : count = 0
      · subst h0
        have hf0 : first = none := by
          cases first with
          | none => rfl
          | some f => have := hgood.2.2.1 rfl; simp at this
        subst hf0
        repeat (first | (with_reducible first | refine SW.seq ?_ | refine SW.block ?_ | refine SW.rowC ?_ | refine SW.skip ?_ | refine SW.exit ?_ | intro _ | refine And.intro (by omega) ?_) | simp (config := { maxSteps := 1000000 }) (disch := (first | omega | (simp only [go_sem]; try omega))) only [go_sem, Nat.reduceAdd, Nat.reduceEqDiff, Nat.reduceLeDiff, Nat.reduceMul, Nat.reduceLT, reduceIte, Int.reduceToNat, w64_id, cast_succ, hg1, hs1])
        refine SW.condT rfl ?_
        repeat (first | (with_reducible first | refine SW.seq ?_ | refine SW.block ?_ | refine SW.rowC ?_ | refine SW.skip ?_ | refine SW.exit ?_ | intro _ | refine And.intro (by omega) ?_) | simp (config := { maxSteps := 1000000 }) (disch := (first | omega | (simp only [go_sem]; try omega))) only [go_sem, Nat.reduceAdd, Nat.reduceEqDiff, Nat.reduceLeDiff, Nat.reduceMul, Nat.reduceLT, reduceIte, Int.reduceToNat, w64_id, cast_succ, hg1, hs1])
        refine (l06Own_sq _ _ sq hrd (by omega) (fun r hr => by have := hsq.2 r hr; omega)).mono ?_
        rintro r H1 ⟨rfl, rfl⟩
        unfold hpF
        rw [hsq.1]
        have e2 : n + 1 + 1 = n + 2 := rfl
        have e3 : n + 1 + (0 + 1) = n + 2 := rfl
        have f1 : fB n H.length none = [] := rfl
        have f2 : fAV n H.length none = nilS := rfl
        repeat (first | (with_reducible first | refine SW.seq ?_ | refine SW.block ?_ | refine SW.rowC ?_ | refine SW.skip ?_ | refine SW.exit ?_ | intro _ | refine And.intro (by omega) ?_) | simp (config := { maxSteps := 1000000 }) (disch := (first | omega | (simp only [go_sem]; try omega))) only [go_sem, Nat.reduceAdd, Nat.reduceEqDiff, Nat.reduceLeDiff, Nat.reduceMul, Nat.reduceLT, reduceIte, Int.reduceToNat, w64_id, cast_succ, hg1, hs1, hQ, f1, f2, e2, e3])
        refine SW.ret ?_
        exact ⟨_, rfl, GR.of ⟨false, rfl, .inl rfl⟩⟩
      · have h0' : ¬ (count : Int) = 0 := by omega
        repeat (first | (with_reducible first | refine SW.seq ?_ | refine SW.block ?_ | refine SW.rowC ?_ | refine SW.skip ?_ | refine SW.exit ?_ | intro _ | refine And.intro (by omega) ?_) | simp (config := { maxSteps := 1000000 }) (disch := (first | omega | (simp only [go_sem]; try omega))) only [go_sem, Nat.reduceAdd, Nat.reduceEqDiff, Nat.reduceLeDiff, Nat.reduceMul, Nat.reduceLT, reduceIte, Int.reduceToNat, w64_id, cast_succ, hg1, hs1, h0'])
        refine SW.condF rfl ?_
        repeat (first | (with_reducible first | refine SW.seq ?_ | refine SW.block ?_ | refine SW.rowC ?_ | refine SW.skip ?_ | refine SW.exit ?_ | intro _ | refine And.intro (by omega) ?_) | simp (config := { maxSteps := 1000000 }) (disch := (first | omega | (simp only [go_sem]; try omega))) only [go_sem, Nat.reduceAdd, Nat.reduceEqDiff, Nat.reduceLeDiff, Nat.reduceMul, Nat.reduceLT, reduceIte, Int.reduceToNat, w64_id, cast_succ, hg1, hs1])
        refine SW.ret ?_
        refine ⟨_, rfl, GR.of ⟨false, ?_, .inl rfl⟩⟩
        show _ = hpF H n lim bud sq (leafS sq ⟨left, false, count, first⟩) false
        unfold leafS hpF
        simp only [if_neg h0]
  | cons c0 cs ih =>
    intro a H sq st ha hem hsq hge hgood hfirst hct hsp hleft
    have hnn : n * n ≤ 100 := Nat.mul_le_mul hn.2 hn.2
    have hn0 : (n : Int) ≠ 0 := by omega
    have hwn : w64 ((n : Int) * n) = ((n * n : Nat) : Int) := by rw [← Int.natCast_mul]; exact w64_id (by omega) (by omega)
    have hQ := sqB_length n 1 H.length sq
    rw [hsq.1] at hQ
    have hg1 := fun (b : Blk) (r : List Blk) => getAt hQ b r
    have hs1 := fun (b c : Blk) (r : List Blk) => setAt hQ b c r
    have t0 := fun ext => q0 (H := H) (n := n) (sq := sq) (ext := ext)
    have t1 := qtake (H := H) hsq.1
    have t2 := fun x hx => qcell (H := H) (x := x) hsq hx
    have t3 := fun x ext hx => qrow (H := H) (x := x) (ext := ext) hsq.1 hx
    have hrowl : ∀ x, x < n → (sq.getD x []).length = n := fun x hx => hsq.2 _ (by rw [getD_get (by omega)]; exact List.getElem_mem _)
    have e0 : hpF H n lim bud sq st false = H ++ (sqB n 1 H.length sq ++ ⟨0, tyF, 1, [.nm H.length n 0 n, fAV n H.length st.first, I st.count, I lim, I bud, I ((bud - st.left : Nat) : Int), Bv false]⟩ :: fB n H.length st.first) := rfl
    rw [e0]
    refine ACalls.introB s_spec_l09Find_run (by simp) ?_; intro hB hA; unfold c_spec_l09Find_run; simp (config := { maxSteps := 1000000 }) (disch := (first | omega | (simp only [go_sem]; try omega))) only [go_sem, Nat.reduceAdd, Nat.reduceEqDiff, Nat.reduceLeDiff, Nat.reduceMul, Nat.reduceLT, reduceIte, Int.reduceToNat, w64_id, cast_succ]
    repeat (first | (with_reducible first | refine SW.seq ?_ | refine SW.block ?_ | refine SW.rowC ?_ | refine SW.skip ?_ | refine SW.exit ?_ | intro _ | refine And.intro (by omega) ?_) | simp (config := { maxSteps := 1000000 }) (disch := (first | omega | (simp only [go_sem]; try omega))) only [go_sem, Nat.reduceAdd, Nat.reduceEqDiff, Nat.reduceLeDiff, Nat.reduceMul, Nat.reduceLT, reduceIte, Int.reduceToNat, w64_id, cast_succ, hg1, hs1, t0, t1])
    refine SW.loopE (fun E0 H0 q E' H' => ∃ c : Nat, a ≤ c ∧ c ≤ n * n ∧ q = n * n - c ∧ E' = aput E0 5 (I c) ∧ H' = H0 ∧ emR sq n c = c0 :: cs) (n * n - a) ⟨a, by omega, ha, rfl, rfl, rfl, hem⟩ ?_
    rintro q E' H' ⟨c, hac, hcn, rfl, rfl, rfl, hec⟩
    have hclt : c < n * n := by
      rcases Nat.lt_or_eq_of_le hcn with h | h
      · exact h
      · rw [h, emR_end] at hec; cases hec
    have hx : c / n < n := Nat.div_lt_of_lt_mul hclt
    have hy : c % n < n := Nat.mod_lt _ (by omega)
    have hd1 : (c : Int).tdiv n = ((c / n : Nat) : Int) := (Int.ofNat_tdiv c n).symm
    have hd2 : (c : Int).tmod n = ((c % n : Nat) : Int) := (Int.ofNat_tmod c n).symm
    have hes := emR_succ sq n c hclt
    have hisE : isE sq n c = decide (cellAt sq (c / n) (c % n) = -1) := rfl
    generalize hxd : c / n = x at *
    generalize hyd : c % n = y at *
    have hw1 : w64 (x : Int) = x := w64_id (by omega) (by omega)
    have hcr := t2 x hx
    have hrr := fun ext => t3 x ext hx
    have hrl := hrowl x hx
    have htk : ((sq.getD x []).map I).take n = (sq.getD x []).map I := List.take_of_length_le (by simp only [List.length_map]; omega)
    have hclI : (c : Int) < (n : Int) * n := by rw [← Int.natCast_mul]; omega
    have hgc := hge x y hx hy
    have hcd : cellAt sq x y = (sq.getD x []).getD y 0 := rfl
    simp (config := { maxSteps := 1000000 }) (disch := (first | omega | (simp only [go_sem]; try omega))) only [go_sem, Nat.reduceAdd, Nat.reduceEqDiff, Nat.reduceLeDiff, Nat.reduceMul, Nat.reduceLT, reduceIte, Int.reduceToNat, w64_id, cast_succ]
    by_cases hpos : 0 ≤ (sq.getD x []).getD y 0
    · have hne : isE sq n c = false := by rw [hisE]; exact decide_eq_false (by omega)
      rw [hne, if_neg (by simp), List.nil_append] at hes
      repeat (first | (with_reducible first | refine SW.seq ?_ | refine SW.block ?_ | refine SW.rowC ?_ | refine SW.skip ?_ | refine SW.exit ?_ | intro _ | refine And.intro (by omega) ?_) | simp (config := { maxSteps := 1000000 }) (disch := (first | omega | (simp only [go_sem]; try omega))) only [go_sem, Nat.reduceAdd, Nat.reduceEqDiff, Nat.reduceLeDiff, Nat.reduceMul, Nat.reduceLT, reduceIte, Int.reduceToNat, w64_id, cast_succ, hwn, hclI, hg1, hs1, t0, t1, hd1, hd2, hn0, hw1, hcr, hrr, hrl, htk, hpos])
      refine SW.condT rfl ?_
      repeat (first | (with_reducible first | refine SW.seq ?_ | refine SW.block ?_ | refine SW.rowC ?_ | refine SW.skip ?_ | refine SW.exit ?_ | intro _ | refine And.intro (by omega) ?_) | simp (config := { maxSteps := 1000000 }) (disch := (first | omega | (simp only [go_sem]; try omega))) only [go_sem, Nat.reduceAdd, Nat.reduceEqDiff, Nat.reduceLeDiff, Nat.reduceMul, Nat.reduceLT, reduceIte, Int.reduceToNat, w64_id, cast_succ])
      refine SLoop.next (n * n - (c + 1)) (by omega) ⟨c + 1, by omega, by omega, rfl, ?_, rfl, by rw [← hes]; exact hec⟩
      simp [go_sem]
    · have hne : isE sq n c = true := by rw [hisE]; exact decide_eq_true (by omega)
      rw [hne, if_pos rfl, hec] at hes
      simp only [List.singleton_append, List.cons.injEq] at hes
      obtain ⟨hc0, hcs⟩ := hes
      repeat (first | (with_reducible first | refine SW.seq ?_ | refine SW.block ?_ | refine SW.rowC ?_ | refine SW.skip ?_ | refine SW.exit ?_ | intro _ | refine And.intro (by omega) ?_) | simp (config := { maxSteps := 1000000 }) (disch := (first | omega | (simp only [go_sem]; try omega))) only [go_sem, Nat.reduceAdd, Nat.reduceEqDiff, Nat.reduceLeDiff, Nat.reduceMul, Nat.reduceLT, reduceIte, Int.reduceToNat, w64_id, cast_succ, hwn, hclI, hg1, hs1, t0, t1, hd1, hd2, hn0, hw1, hcr, hrr, hrl, htk, hpos])
      refine SW.condF rfl ?_
      repeat (first | (with_reducible first | refine SW.seq ?_ | refine SW.block ?_ | refine SW.rowC ?_ | refine SW.skip ?_ | refine SW.exit ?_ | intro _ | refine And.intro (by omega) ?_) | simp (config := { maxSteps := 1000000 }) (disch := (first | omega | (simp only [go_sem]; try omega))) only [go_sem, Nat.reduceAdd, Nat.reduceEqDiff, Nat.reduceLeDiff, Nat.reduceMul, Nat.reduceLT, reduceIte, Int.reduceToNat, w64_id, cast_succ, hwn])
      (first | refine SW.condD rfl (fun h1 => ?_) (fun h1 => ?_) | refine SW.condN rfl (fun h1 => ?_) (fun h1 => ?_) | refine SW.condNB rfl (fun h1 => ?_) (fun h1 => ?_) | refine SW.condB rfl (fun h1 => ?_) (fun h1 => ?_))
      · exfalso
        rw [← Int.natCast_mul] at h1; omega
      have hcan := l09Candidates_new sq x y (by omega) (by omega) (fun r hr => by rw [hsq.2 r hr, hsq.1]) (by omega)
      rw [hsq.1] at hcan
      have hfz : ∀ ext, Froz (H ++ (sqB n 1 H.length sq ++ ext)) 0 (.nm H.length n 0 n) (ilSS sq) := fun ext => by
        have := froz_sq (Hb := H) (v := n) (w := 1) (xss := sq) (ext := ext)
        rw [hsq.1] at this
        exact this
      have hcm : ∀ v ∈ cands sq x y n, 0 ≤ v ∧ v < n := fun v hv => cands_mem hv
      have hsr : srch n lim (c0 :: cs) sq st = (cands sq x y n).foldl (stepS lim (srch n lim cs) sq x y) st := by
        rw [hc0, ← hxd, ← hyd]; rfl
      rw [hsr]
      clear hsr
      have hll := cands_len sq x y n
      have hemp : cellAt sq x y = -1 := by omega
      have ih2 := fun (sq' : List (List Int)) (st' : CS) => ih (c + 1) H sq' st' (by omega)
      have hset2 : ∀ v, emR (setC sq x y v) n (c + 1) = cs := fun v => by rw [← hxd, ← hyd, emR_set]; exact hcs.symm
      clear ih
      generalize cands sq x y n = L at *
      repeat (first | (with_reducible first | refine SW.seq ?_ | refine SW.block ?_ | refine SW.rowC ?_ | refine SW.skip ?_ | refine SW.exit ?_ | intro _ | refine And.intro (by omega) ?_) | simp (config := { maxSteps := 1000000 }) (disch := (first | omega | (simp only [go_sem]; try omega))) only [go_sem, Nat.reduceAdd, Nat.reduceEqDiff, Nat.reduceLeDiff, Nat.reduceMul, Nat.reduceLT, reduceIte, Int.reduceToNat, w64_id, cast_succ, hg1, hs1, hd1, hd2, hn0, hw1])
      refine ⟨_, hcan.lendq (.cons (hfz _) (.cons (.I _) (.cons (.I _) .nil))), ?_⟩
      repeat (first | (with_reducible first | refine SW.seq ?_ | refine SW.block ?_ | refine SW.rowC ?_ | refine SW.skip ?_ | refine SW.exit ?_ | intro _ | refine And.intro (by omega) ?_) | simp (config := { maxSteps := 1000000 }) (disch := (first | omega | (simp only [go_sem]; try omega))) only [go_sem, Nat.reduceAdd, Nat.reduceEqDiff, Nat.reduceLeDiff, Nat.reduceMul, Nat.reduceLT, reduceIte, Int.reduceToNat, w64_id, cast_succ])
      refine SW.loopE (fun E0 H0 q E' H' => ∃ (pre post : List Int) (fl : Bool), L = pre ++ post ∧ q = post.length ∧ E' = aput E0 7 (I pre.length) ∧ H' = hpF H n lim bud sq (pre.foldl (stepS lim (srch n lim cs) sq x y) st) fl ∧ (pre.foldl (stepS lim (srch n lim cs) sq x y) st).left ≤ bud ∧ (fl = (pre.foldl (stepS lim (srch n lim cs) sq x y) st).spent ∨ (pre.foldl (stepS lim (srch n lim cs) sq x y) st).count = lim)) L.length ⟨[], L, false, rfl, rfl, rfl, rfl, hleft, .inl hsp.symm⟩ ?_
      rintro q E' H' ⟨pre, post, fl, hq, rfl, rfl, rfl, hlf, hrel⟩
      have hgd2 : Good lim (pre.foldl (stepS lim (srch n lim cs) sq x y) st) := good_fold (fun sq st h hc hs => good_srch n lim cs sq st h hc hs) pre hgood
      have hfo2 : FirstOk n (pre.foldl (stepS lim (srch n lim cs) sq x y) st) := first_fold hsq (fun sq st hs h => first_srch n lim cs sq st hs h) pre hfirst
      have hfold : ∀ l, (pre ++ l).foldl (stepS lim (srch n lim cs) sq x y) st = l.foldl (stepS lim (srch n lim cs) sq x y) (pre.foldl (stepS lim (srch n lim cs) sq x y) st) := fun l => List.foldl_append
      have hfin : L.foldl (stepS lim (srch n lim cs) sq x y) st = post.foldl (stepS lim (srch n lim cs) sq x y) (pre.foldl (stepS lim (srch n lim cs) sq x y) st) := by rw [hq]; exact hfold post
      rw [hfin]
      generalize pre.foldl (stepS lim (srch n lim cs) sq x y) st = s at *
      obtain ⟨l2, sp2, ct2, fi2⟩ := s
      have e1 : hpF H n lim bud sq ⟨l2, sp2, ct2, fi2⟩ fl = H ++ (sqB n 1 H.length sq ++ ⟨0, tyF, 1, [.nm H.length n 0 n, fAV n H.length fi2, I ct2, I lim, I bud, I ((bud - l2 : Nat) : Int), Bv fl]⟩ :: fB n H.length fi2) := rfl
      simp only at hlf hrel
      have hc2 := hgd2.1
      simp only at hc2
      simp (config := { maxSteps := 1000000 }) (disch := (first | omega | (simp only [go_sem]; try omega))) only [go_sem, Nat.reduceAdd, Nat.reduceEqDiff, Nat.reduceLeDiff, Nat.reduceMul, Nat.reduceLT, reduceIte, Int.reduceToNat, w64_id, cast_succ]
      rw [e1]
      repeat (first | (with_reducible first | refine SW.seq ?_ | refine SW.block ?_ | refine SW.rowC ?_ | refine SW.skip ?_ | refine SW.exit ?_ | intro _ | refine And.intro (by omega) ?_) | simp (config := { maxSteps := 1000000 }) (disch := (first | omega | (simp only [go_sem]; try omega))) only [go_sem, Nat.reduceAdd, Nat.reduceEqDiff, Nat.reduceLeDiff, Nat.reduceMul, Nat.reduceLT, reduceIte, Int.reduceToNat, w64_id, cast_succ])
      (first | refine SW.condD rfl (fun h => ?_) (fun h => ?_) | refine SW.condN rfl (fun h => ?_) (fun h => ?_) | refine SW.condNB rfl (fun h => ?_) (fun h => ?_) | refine SW.condB rfl (fun h => ?_) (fun h => ?_))
      · obtain ⟨v, post, rfl, hgv, -⟩ := consOf (d := 0) hq (by omega)
        have hv := hcm v (by rw [hq]; simp)
        have stop : (ct2 = lim ∨ sp2 = true) → (v :: post).foldl (stepS lim (srch n lim cs) sq x y) ⟨l2, sp2, ct2, fi2⟩ = ⟨l2, sp2, ct2, fi2⟩ := fun h => fold_stop _ h
        by_cases hst : ct2 = lim ∨ sp2 = true
        · have stop' := stop hst
          rw [stop']
          have hfc : fl = true ∨ ct2 = lim := by
            rcases hrel with h | h
            · rcases hst with h2 | h2
              · exact .inr h2
              · exact .inl (by rw [h, h2])
            · exact .inr h
          by_cases hl0 : l2 = 0
          · subst hl0
            repeat (first | (with_reducible first | refine SW.seq ?_ | refine SW.block ?_ | refine SW.rowC ?_ | refine SW.skip ?_ | refine SW.exit ?_ | intro _ | refine And.intro (by omega) ?_) | simp (config := { maxSteps := 1000000 }) (disch := (first | omega | (simp only [go_sem]; try omega))) only [go_sem, Nat.reduceAdd, Nat.reduceEqDiff, Nat.reduceLeDiff, Nat.reduceMul, Nat.reduceLT, reduceIte, Int.reduceToNat, w64_id, cast_succ, hg1, hs1, Nat.sub_zero])
            refine SW.condT rfl ?_
            repeat (first | (with_reducible first | refine SW.seq ?_ | refine SW.block ?_ | refine SW.rowC ?_ | refine SW.skip ?_ | refine SW.exit ?_ | intro _ | refine And.intro (by omega) ?_) | simp (config := { maxSteps := 1000000 }) (disch := (first | omega | (simp only [go_sem]; try omega))) only [go_sem, Nat.reduceAdd, Nat.reduceEqDiff, Nat.reduceLeDiff, Nat.reduceMul, Nat.reduceLT, reduceIte, Int.reduceToNat, w64_id, cast_succ, hg1, hs1])
            refine SW.condT rfl ?_
            refine SW.ret ?_
            refine ⟨_, rfl, GR.of ⟨true, rfl, ?_⟩⟩
            rcases hst with h | h
            · exact .inr h
            · exact .inl h.symm
          · have hnI : ¬ ((bud - l2 : Nat) : Int) = bud := by omega
            repeat (first | (with_reducible first | refine SW.seq ?_ | refine SW.block ?_ | refine SW.rowC ?_ | refine SW.skip ?_ | refine SW.exit ?_ | intro _ | refine And.intro (by omega) ?_) | simp (config := { maxSteps := 1000000 }) (disch := (first | omega | (simp only [go_sem]; try omega))) only [go_sem, Nat.reduceAdd, Nat.reduceEqDiff, Nat.reduceLeDiff, Nat.reduceMul, Nat.reduceLT, reduceIte, Int.reduceToNat, w64_id, cast_succ, hg1, hs1, hnI])
            refine SW.condF rfl ?_
            cases fl with
            | true =>
              repeat (first | (with_reducible first | refine SW.seq ?_ | refine SW.block ?_ | refine SW.rowC ?_ | refine SW.skip ?_ | refine SW.exit ?_ | intro _ | refine And.intro (by omega) ?_) | simp (config := { maxSteps := 1000000 }) (disch := (first | omega | (simp only [go_sem]; try omega))) only [go_sem, Nat.reduceAdd, Nat.reduceEqDiff, Nat.reduceLeDiff, Nat.reduceMul, Nat.reduceLT, reduceIte, Int.reduceToNat, w64_id, cast_succ, hg1, hs1])
              refine SW.condT rfl ?_
              refine SW.ret ?_
              exact ⟨_, rfl, GR.of ⟨true, rfl, hrel⟩⟩
            | false =>
              have hcl2 : ct2 = lim := by
                rcases hfc with h | h
                · cases h
                · exact h
              have hclI : (ct2 : Int) = lim := by rw [hcl2]
              repeat (first | (with_reducible first | refine SW.seq ?_ | refine SW.block ?_ | refine SW.rowC ?_ | refine SW.skip ?_ | refine SW.exit ?_ | intro _ | refine And.intro (by omega) ?_) | simp (config := { maxSteps := 1000000 }) (disch := (first | omega | (simp only [go_sem]; try omega))) only [go_sem, Nat.reduceAdd, Nat.reduceEqDiff, Nat.reduceLeDiff, Nat.reduceMul, Nat.reduceLT, reduceIte, Int.reduceToNat, w64_id, cast_succ, hg1, hs1, hclI])
              refine SW.condT rfl ?_
              refine SW.ret ?_
              refine ⟨_, rfl, GR.of ⟨false, ?_, hrel⟩⟩
              rw [hcl2]; rfl
        · have hcl2 : ct2 ≠ lim := fun h => hst (.inl h)
          have hsp2 : sp2 = false := by
            cases sp2 with
            | false => rfl
            | true => exact absurd (.inr rfl) hst
          subst hsp2
          have hfl : fl = false := by
            rcases hrel with h | h
            · exact h
            · exact absurd h hcl2
          subst hfl
          have hclI : ¬ (ct2 : Int) = lim := by omega
          clear stop
          by_cases hl0 : l2 = 0
          · subst hl0
            have hs : stepS lim (srch n lim cs) sq x y ⟨0, false, ct2, fi2⟩ v = ⟨0, true, ct2, fi2⟩ := by
              unfold stepS; rw [if_neg (by simp [hcl2]), if_pos rfl]
            rw [List.foldl_cons, hs, fold_stop _ (.inr rfl)]
            repeat (first | (with_reducible first | refine SW.seq ?_ | refine SW.block ?_ | refine SW.rowC ?_ | refine SW.skip ?_ | refine SW.exit ?_ | intro _ | refine And.intro (by omega) ?_) | simp (config := { maxSteps := 1000000 }) (disch := (first | omega | (simp only [go_sem]; try omega))) only [go_sem, Nat.reduceAdd, Nat.reduceEqDiff, Nat.reduceLeDiff, Nat.reduceMul, Nat.reduceLT, reduceIte, Int.reduceToNat, w64_id, cast_succ, hg1, hs1, Nat.sub_zero])
            refine SW.condT rfl ?_
            repeat (first | (with_reducible first | refine SW.seq ?_ | refine SW.block ?_ | refine SW.rowC ?_ | refine SW.skip ?_ | refine SW.exit ?_ | intro _ | refine And.intro (by omega) ?_) | simp (config := { maxSteps := 1000000 }) (disch := (first | omega | (simp only [go_sem]; try omega))) only [go_sem, Nat.reduceAdd, Nat.reduceEqDiff, Nat.reduceLeDiff, Nat.reduceMul, Nat.reduceLT, reduceIte, Int.reduceToNat, w64_id, cast_succ, hg1, hs1])
            refine SW.condT rfl ?_
            refine SW.ret ?_
            exact ⟨_, rfl, GR.of ⟨true, rfl, .inl rfl⟩⟩
          · have hnI : ¬ ((bud - l2 : Nat) : Int) = bud := by omega
            have hn1 : ((bud - l2 : Nat) : Int) + 1 = ((bud - (l2 - 1) : Nat) : Int) := by omega
            have hnb : bud - (l2 - 1) ≤ 1000000 := by omega
            have t4 := fun ext => qset (H := H) (ext := ext) (y := y) hsq.1 hx v
            have hnb2 : bud - l2 ≤ 1000000 := by omega
            repeat (first | (with_reducible first | refine SW.seq ?_ | refine SW.block ?_ | refine SW.rowC ?_ | refine SW.skip ?_ | refine SW.exit ?_ | intro _ | refine And.intro (by omega) ?_) | simp (config := { maxSteps := 1000000 }) (disch := (first | omega | (simp only [go_sem]; try omega))) only [go_sem, Nat.reduceAdd, Nat.reduceEqDiff, Nat.reduceLeDiff, Nat.reduceMul, Nat.reduceLT, reduceIte, Int.reduceToNat, w64_id, cast_succ, hg1, hs1, hnI])
            refine SW.condF rfl ?_
            repeat (first | (with_reducible first | refine SW.seq ?_ | refine SW.block ?_ | refine SW.rowC ?_ | refine SW.skip ?_ | refine SW.exit ?_ | intro _ | refine And.intro (by omega) ?_) | simp (config := { maxSteps := 1000000 }) (disch := (first | omega | (simp only [go_sem]; try omega))) only [go_sem, Nat.reduceAdd, Nat.reduceEqDiff, Nat.reduceLeDiff, Nat.reduceMul, Nat.reduceLT, reduceIte, Int.reduceToNat, w64_id, cast_succ, hg1, hs1, hclI])
            refine SW.condF rfl ?_
            have hstep : stepS lim (srch n lim cs) sq x y ⟨l2, false, ct2, fi2⟩ v = srch n lim cs (setC sq x y v) ⟨l2 - 1, false, ct2, fi2⟩ := by
              unfold stepS; rw [if_neg (by simp [hcl2]), if_neg hl0]
            have hf1 := hfold [v]
            rw [List.foldl_cons, List.foldl_nil, hstep] at hf1
            rw [List.foldl_cons, hstep]
            have hl3 := left_srch n lim cs (setC sq x y v) ⟨l2 - 1, false, ct2, fi2⟩
            have hsq2 := setC_ok (v := v) (x := x) (y := y) hsq
            have hge2 := geM_set (v := v) hge hsq hx hy hv.1
            have hgood2 : Good lim ⟨l2 - 1, false, ct2, fi2⟩ := by
              refine ⟨hgd2.1, ?_, hgd2.2.2⟩
              intro h; cases h
            have hih := ih2 (setC sq x y v) ⟨l2 - 1, false, ct2, fi2⟩ (hset2 v) hsq2 hge2 hgood2 hfo2 (by show ct2 < lim; omega) rfl (by show l2 - 1 ≤ bud; omega)
            repeat (first | (with_reducible first | refine SW.seq ?_ | refine SW.block ?_ | refine SW.rowC ?_ | refine SW.skip ?_ | refine SW.exit ?_ | intro _ | refine And.intro (by omega) ?_) | simp (config := { maxSteps := 1000000 }) (disch := (first | omega | (simp only [go_sem]; try omega))) only [go_sem, Nat.reduceAdd, Nat.reduceEqDiff, Nat.reduceLeDiff, Nat.reduceMul, Nat.reduceLT, reduceIte, Int.reduceToNat, w64_id, cast_succ, hg1, hs1, hn1, hQ, t0, t1, hcr, hrr, hrl, htk, t4, hd1, hd2, hn0, hw1, hgv])
            refine hih.mono ?_
            rintro r H1 ⟨fl3, rfl, hrel3⟩
            generalize srch n lim cs (setC sq x y v) ⟨l2 - 1, false, ct2, fi2⟩ = s3 at *
            obtain ⟨l3, sp3, ct3, fi3⟩ := s3
            have e3 : hpF H n lim bud (setC sq x y v) ⟨l3, sp3, ct3, fi3⟩ fl3 = H ++ (sqB n 1 H.length (setC sq x y v) ++ ⟨0, tyF, 1, [.nm H.length n 0 n, fAV n H.length fi3, I ct3, I lim, I bud, I ((bud - l3 : Nat) : Int), Bv fl3]⟩ :: fB n H.length fi3) := rfl
            rw [e3]
            have hback := setC_back (sq := sq) (x := x) (y := y) (v := v) (by omega) (by omega) hemp
            have hQ2 := sqB_length n 1 H.length (setC sq x y v)
            rw [hsq2.1] at hQ2
            clear hset2 hfold
            generalize setC sq x y v = sq2 at *
            have hg2 := fun (b : Blk) (r : List Blk) => getAt hQ2 b r
            have hs2 := fun (b c : Blk) (r : List Blk) => setAt hQ2 b c r
            have hrowl2 : (sq2.getD x []).length = n := hsq2.2 _ (by rw [getD_get (by omega)]; exact List.getElem_mem _)
            have htk2 : ((sq2.getD x []).map I).take n = (sq2.getD x []).map I := List.take_of_length_le (by simp only [List.length_map]; omega)
            have u0 := fun ext => q0 (H := H) (n := n) (sq := sq2) (ext := ext)
            have u1 := qtake (H := H) hsq2.1
            have u2 := qcell (H := H) hsq2 hx
            have u3 := fun ext => qrow (H := H) (ext := ext) hsq2.1 hx
            have u4 := fun ext => qset (H := H) (ext := ext) (y := y) hsq2.1 hx (-1)
            rw [hback] at u4
            repeat (first | (with_reducible first | refine SW.seq ?_ | refine SW.block ?_ | refine SW.rowC ?_ | refine SW.skip ?_ | refine SW.exit ?_ | intro _ | refine And.intro (by omega) ?_) | simp (config := { maxSteps := 1000000 }) (disch := (first | omega | (simp only [go_sem]; try omega))) only [go_sem, Nat.reduceAdd, Nat.reduceEqDiff, Nat.reduceLeDiff, Nat.reduceMul, Nat.reduceLT, reduceIte, Int.reduceToNat, w64_id, cast_succ, hg2, hs2, hQ2, u0, u1, u2, u3, htk2, hrowl2, u4, hd1, hd2, hn0, hw1])
            refine SLoop.next post.length (by simp) ⟨pre ++ [v], post, fl3, by simp [hq], rfl, ?_, ?_, ?_, ?_⟩
            · simp [go_sem]
            · rw [hf1]; rfl
            · rw [hf1]; show l3 ≤ bud
              have : l3 ≤ l2 - 1 := hl3
              omega
            · rw [hf1]; exact hrel3
      · have hlt : ¬ pre.length < L.length := by omega
        obtain ⟨rfl, rfl⟩ := nilOf hq hlt
        repeat (first | (with_reducible first | refine SW.seq ?_ | refine SW.block ?_ | refine SW.rowC ?_ | refine SW.skip ?_ | refine SW.exit ?_ | intro _ | refine And.intro (by omega) ?_) | simp (config := { maxSteps := 1000000 }) (disch := (first | omega | (simp only [go_sem]; try omega))) only [go_sem, Nat.reduceAdd, Nat.reduceEqDiff, Nat.reduceLeDiff, Nat.reduceMul, Nat.reduceLT, reduceIte, Int.reduceToNat, w64_id, cast_succ])
        exact ⟨_, rfl, GR.of ⟨fl, rfl, hrel⟩⟩
end Go.Proofs.Ytchehdplcbffmaa
