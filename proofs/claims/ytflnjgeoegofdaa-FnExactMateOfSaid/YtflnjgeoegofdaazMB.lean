/- Mates: the program's search. -/
import Derived.Test.YtflnjgeoegofdaaProg
import Derived.KernelRfl
import Derived.Test.YtflnjgeoegofdaazMA
set_option linter.unusedSimpArgs false
set_option linter.unusedVariables false
set_option maxHeartbeats 4000000
set_option maxRecDepth 100000
namespace Go.Proofs.Ytflnjgeoegofdaa
open Go.Av
abbrev f_impl_mates_search : Nat := 23
def c_impl_mates_search : SC :=
 .seq (.reg [
     ⟨(some 6), .mv (.const (.bool false)), none⟩] [0, 1, 2])
 (.seq (.reg [
     ⟨(some 9), .mv (.tmp 0), none⟩,
     ⟨(some 10), .nilc (.tmp 9), none⟩,
     ⟨(some 11), .faddr 2 (.tmp 10), none⟩,
     ⟨(some 12), .load 1 false (.tmp 11), none⟩,
     ⟨(some 13), .call 19 [(.tmp 12)], none⟩,
     ⟨(some 7), .mv (.tmp 13), none⟩] [0, 1, 2, 7])
 (.seq (.seq (.reg [
     ⟨(some 14), .mv (.tmp 2), none⟩,
     ⟨(some 15), .mv (.tmp 7), none⟩,
     ⟨(some 16), .bin .eql (.tmp 14) (.tmp 15), none⟩] [0, 1, 2, 7, 16])
 (.cond (.tmp 16)
  (.reg [
      ⟨(some 17), .mv (.tmp 1), none⟩,
      ⟨(some 18), .bin .add (.tmp 17) (.const (.int .i64 1)), none⟩,
      ⟨(some 1), .mv (.tmp 18), none⟩,
      ⟨(some 2), .mv (.const (.int .i64 1)), none⟩] [0, 1, 2, 7])
  (.skip)))
 (.seq (.seq (.reg [
     ⟨(some 19), .mv (.tmp 1), none⟩,
     ⟨(some 20), .mv (.tmp 7), none⟩,
     ⟨(some 21), .bin .eql (.tmp 19) (.tmp 20), none⟩,
     ⟨(some 22), .mv (.tmp 21), none⟩,
     ⟨(some 23), .mv (.tmp 7), (some (22, false))⟩,
     ⟨(some 24), .bin .eql (.tmp 23) (.const (.int .i64 1)), (some (22, false))⟩,
     ⟨(some 25), .pick (.tmp 22) (.const (.bool true)) (.tmp 24), none⟩] [0, 1, 2, 7, 25])
 (.cond (.tmp 25)
  (.seq (.reg [
      ⟨(some 6), .mv (.const (.bool true)), none⟩] [6])
  (.ret))
  (.skip)))
 (.seq (.seq (.reg [
     ⟨(some 8), .mv (.const (.int .i64 0)), none⟩] [0, 1, 2, 7, 8])
 (.block 0 (.loop [0, 1, 2, 7, 8]
   (.seq (.seq (.reg [
       ⟨(some 26), .mv (.tmp 8), none⟩,
       ⟨(some 27), .mv (.tmp 7), none⟩,
       ⟨(some 28), .bin .lss (.tmp 26) (.tmp 27), none⟩] [0, 1, 2, 7, 8, 28])
   (.cond (.tmp 28)
    (.skip)
    (.exit 0)))
   (.seq (.block 1 (.seq (.seq (.reg [
        ⟨(some 31), .mv (.tmp 0), none⟩,
        ⟨(some 32), .nilc (.tmp 31), none⟩,
        ⟨(some 33), .faddr 4 (.tmp 32), none⟩,
        ⟨(some 34), .load 1 false (.tmp 33), none⟩,
        ⟨(some 35), .mv (.tmp 1), none⟩,
        ⟨(some 36), .iaddr 1 (.tmp 34) (.tmp 35), none⟩,
        ⟨(some 37), .load 1 false (.tmp 36), none⟩,
        ⟨(some 38), .mv (.tmp 8), none⟩,
        ⟨(some 39), .iaddr 1 (.tmp 37) (.tmp 38), none⟩,
        ⟨(some 40), .load 1 false (.tmp 39), none⟩,
        ⟨(some 41), .mv (.tmp 40), none⟩,
        ⟨(some 42), .mv (.tmp 0), (some (41, false))⟩,
        ⟨(some 43), .nilc (.tmp 42), (some (41, false))⟩,
        ⟨(some 44), .faddr 5 (.tmp 43), (some (41, false))⟩,
        ⟨(some 45), .load 1 false (.tmp 44), (some (41, false))⟩,
        ⟨(some 46), .mv (.tmp 1), (some (41, false))⟩,
        ⟨(some 47), .iaddr 1 (.tmp 45) (.tmp 46), (some (41, false))⟩,
        ⟨(some 48), .load 1 false (.tmp 47), (some (41, false))⟩,
        ⟨(some 49), .mv (.tmp 0), (some (41, false))⟩,
        ⟨(some 50), .nilc (.tmp 49), (some (41, false))⟩,
        ⟨(some 51), .faddr 2 (.tmp 50), (some (41, false))⟩,
        ⟨(some 52), .load 1 false (.tmp 51), (some (41, false))⟩,
        ⟨(some 53), .mv (.tmp 2), (some (41, false))⟩,
        ⟨(some 54), .iaddr 1 (.tmp 52) (.tmp 53), (some (41, false))⟩,
        ⟨(some 55), .load 1 false (.tmp 54), (some (41, false))⟩,
        ⟨(some 56), .mv (.tmp 8), (some (41, false))⟩,
        ⟨(some 57), .iaddr 1 (.tmp 55) (.tmp 56), (some (41, false))⟩,
        ⟨(some 58), .load 1 false (.tmp 57), (some (41, false))⟩,
        ⟨(some 59), .iaddr 1 (.tmp 48) (.tmp 58), (some (41, false))⟩,
        ⟨(some 60), .load 1 false (.tmp 59), (some (41, false))⟩,
        ⟨(some 61), .pick (.tmp 41) (.const (.bool true)) (.tmp 60), none⟩,
        ⟨(some 62), .mv (.tmp 61), none⟩,
        ⟨(some 63), .mv (.tmp 0), (some (62, false))⟩,
        ⟨(some 64), .nilc (.tmp 63), (some (62, false))⟩,
        ⟨(some 65), .faddr 3 (.tmp 64), (some (62, false))⟩,
        ⟨(some 66), .load 1 false (.tmp 65), (some (62, false))⟩,
        ⟨(some 67), .mv (.tmp 2), (some (62, false))⟩,
        ⟨(some 68), .iaddr 1 (.tmp 66) (.tmp 67), (some (62, false))⟩,
        ⟨(some 69), .load 1 false (.tmp 68), (some (62, false))⟩,
        ⟨(some 70), .mv (.tmp 8), (some (62, false))⟩,
        ⟨(some 71), .iaddr 1 (.tmp 69) (.tmp 70), (some (62, false))⟩,
        ⟨(some 72), .load 1 false (.tmp 71), (some (62, false))⟩,
        ⟨(some 73), .bin .geq (.tmp 72) (.const (.int .i64 0)), (some (62, false))⟩,
        ⟨(some 74), .pick (.tmp 62) (.const (.bool true)) (.tmp 73), none⟩] [0, 1, 2, 7, 8, 74])
    (.cond (.tmp 74)
     (.exit 1)
     (.skip)))
    (.seq (.seq (.reg [
        ⟨(some 75), .mv (.tmp 0), none⟩,
        ⟨(some 76), .nilc (.tmp 75), none⟩,
        ⟨(some 77), .faddr 0 (.tmp 76), none⟩,
        ⟨(some 78), .faddr 1 (.tmp 77), none⟩,
        ⟨(some 79), .load 1 false (.tmp 78), none⟩,
        ⟨(some 80), .mv (.tmp 79), none⟩,
        ⟨(some 81), .mv (.tmp 0), (some (80, false))⟩,
        ⟨(some 82), .nilc (.tmp 81), (some (80, false))⟩,
        ⟨(some 83), .faddr 0 (.tmp 82), (some (80, false))⟩,
        ⟨(some 84), .call 33 [(.tmp 83)], (some (80, false))⟩,
        ⟨(some 85), .un .not (.tmp 84), (some (80, false))⟩,
        ⟨(some 86), .pick (.tmp 80) (.const (.bool true)) (.tmp 85), none⟩] [0, 1, 2, 7, 8, 86])
    (.cond (.tmp 86)
     (.seq (.reg [
         ⟨(some 6), .mv (.const (.bool false)), none⟩] [6])
     (.ret))
     (.skip)))
    (.seq (.reg [
        ⟨(some 87), .mv (.tmp 0), none⟩,
        ⟨(some 88), .mv (.tmp 1), none⟩,
        ⟨(some 89), .mv (.tmp 2), none⟩,
        ⟨(some 90), .mv (.tmp 8), none⟩,
        ⟨(some 91), .call 22 [(.tmp 87), (.tmp 88), (.tmp 89), (.tmp 90), (.const (.bool true))], none⟩] [0, 1, 2, 7, 8])
    (.seq (.seq (.reg [
        ⟨(some 92), .mv (.tmp 0), none⟩,
        ⟨(some 93), .mv (.tmp 1), none⟩,
        ⟨(some 94), .mv (.tmp 2), none⟩,
        ⟨(some 95), .bin .add (.tmp 94) (.const (.int .i64 1)), none⟩,
        ⟨(some 96), .call 23 [(.tmp 92), (.tmp 93), (.tmp 95)], none⟩] [0, 1, 2, 7, 8, 96])
    (.cond (.tmp 96)
     (.seq (.reg [
         ⟨(some 6), .mv (.const (.bool true)), none⟩] [6])
     (.ret))
     (.skip)))
    (.reg [
        ⟨(some 97), .mv (.tmp 0), none⟩,
        ⟨(some 98), .mv (.tmp 1), none⟩,
        ⟨(some 99), .mv (.tmp 2), none⟩,
        ⟨(some 100), .mv (.tmp 8), none⟩,
        ⟨(some 101), .call 22 [(.tmp 97), (.tmp 98), (.tmp 99), (.tmp 100), (.const (.bool false))], none⟩] [0, 1, 2, 7, 8]))))))
   (.reg [
       ⟨(some 29), .mv (.tmp 8), none⟩,
       ⟨(some 30), .bin .add (.tmp 29) (.const (.int .i64 1)), none⟩,
       ⟨(some 8), .mv (.tmp 30), none⟩] [0, 1, 2, 7, 8]))))))
 (.seq (.reg [
     ⟨(some 6), .mv (.const (.bool false)), none⟩] [6])
 (.ret))))))
theorem s_impl_mates_search : stripF Try.prog 23 [[0, 1, 2], [0, 1, 2, 7], [0, 1, 2, 7, 16], [0, 1, 2, 7], [0, 1, 2, 7, 25], [6], [0, 1, 2, 7, 8], [0, 1, 2, 7, 8], [0, 1, 2, 7, 8, 28], [0, 1, 2, 7, 8, 74], [0, 1, 2, 7, 8, 86], [6], [0, 1, 2, 7, 8], [0, 1, 2, 7, 8, 96], [6], [0, 1, 2, 7, 8], [0, 1, 2, 7, 8], [6]] = some (c_impl_mates_search, [.tmp 6], 102) := by kernel_rfl
theorem maSearch_ok (a : List (List Int)) (n : Nat) (h2 : 2 ≤ n) (h10 : n ≤ 10) (ha : a.length = n ∧ ∀ r ∈ a, r.length = n) (hcell : ∀ x y, x < n → y < n → ∃ s : Nat, cellAt a x y = s ∧ s < n) :
    ∀ (r : Nat) (H : List Blk) (N : MaN) (b : List (List Int)) (k x : Nat) (st : MS), MaH H N n a b (colsM b n) (symsM a b n) st.left st.spent → BOk b n k x → 1 ≤ x → x ≤ n → k ≤ n → k * (n - 1) + (x - 1) + r = n * (n - 1) → st.res = none → st.spent = false → st.left ≤ 20000 →
    ACalls Try.prog f_impl_mates_search [.pc N.p 0 0, I k, I x] H (fun v H' => v = Bv (matR a n r b st).res.isSome ∧ MaH H' N n a ((matR a n r b st).res.getD b) (colsM ((matR a n r b st).res.getD b) n) (symsM a ((matR a n r b st).res.getD b) n) (matR a n r b st).left (matR a n r b st).spent ∧ H'.length = H.length ∧ ∀ j, j ∉ N.foot → H'[j]? = H[j]?) := by
  intro r
  induction r using Nat.strongRecOn with
  | ind r ih =>
  intro H N b k x st hM hb hx1 hxn hkn hpos hres hsp hl
  have hpa := fun o => pc_alive (off := o) hM.box
  have hpl := fun o => pc_ld (off := o) hM.box
  have hla := ha.1
  refine ACalls.introB s_impl_mates_search (by simp) ?_; intro hB hA; unfold c_impl_mates_search; simp (config := { maxSteps := 1000000 }) (disch := (first | omega | (simp only [go_sem]; try omega))) only [go_sem, Nat.reduceAdd, Nat.reduceEqDiff, Nat.reduceLeDiff, Nat.reduceMul, Nat.reduceLT, reduceIte, Int.reduceToNat, w64_id, cast_succ]
  repeat (first | (with_reducible first | refine SW.seq ?_ | refine SW.block ?_ | refine SW.rowC ?_ | refine SW.skip ?_ | refine SW.exit ?_ | intro _ | refine And.intro (by omega) ?_) | simp (config := { maxSteps := 1000000 }) (disch := (first | omega | (simp only [go_sem]; try omega))) only [go_sem, Nat.reduceAdd, Nat.reduceEqDiff, Nat.reduceLeDiff, Nat.reduceMul, Nat.reduceLT, reduceIte, Int.reduceToNat, w64_id, cast_succ, hpa, hpl, hla])
  refine ((sizeS_fn a) H).mono ?_
  rintro v H ⟨rfl, rfl⟩
  rw [hla]
  simp (config := { maxSteps := 1000000 }) (disch := (first | omega | (simp only [go_sem]; try omega))) only [go_sem, Nat.reduceAdd, Nat.reduceEqDiff, Nat.reduceLeDiff, Nat.reduceMul, Nat.reduceLT, reduceIte, Int.reduceToNat, w64_id, cast_succ]
  refine SW.seqM (fun E' H' => ∃ k' x' : Nat, 1 ≤ x' ∧ x' < n ∧ k' ≤ n ∧ k' * (n - 1) + (x' - 1) + r = n * (n - 1) ∧ BOk b n k' x' ∧ aget E' 0 = .pc N.p 0 0 ∧ aget E' 1 = I k' ∧ aget E' 2 = I x' ∧ aget E' 7 = I n ∧ H' = H) ?_ ?_
  · repeat (first | (with_reducible first | refine SW.seq ?_ | refine SW.block ?_ | refine SW.rowC ?_ | refine SW.skip ?_ | refine SW.exit ?_ | intro _ | refine And.intro (by omega) ?_) | simp (config := { maxSteps := 1000000 }) (disch := (first | omega | (simp only [go_sem]; try omega))) only [go_sem, Nat.reduceAdd, Nat.reduceEqDiff, Nat.reduceLeDiff, Nat.reduceMul, Nat.reduceLT, reduceIte, Int.reduceToNat, w64_id, cast_succ])
    (first | refine SW.condD rfl (fun h => ?_) (fun h => ?_) | refine SW.condN rfl (fun h => ?_) (fun h => ?_) | refine SW.condNB rfl (fun h => ?_) (fun h => ?_) | refine SW.condB rfl (fun h => ?_) (fun h => ?_))
    · have hxe : x = n := by omega
      subst hxe
      repeat (first | (with_reducible first | refine SW.seq ?_ | refine SW.block ?_ | refine SW.rowC ?_ | refine SW.skip ?_ | refine SW.exit ?_ | intro _ | refine And.intro (by omega) ?_) | simp (config := { maxSteps := 1000000 }) (disch := (first | omega | (simp only [go_sem]; try omega))) only [go_sem, Nat.reduceAdd, Nat.reduceEqDiff, Nat.reduceLeDiff, Nat.reduceMul, Nat.reduceLT, reduceIte, Int.reduceToNat, w64_id, cast_succ])
      have hm : (k + 1) * (x - 1) = k * (x - 1) + (x - 1) := by rw [Nat.add_mul, Nat.one_mul]
      have hk1 : k + 1 ≤ x := Nat.le_of_mul_le_mul_right (c := x - 1) (by omega) (by omega)
      exact ⟨k + 1, 1, Nat.le_refl _, by omega, hk1, by omega, hb.next, rfl, rfl⟩
    · repeat (first | (with_reducible first | refine SW.seq ?_ | refine SW.block ?_ | refine SW.rowC ?_ | refine SW.skip ?_ | refine SW.exit ?_ | intro _ | refine And.intro (by omega) ?_) | simp (config := { maxSteps := 1000000 }) (disch := (first | omega | (simp only [go_sem]; try omega))) only [go_sem, Nat.reduceAdd, Nat.reduceEqDiff, Nat.reduceLeDiff, Nat.reduceMul, Nat.reduceLT, reduceIte, Int.reduceToNat, w64_id, cast_succ])
      exact ⟨k, x, hx1, by omega, hkn, hpos, hb, rfl, rfl⟩
  · clear hb hx1 hxn hkn hpos
    rintro E1 H1 ⟨k, x, hx1, hxn, hkn, hpos, hb, e0, e1, e2, e7, rfl⟩
    have d1 : decide ((n : Int) = 1) = false := decide_eq_false (by omega)
    cases r with
    | zero =>
      have hke : k = n := by
        have h1 : n * (n - 1) < (k + 1) * (n - 1) := by rw [Nat.add_mul, Nat.one_mul]; omega
        have := Nat.lt_of_mul_lt_mul_right h1
        omega
      subst hke
      repeat (first | (with_reducible first | refine SW.seq ?_ | refine SW.block ?_ | refine SW.rowC ?_ | refine SW.skip ?_ | refine SW.exit ?_ | intro _ | refine And.intro (by omega) ?_) | simp (config := { maxSteps := 1000000 }) (disch := (first | omega | (simp only [go_sem]; try omega))) only [go_sem, Nat.reduceAdd, Nat.reduceEqDiff, Nat.reduceLeDiff, Nat.reduceMul, Nat.reduceLT, reduceIte, Int.reduceToNat, w64_id, cast_succ, e0, e1, e2, e7, d1])
      refine SW.condT rfl ?_
      repeat (first | (with_reducible first | refine SW.seq ?_ | refine SW.block ?_ | refine SW.rowC ?_ | refine SW.skip ?_ | refine SW.exit ?_ | intro _ | refine And.intro (by omega) ?_) | simp (config := { maxSteps := 1000000 }) (disch := (first | omega | (simp only [go_sem]; try omega))) only [go_sem, Nat.reduceAdd, Nat.reduceEqDiff, Nat.reduceLeDiff, Nat.reduceMul, Nat.reduceLT, reduceIte, Int.reduceToNat, w64_id, cast_succ])
      refine SW.ret ?_; (try simp only [go_sem]); (first | refine FunPost.one ?_ | refine FunPost.two ?_ | refine FunPost.three ?_); (try simp (config := { maxSteps := 1000000 }) (disch := (first | omega | (simp only [go_sem]; try omega))) only [go_sem, Nat.reduceAdd, Nat.reduceEqDiff, Nat.reduceLeDiff, Nat.reduceMul, Nat.reduceLT, reduceIte, Int.reduceToNat, w64_id, cast_succ])
      have hm : matR a k 0 b st = { st with res := some b } := rfl
      rw [hm]
      exact GR.of ⟨rfl, hM, rfl, fun _ _ => rfl⟩
    | succ r =>
      have hkl : k < n := by
        have h1 : k * (n - 1) < n * (n - 1) := by omega
        exact Nat.lt_of_mul_lt_mul_right h1
      have d2 : decide ((k : Int) = n) = false := decide_eq_false (by omega)
      repeat (first | (with_reducible first | refine SW.seq ?_ | refine SW.block ?_ | refine SW.rowC ?_ | refine SW.skip ?_ | refine SW.exit ?_ | intro _ | refine And.intro (by omega) ?_) | simp (config := { maxSteps := 1000000 }) (disch := (first | omega | (simp only [go_sem]; try omega))) only [go_sem, Nat.reduceAdd, Nat.reduceEqDiff, Nat.reduceLeDiff, Nat.reduceMul, Nat.reduceLT, reduceIte, Int.reduceToNat, w64_id, cast_succ, e0, e1, e2, e7, d1, d2])
      refine SW.condF rfl ?_
      repeat (first | (with_reducible first | refine SW.seq ?_ | refine SW.block ?_ | refine SW.rowC ?_ | refine SW.skip ?_ | refine SW.exit ?_ | intro _ | refine And.intro (by omega) ?_) | simp (config := { maxSteps := 1000000 }) (disch := (first | omega | (simp only [go_sem]; try omega))) only [go_sem, Nat.reduceAdd, Nat.reduceEqDiff, Nat.reduceLeDiff, Nat.reduceMul, Nat.reduceLT, reduceIte, Int.reduceToNat, w64_id, cast_succ])
      obtain ⟨q1, q2⟩ := posM (n := n) (k := k) (x := x - 1) (r := r) (by omega) (by omega)
      have hfin : matR a n (r + 1) b st = (List.range n).foldl (stepM a n (matR a n r) b k x) st := by
        show (List.range n).foldl (stepM a n (matR a n r) b ((n * (n - 1) - (r + 1)) / (n - 1)) ((n * (n - 1) - (r + 1)) % (n - 1) + 1)) st = _
        rw [q1, q2, Nat.sub_add_cancel hx1]
      rw [hfin]
      refine SW.loopE (fun E0 H0 m E' H' => ∃ (y : Nat), y ≤ n ∧ m = n - y ∧ E' = aput E0 8 (I y) ∧ MaH H' N n a b (colsM b n) (symsM a b n) ((List.range y).foldl (stepM a n (matR a n r) b k x) st).left ((List.range y).foldl (stepM a n (matR a n r) b k x) st).spent ∧ ((List.range y).foldl (stepM a n (matR a n r) b k x) st).res = none ∧ H'.length = H1.length ∧ (∀ j, j ∉ N.foot → H'[j]? = H1[j]?)) n
        ⟨0, by omega, by omega, rfl, hM, hres, rfl, fun _ _ => rfl⟩ ?_
      rintro m E' H2 ⟨y, hy, rfl, rfl, hM2, hres2, hl2, hfr2⟩
      have hsl : ((List.range y).foldl (stepM a n (matR a n r) b k x) st).left ≤ 20000 := foldM_inv (P := fun st => st.left ≤ 20000) (fun _ h => h) (fun b st h _ _ _ => matR_left a n 20000 r b _ (by show st.left - 1 ≤ _; omega)) _ st hl
      have hstop := fold_to (stepM a n (matR a n r) b k x) st y (n - y)
      rw [show y + (n - y) = n by omega] at hstop
      have hnext := fold_succ (stepM a n (matR a n r) b k x) st y
      have hend := fold_to (stepM a n (matR a n r) b k x) st (y + 1) (n - (y + 1))
      generalize hs1 : (List.range y).foldl (stepM a n (matR a n r) b k x) st = s1 at *
      obtain ⟨left1, spent1, res1⟩ := s1
      simp only at hM2 hres2 hsl
      subst hres2
      have hpa2 := fun o => pc_alive (off := o) hM2.box
      have hpl2 := fun o => pc_ld (off := o) hM2.box
      simp (config := { maxSteps := 1000000 }) (disch := (first | omega | (simp only [go_sem]; try omega))) only [go_sem, Nat.reduceAdd, Nat.reduceEqDiff, Nat.reduceLeDiff, Nat.reduceMul, Nat.reduceLT, reduceIte, Int.reduceToNat, w64_id, cast_succ]
      repeat (first | (with_reducible first | refine SW.seq ?_ | refine SW.block ?_ | refine SW.rowC ?_ | refine SW.skip ?_ | refine SW.exit ?_ | intro _ | refine And.intro (by omega) ?_) | simp (config := { maxSteps := 1000000 }) (disch := (first | omega | (simp only [go_sem]; try omega))) only [go_sem, Nat.reduceAdd, Nat.reduceEqDiff, Nat.reduceLeDiff, Nat.reduceMul, Nat.reduceLT, reduceIte, Int.reduceToNat, w64_id, cast_succ])
      (first | refine SW.condD rfl (fun h3 => ?_) (fun h3 => ?_) | refine SW.condN rfl (fun h3 => ?_) (fun h3 => ?_) | refine SW.condNB rfl (fun h3 => ?_) (fun h3 => ?_) | refine SW.condB rfl (fun h3 => ?_) (fun h3 => ?_))
      · have hyn : y < n := by omega
        rw [show y + 1 + (n - (y + 1)) = n by omega, hnext] at hend
        obtain ⟨s, hs2, hsn⟩ := hcell x y (by omega) hyn
        obtain ⟨rc, hrc⟩ := hM2.gc.get hkl
        obtain ⟨rs, hrs⟩ := hM2.gs.get hkl
        obtain ⟨rb, hrb⟩ := hM2.gb.get (show x < n by omega)
        have v1 := hM2.gc.view
        have v2 := hM2.gs.view
        have v3 := hM2.gb.view
        have c1 := GrV.cell (rv := N.wc) (n := n) hrc
        have c2 := GrV.cell (rv := N.ws) (n := n) hrs
        have c3 := GrV.cell (rv := N.wb) (n := n) hrb
        have r1 := hM2.gc.row hkl hrc
        have r2 := hM2.gs.row hkl hrs
        have r3 := hM2.gb.row (show x < n by omega) hrb
        have hal : (a.getD x []).length = n := ha.2 _ (by rw [getD_get (by omega)]; exact List.getElem_mem _)
        have hcv : (a.getD x []).getD y 0 = (s : Int) := hs2
        have d1 : ((colsM b n).getD k []).map Bv = ((colsM b n).getD k []).map Bv := rfl
        have g1 : (((colsM b n).getD k []).map Bv)[y]? = some (Bv (colM b n k y)) := by rw [List.getElem?_map, show ((colsM b n).getD k [])[y]? = some (colM b n k y) from tabB_get _ hkl hyn]; rfl
        have g2 : (((symsM a b n).getD k []).map Bv)[s]? = some (Bv (symM a b n k s)) := by rw [List.getElem?_map, show ((symsM a b n).getD k [])[s]? = some (symM a b n k s) from tabB_get _ hkl hsn]; rfl
        have hbl : (b.getD x []).length = n := hb.sq.2 _ (by rw [getD_get (by rw [hb.sq.1]; omega)]; exact List.getElem_mem _)
        have g3 : ((b.getD x []).map I)[y]? = some (I (cellAt b x y)) := by rw [List.getElem?_map, List.getElem?_eq_getElem (by omega), ← getD_get (d := 0) (by omega)]; rfl
        have hbk : blkM a b n k x y = ((colM b n k y || symM a b n k s) || decide (0 ≤ cellAt b x y)) := by unfold blkM; rw [hs2, Int.toNat_natCast]
        have skip : blkM a b n k x y = true → stepM a n (matR a n r) b k x ⟨left1, spent1, none⟩ y = ⟨left1, spent1, none⟩ := fun h => by unfold stepM; rw [if_pos h]
        cases hc1 : colM b n k y
        · rw [hc1] at g1
          cases hc2 : symM a b n k s
          · rw [hc2] at g2
            repeat (first | (with_reducible first | refine SW.seq ?_ | refine SW.block ?_ | refine SW.rowC ?_ | refine SW.skip ?_ | refine SW.exit ?_ | intro _ | refine And.intro (by omega) ?_) | simp (config := { maxSteps := 1000000 }) (disch := (first | omega | (simp only [go_sem]; try omega))) only [go_sem, Nat.reduceAdd, Nat.reduceEqDiff, Nat.reduceLeDiff, Nat.reduceMul, Nat.reduceLT, reduceIte, Int.reduceToNat, w64_id, cast_succ, hpa2, hpl2, v1, c1, r1, g1, v2, c2, r2, g2, v3, c3, r3, g3, hal, hcv, hla])
            cases hc3 : decide (0 ≤ cellAt b x y)
            · have hbf : ¬ blkM a b n k x y = true := by rw [hbk, hc1, hc2, hc3]; simp
              refine SW.condF rfl ?_
              cases spent1
              · repeat (first | (with_reducible first | refine SW.seq ?_ | refine SW.block ?_ | refine SW.rowC ?_ | refine SW.skip ?_ | refine SW.exit ?_ | intro _ | refine And.intro (by omega) ?_) | simp (config := { maxSteps := 1000000 }) (disch := (first | omega | (simp only [go_sem]; try omega))) only [go_sem, Nat.reduceAdd, Nat.reduceEqDiff, Nat.reduceLeDiff, Nat.reduceMul, Nat.reduceLT, reduceIte, Int.reduceToNat, w64_id, cast_succ, hpa2, hpl2])
                refine (node_ok H2 N.p _ left1 false _ (by omega) hM2.box).mono ?_
                rintro v H3 (⟨hl0, rfl, rfl⟩ | ⟨hl0, rfl, rfl⟩)
                · have hstep : stepM a n (matR a n r) b k x ⟨left1, false, none⟩ y = ⟨left1, true, none⟩ := by
                    unfold stepM; rw [if_neg hbf, if_neg (by simp), if_pos hl0]
                  rw [hstep] at hend
                  rw [hend (fun z => stepM_stop (.inl rfl) z)]
                  repeat (first | (with_reducible first | refine SW.seq ?_ | refine SW.block ?_ | refine SW.rowC ?_ | refine SW.skip ?_ | refine SW.exit ?_ | intro _ | refine And.intro (by omega) ?_) | simp (config := { maxSteps := 1000000 }) (disch := (first | omega | (simp only [go_sem]; try omega))) only [go_sem, Nat.reduceAdd, Nat.reduceEqDiff, Nat.reduceLeDiff, Nat.reduceMul, Nat.reduceLT, reduceIte, Int.reduceToNat, w64_id, cast_succ])
                  refine SW.condT rfl ?_
                  repeat (first | (with_reducible first | refine SW.seq ?_ | refine SW.block ?_ | refine SW.rowC ?_ | refine SW.skip ?_ | refine SW.exit ?_ | intro _ | refine And.intro (by omega) ?_) | simp (config := { maxSteps := 1000000 }) (disch := (first | omega | (simp only [go_sem]; try omega))) only [go_sem, Nat.reduceAdd, Nat.reduceEqDiff, Nat.reduceLeDiff, Nat.reduceMul, Nat.reduceLT, reduceIte, Int.reduceToNat, w64_id, cast_succ])
                  refine SW.ret ?_; (try simp only [go_sem]); (first | refine FunPost.one ?_ | refine FunPost.two ?_ | refine FunPost.three ?_); (try simp (config := { maxSteps := 1000000 }) (disch := (first | omega | (simp only [go_sem]; try omega))) only [go_sem, Nat.reduceAdd, Nat.reduceEqDiff, Nat.reduceLeDiff, Nat.reduceMul, Nat.reduceLT, reduceIte, Int.reduceToNat, w64_id, cast_succ])
                  refine GR.of ⟨rfl, hM2.putX _ _, by rw [List.length_set]; exact hl2, fun j hj => ?_⟩
                  rw [List.getElem?_set_ne (by rintro rfl; exact hj (by simp [MaN.foot]))]; exact hfr2 j hj
                · repeat (first | (with_reducible first | refine SW.seq ?_ | refine SW.block ?_ | refine SW.rowC ?_ | refine SW.skip ?_ | refine SW.exit ?_ | intro _ | refine And.intro (by omega) ?_) | simp (config := { maxSteps := 1000000 }) (disch := (first | omega | (simp only [go_sem]; try omega))) only [go_sem, Nat.reduceAdd, Nat.reduceEqDiff, Nat.reduceLeDiff, Nat.reduceMul, Nat.reduceLT, reduceIte, Int.reduceToNat, w64_id, cast_succ])
                  refine SW.condF rfl ?_
                  have hM3 := hM2.putX (left1 - 1) false
                  have hl3 : (H2.set N.p ⟨0, tyMa, 1, [I ((left1 - 1 : Nat) : Int), Bv false, ilSS a, .nm N.tb N.vb 0 n, .nm N.tc N.vc 0 n, .nm N.ts N.vs 0 n]⟩).length = H1.length := by rw [List.length_set]; exact hl2
                  have hfr3 : ∀ j, j ∉ N.foot → (H2.set N.p ⟨0, tyMa, 1, [I ((left1 - 1 : Nat) : Int), Bv false, ilSS a, .nm N.tb N.vb 0 n, .nm N.tc N.vc 0 n, .nm N.ts N.vs 0 n]⟩)[j]? = H1[j]? := fun j hj => by
                    rw [List.getElem?_set_ne (by rintro rfl; exact hj (by simp [MaN.foot]))]; exact hfr2 j hj
                  have hstep : stepM a n (matR a n r) b k x ⟨left1, false, none⟩ y = matR a n r (setC b x y (k : Int)) ⟨left1 - 1, false, none⟩ := by
                    unfold stepM; rw [if_neg hbf, if_neg (by simp), if_neg hl0]
                  generalize H2.set N.p ⟨0, tyMa, 1, [I ((left1 - 1 : Nat) : Int), Bv false, ilSS a, .nm N.tb N.vb 0 n, .nm N.tc N.vc 0 n, .nm N.ts N.vs 0 n]⟩ = H3 at *
                  have hcb : cellAt b x y = -1 := by
                    rw [decide_eq_false_iff_not] at hc3
                    rcases hb.low x y hx1 (by omega) hyn with h | h <;> omega
                  repeat (first | (with_reducible first | refine SW.seq ?_ | refine SW.block ?_ | refine SW.rowC ?_ | refine SW.skip ?_ | refine SW.exit ?_ | intro _ | refine And.intro (by omega) ?_) | simp (config := { maxSteps := 1000000 }) (disch := (first | omega | (simp only [go_sem]; try omega))) only [go_sem, Nat.reduceAdd, Nat.reduceEqDiff, Nat.reduceLeDiff, Nat.reduceMul, Nat.reduceLT, reduceIte, Int.reduceToNat, w64_id, cast_succ])
                  refine (maTake_ok H3 N n a b _ _ _ _ hM3 ha k x y s hkl (by omega) hyn hs2 hsn true).mono ?_
                  rintro v H4 ⟨rfl, hM4, hl4, hfr4⟩
                  rw [if_pos rfl, colsM_push hb.sq (by omega) hyn hkl hcb, symsM_push hb.sq (by omega) hyn hkl hsn hcb hs2] at hM4
                  repeat (first | (with_reducible first | refine SW.seq ?_ | refine SW.block ?_ | refine SW.rowC ?_ | refine SW.skip ?_ | refine SW.exit ?_ | intro _ | refine And.intro (by omega) ?_) | simp (config := { maxSteps := 1000000 }) (disch := (first | omega | (simp only [go_sem]; try omega))) only [go_sem, Nat.reduceAdd, Nat.reduceEqDiff, Nat.reduceLeDiff, Nat.reduceMul, Nat.reduceLT, reduceIte, Int.reduceToNat, w64_id, cast_succ])
                  refine (ih r (by omega) H4 N (setC b x y (k : Int)) k (x + 1) ⟨left1 - 1, false, none⟩ hM4 (hb.set hx1 (by omega) hyn) (by omega) (by omega) hkn (by omega) rfl rfl (by show left1 - 1 ≤ 20000; omega)).mono ?_
                  rintro v H5 ⟨rfl, hM5, hl5, hfr5⟩
                  rw [← hstep] at hM5 ⊢
                  generalize hs3 : stepM a n (matR a n r) b k x ⟨left1, false, none⟩ y = s3 at *
                  obtain ⟨left3, spent3, res3⟩ := s3
                  cases res3 with
                  | some b' =>
                    rw [hend (fun z => stepM_stop (.inr rfl) z)]
                    repeat (first | (with_reducible first | refine SW.seq ?_ | refine SW.block ?_ | refine SW.rowC ?_ | refine SW.skip ?_ | refine SW.exit ?_ | intro _ | refine And.intro (by omega) ?_) | simp (config := { maxSteps := 1000000 }) (disch := (first | omega | (simp only [go_sem]; try omega))) only [go_sem, Nat.reduceAdd, Nat.reduceEqDiff, Nat.reduceLeDiff, Nat.reduceMul, Nat.reduceLT, reduceIte, Int.reduceToNat, w64_id, cast_succ])
                    refine SW.condT rfl ?_
                    repeat (first | (with_reducible first | refine SW.seq ?_ | refine SW.block ?_ | refine SW.rowC ?_ | refine SW.skip ?_ | refine SW.exit ?_ | intro _ | refine And.intro (by omega) ?_) | simp (config := { maxSteps := 1000000 }) (disch := (first | omega | (simp only [go_sem]; try omega))) only [go_sem, Nat.reduceAdd, Nat.reduceEqDiff, Nat.reduceLeDiff, Nat.reduceMul, Nat.reduceLT, reduceIte, Int.reduceToNat, w64_id, cast_succ])
                    refine SW.ret ?_; (try simp only [go_sem]); (first | refine FunPost.one ?_ | refine FunPost.two ?_ | refine FunPost.three ?_); (try simp (config := { maxSteps := 1000000 }) (disch := (first | omega | (simp only [go_sem]; try omega))) only [go_sem, Nat.reduceAdd, Nat.reduceEqDiff, Nat.reduceLeDiff, Nat.reduceMul, Nat.reduceLT, reduceIte, Int.reduceToNat, w64_id, cast_succ])
                    exact GR.of ⟨rfl, hM5, by omega, fun j hj => by rw [hfr5 j hj, hfr4 j hj, hfr3 j hj]⟩
                  | none =>
                    repeat (first | (with_reducible first | refine SW.seq ?_ | refine SW.block ?_ | refine SW.rowC ?_ | refine SW.skip ?_ | refine SW.exit ?_ | intro _ | refine And.intro (by omega) ?_) | simp (config := { maxSteps := 1000000 }) (disch := (first | omega | (simp only [go_sem]; try omega))) only [go_sem, Nat.reduceAdd, Nat.reduceEqDiff, Nat.reduceLeDiff, Nat.reduceMul, Nat.reduceLT, reduceIte, Int.reduceToNat, w64_id, cast_succ])
                    refine SW.condF rfl ?_
                    repeat (first | (with_reducible first | refine SW.seq ?_ | refine SW.block ?_ | refine SW.rowC ?_ | refine SW.skip ?_ | refine SW.exit ?_ | intro _ | refine And.intro (by omega) ?_) | simp (config := { maxSteps := 1000000 }) (disch := (first | omega | (simp only [go_sem]; try omega))) only [go_sem, Nat.reduceAdd, Nat.reduceEqDiff, Nat.reduceLeDiff, Nat.reduceMul, Nat.reduceLT, reduceIte, Int.reduceToNat, w64_id, cast_succ])
                    simp only [Option.getD_none] at hM5
                    refine (maTake_ok H5 N n a _ _ _ _ _ hM5 ha k x y s hkl (by omega) hyn hs2 hsn false).mono ?_
                    rintro v H6 ⟨rfl, hM6, hl6, hfr6⟩
                    rw [if_neg (by simp), setC_back (by rw [hb.sq.1]; omega) (by rw [hbl]; exact hyn) hcb, colsM_pop hb.sq (by omega) hyn hkl hcb hc1, symsM_pop hb.sq (by omega) hyn hkl hsn hcb hs2 hc2] at hM6
                    repeat (first | (with_reducible first | refine SW.seq ?_ | refine SW.block ?_ | refine SW.rowC ?_ | refine SW.skip ?_ | refine SW.exit ?_ | intro _ | refine And.intro (by omega) ?_) | simp (config := { maxSteps := 1000000 }) (disch := (first | omega | (simp only [go_sem]; try omega))) only [go_sem, Nat.reduceAdd, Nat.reduceEqDiff, Nat.reduceLeDiff, Nat.reduceMul, Nat.reduceLT, reduceIte, Int.reduceToNat, w64_id, cast_succ])
                    refine SLoop.next (n - (y + 1)) (by omega) ⟨y + 1, by omega, rfl, by simp [go_sem], by rw [hnext]; exact hM6, by rw [hnext], by omega, fun j hj => by rw [hfr6 j hj, hfr5 j hj, hfr4 j hj, hfr3 j hj]⟩
              · repeat (first | (with_reducible first | refine SW.seq ?_ | refine SW.block ?_ | refine SW.rowC ?_ | refine SW.skip ?_ | refine SW.exit ?_ | intro _ | refine And.intro (by omega) ?_) | simp (config := { maxSteps := 1000000 }) (disch := (first | omega | (simp only [go_sem]; try omega))) only [go_sem, Nat.reduceAdd, Nat.reduceEqDiff, Nat.reduceLeDiff, Nat.reduceMul, Nat.reduceLT, reduceIte, Int.reduceToNat, w64_id, cast_succ, hpa2, hpl2])
                refine SW.condT rfl ?_
                repeat (first | (with_reducible first | refine SW.seq ?_ | refine SW.block ?_ | refine SW.rowC ?_ | refine SW.skip ?_ | refine SW.exit ?_ | intro _ | refine And.intro (by omega) ?_) | simp (config := { maxSteps := 1000000 }) (disch := (first | omega | (simp only [go_sem]; try omega))) only [go_sem, Nat.reduceAdd, Nat.reduceEqDiff, Nat.reduceLeDiff, Nat.reduceMul, Nat.reduceLT, reduceIte, Int.reduceToNat, w64_id, cast_succ])
                refine SW.ret ?_; (try simp only [go_sem]); (first | refine FunPost.one ?_ | refine FunPost.two ?_ | refine FunPost.three ?_); (try simp (config := { maxSteps := 1000000 }) (disch := (first | omega | (simp only [go_sem]; try omega))) only [go_sem, Nat.reduceAdd, Nat.reduceEqDiff, Nat.reduceLeDiff, Nat.reduceMul, Nat.reduceLT, reduceIte, Int.reduceToNat, w64_id, cast_succ])
                rw [hstop (fun z => stepM_stop (.inl rfl) z)]
                exact GR.of ⟨rfl, hM2, hl2, hfr2⟩
            · refine SW.condT rfl ?_
              repeat (first | (with_reducible first | refine SW.seq ?_ | refine SW.block ?_ | refine SW.rowC ?_ | refine SW.skip ?_ | refine SW.exit ?_ | intro _ | refine And.intro (by omega) ?_) | simp (config := { maxSteps := 1000000 }) (disch := (first | omega | (simp only [go_sem]; try omega))) only [go_sem, Nat.reduceAdd, Nat.reduceEqDiff, Nat.reduceLeDiff, Nat.reduceMul, Nat.reduceLT, reduceIte, Int.reduceToNat, w64_id, cast_succ])
              refine SLoop.next (n - (y + 1)) (by omega) ⟨y + 1, by omega, rfl, by simp [go_sem], ?_, ?_, hl2, hfr2⟩
              · rw [hnext, skip (by rw [hbk, hc1, hc2, hc3]; rfl)]; exact hM2
              · rw [hnext, skip (by rw [hbk, hc1, hc2, hc3]; rfl)]
          · rw [hc2] at g2
            repeat (first | (with_reducible first | refine SW.seq ?_ | refine SW.block ?_ | refine SW.rowC ?_ | refine SW.skip ?_ | refine SW.exit ?_ | intro _ | refine And.intro (by omega) ?_) | simp (config := { maxSteps := 1000000 }) (disch := (first | omega | (simp only [go_sem]; try omega))) only [go_sem, Nat.reduceAdd, Nat.reduceEqDiff, Nat.reduceLeDiff, Nat.reduceMul, Nat.reduceLT, reduceIte, Int.reduceToNat, w64_id, cast_succ, hpa2, hpl2, v1, c1, r1, g1, v2, c2, r2, g2, hal, hcv, hla])
            refine SW.condT rfl ?_
            repeat (first | (with_reducible first | refine SW.seq ?_ | refine SW.block ?_ | refine SW.rowC ?_ | refine SW.skip ?_ | refine SW.exit ?_ | intro _ | refine And.intro (by omega) ?_) | simp (config := { maxSteps := 1000000 }) (disch := (first | omega | (simp only [go_sem]; try omega))) only [go_sem, Nat.reduceAdd, Nat.reduceEqDiff, Nat.reduceLeDiff, Nat.reduceMul, Nat.reduceLT, reduceIte, Int.reduceToNat, w64_id, cast_succ])
            refine SLoop.next (n - (y + 1)) (by omega) ⟨y + 1, by omega, rfl, by simp [go_sem], ?_, ?_, hl2, hfr2⟩
            · rw [hnext, skip (by rw [hbk, hc1, hc2]; rfl)]; exact hM2
            · rw [hnext, skip (by rw [hbk, hc1, hc2]; rfl)]
        · rw [hc1] at g1
          repeat (first | (with_reducible first | refine SW.seq ?_ | refine SW.block ?_ | refine SW.rowC ?_ | refine SW.skip ?_ | refine SW.exit ?_ | intro _ | refine And.intro (by omega) ?_) | simp (config := { maxSteps := 1000000 }) (disch := (first | omega | (simp only [go_sem]; try omega))) only [go_sem, Nat.reduceAdd, Nat.reduceEqDiff, Nat.reduceLeDiff, Nat.reduceMul, Nat.reduceLT, reduceIte, Int.reduceToNat, w64_id, cast_succ, hpa2, hpl2, v1, c1, r1, g1])
          refine SW.condT rfl ?_
          repeat (first | (with_reducible first | refine SW.seq ?_ | refine SW.block ?_ | refine SW.rowC ?_ | refine SW.skip ?_ | refine SW.exit ?_ | intro _ | refine And.intro (by omega) ?_) | simp (config := { maxSteps := 1000000 }) (disch := (first | omega | (simp only [go_sem]; try omega))) only [go_sem, Nat.reduceAdd, Nat.reduceEqDiff, Nat.reduceLeDiff, Nat.reduceMul, Nat.reduceLT, reduceIte, Int.reduceToNat, w64_id, cast_succ])
          refine SLoop.next (n - (y + 1)) (by omega) ⟨y + 1, by omega, rfl, by simp [go_sem], ?_, ?_, hl2, hfr2⟩
          · rw [hnext, skip (by rw [hbk, hc1]; rfl)]; exact hM2
          · rw [hnext, skip (by rw [hbk, hc1]; rfl)]
      · have : y = n := by omega
        subst this
        repeat (first | (with_reducible first | refine SW.seq ?_ | refine SW.block ?_ | refine SW.rowC ?_ | refine SW.skip ?_ | refine SW.exit ?_ | intro _ | refine And.intro (by omega) ?_) | simp (config := { maxSteps := 1000000 }) (disch := (first | omega | (simp only [go_sem]; try omega))) only [go_sem, Nat.reduceAdd, Nat.reduceEqDiff, Nat.reduceLeDiff, Nat.reduceMul, Nat.reduceLT, reduceIte, Int.reduceToNat, w64_id, cast_succ])
        refine SW.ret ?_; (try simp only [go_sem]); (first | refine FunPost.one ?_ | refine FunPost.two ?_ | refine FunPost.three ?_); (try simp (config := { maxSteps := 1000000 }) (disch := (first | omega | (simp only [go_sem]; try omega))) only [go_sem, Nat.reduceAdd, Nat.reduceEqDiff, Nat.reduceLeDiff, Nat.reduceMul, Nat.reduceLT, reduceIte, Int.reduceToNat, w64_id, cast_succ])
        rw [hs1]
        exact GR.of ⟨rfl, hM2, hl2, hfr2⟩
end Go.Proofs.Ytflnjgeoegofdaa
