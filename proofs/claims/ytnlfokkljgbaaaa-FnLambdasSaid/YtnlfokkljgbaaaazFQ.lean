/- Sums and products in small fields. -/
import Derived.Test.YtnlfokkljgbaaaaProg
import Derived.KernelRfl
import Derived.Test.YtnlfokkljgbaaaazLY
set_option linter.unusedSimpArgs false
set_option linter.unusedVariables false
set_option maxHeartbeats 4000000
set_option maxRecDepth 100000
namespace Go.Proofs.Ytnlfokkljgbaaaa
open Go.Av
abbrev f_spec_l03Sum : Nat := 59
def c_spec_l03Sum : SC :=
 .seq (.reg [
     ⟨(some 8), .mv (.const (.int .i64 0)), none⟩] [0, 1, 2, 3])
 (.seq (.reg [
     ⟨(some 12), .mv (.tmp 1), none⟩,
     ⟨(some 13), .mv (.tmp 0), none⟩,
     ⟨(some 14), .nilc (.tmp 13), none⟩,
     ⟨(some 15), .faddr 0 (.tmp 14), none⟩,
     ⟨(some 16), .load 1 false (.tmp 15), none⟩,
     ⟨(some 17), .mv (.tmp 0), none⟩,
     ⟨(some 18), .nilc (.tmp 17), none⟩,
     ⟨(some 19), .faddr 1 (.tmp 18), none⟩,
     ⟨(some 20), .load 1 false (.tmp 19), none⟩,
     ⟨(some 21), .fcall 83 [(.tmp 12), (.tmp 16), (.tmp 20)], none⟩,
     ⟨(some 9), .mv (.tmp 21), none⟩] [0, 2, 3, 9])
 (.seq (.reg [
     ⟨(some 22), .mv (.tmp 2), none⟩,
     ⟨(some 23), .mv (.tmp 0), none⟩,
     ⟨(some 24), .nilc (.tmp 23), none⟩,
     ⟨(some 25), .faddr 0 (.tmp 24), none⟩,
     ⟨(some 26), .load 1 false (.tmp 25), none⟩,
     ⟨(some 27), .mv (.tmp 0), none⟩,
     ⟨(some 28), .nilc (.tmp 27), none⟩,
     ⟨(some 29), .faddr 1 (.tmp 28), none⟩,
     ⟨(some 30), .load 1 false (.tmp 29), none⟩,
     ⟨(some 31), .fcall 83 [(.tmp 22), (.tmp 26), (.tmp 30)], none⟩,
     ⟨(some 10), .mv (.tmp 31), none⟩] [0, 3, 9, 10])
 (.seq (.seq (.reg [
     ⟨(some 11), .mv (.const (.int .i64 0)), none⟩] [0, 3, 9, 10, 11])
 (.block 0 (.loop [0, 3, 9, 10, 11]
   (.seq (.seq (.reg [
       ⟨(some 32), .mv (.tmp 11), none⟩,
       ⟨(some 33), .mv (.tmp 9), none⟩,
       ⟨(some 34), .len (.tmp 33), none⟩,
       ⟨(some 35), .bin .lss (.tmp 32) (.tmp 34), none⟩] [0, 3, 9, 10, 11, 35])
   (.cond (.tmp 35)
    (.skip)
    (.exit 0)))
   (.seq (.block 1 (.reg [
        ⟨(some 38), .mv (.tmp 9), none⟩,
        ⟨(some 39), .mv (.tmp 11), none⟩,
        ⟨(some 40), .mv (.tmp 9), none⟩,
        ⟨(some 41), .mv (.tmp 11), none⟩,
        ⟨(some 42), .iaddr 1 (.tmp 40) (.tmp 41), none⟩,
        ⟨(some 43), .load 1 false (.tmp 42), none⟩,
        ⟨(some 44), .mv (.tmp 3), none⟩,
        ⟨(some 45), .mv (.tmp 10), none⟩,
        ⟨(some 46), .mv (.tmp 11), none⟩,
        ⟨(some 47), .iaddr 1 (.tmp 45) (.tmp 46), none⟩,
        ⟨(some 48), .load 1 false (.tmp 47), none⟩,
        ⟨(some 49), .bin .mul (.tmp 44) (.tmp 48), none⟩,
        ⟨(some 50), .bin .add (.tmp 43) (.tmp 49), none⟩,
        ⟨(some 51), .mv (.tmp 0), none⟩,
        ⟨(some 52), .nilc (.tmp 51), none⟩,
        ⟨(some 53), .faddr 0 (.tmp 52), none⟩,
        ⟨(some 54), .load 1 false (.tmp 53), none⟩,
        ⟨(some 55), .bin .rem (.tmp 50) (.tmp 54), none⟩,
        ⟨(some 56), .iaddr 1 (.tmp 38) (.tmp 39), none⟩,
        ⟨none, .store 1 (.tmp 56) (.tmp 55), none⟩] [0, 3, 9, 10, 11]))
   (.reg [
       ⟨(some 36), .mv (.tmp 11), none⟩,
       ⟨(some 37), .bin .add (.tmp 36) (.const (.int .i64 1)), none⟩,
       ⟨(some 11), .mv (.tmp 37), none⟩] [0, 3, 9, 10, 11]))))))
 (.seq (.reg [
     ⟨(some 57), .mv (.tmp 9), none⟩,
     ⟨(some 58), .mv (.tmp 0), none⟩,
     ⟨(some 59), .nilc (.tmp 58), none⟩,
     ⟨(some 60), .faddr 0 (.tmp 59), none⟩,
     ⟨(some 61), .load 1 false (.tmp 60), none⟩,
     ⟨(some 62), .call 85 [(.tmp 57), (.tmp 61)], none⟩,
     ⟨(some 8), .mv (.tmp 62), none⟩] [8])
 (.ret)))))
theorem s_spec_l03Sum : stripF Try.prog 59 [[0, 1, 2, 3], [0, 2, 3, 9, 1001009], [0, 3, 9, 10, 1001009], [0, 3, 9, 10, 11], [0, 3, 9, 10, 11], [0, 3, 9, 10, 11, 35], [0, 3, 9, 10, 11], [0, 3, 9, 10, 11], [8]] = some (c_spec_l03Sum, [.tmp 8], 63) := by kernel_rfl
def fdB (q : Nat) : Blk := ⟨0, tyFd, 1, [I (fdP q), I (fdK q), ilS (fdL q)]⟩
def sumX (p k : Int) (x y : List Int) (i : Nat) : Int := (x.getD i 0 + k * y.getD i 0).tmod p
def sumT (p k : Int) (x y : List Int) (i : Nat) : List Int := (List.range i).map (sumX p k x y) ++ x.drop i
theorem sumT_len (p k : Int) (x y : List Int) {i : Nat} (h : i ≤ x.length) : (sumT p k x y i).length = x.length := by unfold sumT; simp; omega
theorem sumT_get (p k : Int) (x y : List Int) {i : Nat} (h : i < x.length) : (sumT p k x y i).getD i 0 = x.getD i 0 := by
  unfold sumT
  rw [List.getD_eq_getElem?_getD, List.getElem?_append_right (by simp), List.length_map, List.length_range, Nat.sub_self, List.getElem?_drop, Nat.add_zero, List.getD_eq_getElem?_getD]
theorem sumT_set (p k : Int) (x y : List Int) {i : Nat} (h : i < x.length) : (sumT p k x y i).set i (sumX p k x y i) = sumT p k x y (i + 1) := by
  unfold sumT
  rw [List.set_append_right _ _ (by simp), List.length_map, List.length_range, Nat.sub_self, List.range_succ, List.map_append, List.append_assoc, List.drop_eq_getElem_cons h]
  rfl
def sumV (q a b k : Nat) : Int := numL (fdP q) (sumT (fdP q) k (digL (fdP q) (fdK q) a) (digL (fdP q) (fdK q) b) (fdK q))
theorem sumX_bd {p k : Int} {x y : List Int} (hp : 0 < p ∧ p ≤ 10) (hk : 0 ≤ k ∧ k ≤ 100) (hx : OkD p x) (hy : OkD p y) (i : Nat) : 0 ≤ k * y.getD i 0 ∧ k * y.getD i 0 ≤ 1000 ∧ 0 ≤ sumX p k x y i ∧ sumX p k x y i < p := by
  have h1 := hx.getD hp.1 i
  have h2 := hy.getD hp.1 i
  have h3 : 0 ≤ k * y.getD i 0 := Int.mul_nonneg hk.1 h2.1
  have h4 : k * y.getD i 0 ≤ 100 * 10 := Int.mul_le_mul (by omega) (by omega) h2.1 (by omega)
  refine ⟨h3, by omega, ?_⟩
  unfold sumX
  rw [Int.tmod_eq_emod_of_nonneg (by omega)]
  exact ⟨Int.emod_nonneg _ (by omega), Int.emod_lt_of_pos _ (by omega)⟩
theorem sumT_ok {p k : Int} {x y : List Int} (hp : 0 < p ∧ p ≤ 10) (hk : 0 ≤ k ∧ k ≤ 100) (hx : OkD p x) (hy : OkD p y) (i : Nat) : OkD p (sumT p k x y i) := fun z hz => by
  unfold sumT at hz
  rcases List.mem_append.1 hz with h | h
  · obtain ⟨j, _, rfl⟩ := List.mem_map.1 h
    exact (sumX_bd hp hk hx hy j).2.2
  · exact hx z (List.mem_of_mem_drop h)
theorem fd_pow {q : Nat} (h1 : 2 ≤ q) (h5 : q ≤ 5) : fdP q ^ fdK q = q := by rcases fd_cases h1 h5 with rfl | rfl | rfl | rfl <;> decide
theorem fdK_bd (q : Nat) : 1 ≤ fdK q ∧ fdK q ≤ 2 := by unfold fdK; split <;> omega
theorem sumV_bd {q a b k : Nat} (h1 : 2 ≤ q) (h5 : q ≤ 5) (hk : k ≤ 100) : 0 ≤ sumV q a b k ∧ sumV q a b k < q := by
  have hb := fd_bd h1 h5
  have h := numL_bd (p := fdP q) (by omega) _ (sumT_ok (p := (fdP q : Int)) (k := (k : Int)) (by omega) (by omega) (digL_ok (p := fdP q) (by omega) (fdK q) a) (digL_ok (p := fdP q) (by omega) (fdK q) b) (fdK q))
  rw [sumT_len _ _ _ _ (by rw [digL_len]; exact Nat.le_refl _), digL_len, fd_pow h1 h5] at h
  unfold sumV
  omega
theorem FcallW.rowD {P : Program} {f : FuncId} {args : List AV} {X : List Blk} {xs : List Int} {n : Nat} {K : AV → List Blk → Prop} (h : ACalls P f args X fun r H' => ∃ ver, r = .nm X.length ver 0 n ∧ H' = X ++ [⟨ver, 2, 1, xs.map I⟩])
    (hk : ∀ ver, K (.nm X.length ver 0 n) (X ++ [⟨ver, 2, 1, xs.map I⟩])) : FcallW P f args X K :=
  h.mono (by rintro r H' ⟨ver, rfl, rfl⟩; exact ⟨hk ver, _, rfl⟩)
theorem l03Sum_fn (H : List Blk) (r q a b k : Nat) (hr : H[r]? = some (fdB q)) (h1 : 2 ≤ q) (h5 : q ≤ 5) (ha : a ≤ 1000) (hb : b ≤ 1000) (hk : k ≤ 100) : ACalls Try.prog f_spec_l03Sum [.pc r 0 0, I a, I b, I k] H (fun v H' => v = I (sumV q a b k) ∧ H' = H) := by
  refine ACalls.introB s_spec_l03Sum (by simp) ?_; intro hB hA; unfold c_spec_l03Sum; simp (config := { maxSteps := 1000000 }) (disch := (first | omega | (simp only [go_sem]; try omega))) only [go_sem, Nat.reduceAdd, Nat.reduceEqDiff, Nat.reduceLeDiff, Nat.reduceMul, Nat.reduceLT, reduceIte, Int.reduceToNat, w64_id, cast_succ]
  have hrl := (List.getElem?_eq_some_iff.1 hr).1
  have xa := fun o e => pc_alive (off := o) (get_appU hr e)
  have xl := fun o e => pc_ld (off := o) (get_appU hr e)
  have xa0 := fun o => pc_alive (off := o) hr
  have xl0 := fun o => pc_ld (off := o) hr
  have hpb := fd_bd h1 h5
  have hkb := fdK_bd q
  repeat (first | (with_reducible first | refine SW.seq ?_ | refine SW.block ?_ | refine SW.rowC ?_ | refine SW.skip ?_ | refine SW.exit ?_ | intro _ | refine And.intro (by omega) ?_) | simp (config := { maxSteps := 1000000 }) (disch := (first | omega | (simp only [go_sem]; try omega))) only [go_sem, Nat.reduceAdd, Nat.reduceEqDiff, Nat.reduceLeDiff, Nat.reduceMul, Nat.reduceLT, reduceIte, Int.reduceToNat, w64_id, cast_succ, xa0, xl0])
  refine FcallW.rowD (l03Digits_new _ a (fdP q) (fdK q) (by omega) (by omega) (by omega) (by omega)) ?_
  intro va
  repeat (first | (with_reducible first | refine SW.seq ?_ | refine SW.block ?_ | refine SW.rowC ?_ | refine SW.skip ?_ | refine SW.exit ?_ | intro _ | refine And.intro (by omega) ?_) | simp (config := { maxSteps := 1000000 }) (disch := (first | omega | (simp only [go_sem]; try omega))) only [go_sem, Nat.reduceAdd, Nat.reduceEqDiff, Nat.reduceLeDiff, Nat.reduceMul, Nat.reduceLT, reduceIte, Int.reduceToNat, w64_id, cast_succ, xa, xl])
  refine FcallW.rowD (l03Digits_new _ b (fdP q) (fdK q) (by omega) (by omega) (by omega) (by omega)) ?_
  intro vb
  have hXl := digL_len (fdP q) (fdK q) a
  have hXo := digL_ok (p := fdP q) (by omega) (fdK q) a
  have hYl := digL_len (fdP q) (fdK q) b
  have hYo := digL_ok (p := fdP q) (by omega) (fdK q) b
  have hV : sumV q a b k = numL (fdP q) (sumT (fdP q) k (digL (fdP q) (fdK q) a) (digL (fdP q) (fdK q) b) (fdK q)) := rfl
  rw [hV]
  clear hV
  generalize digL (fdP q) (fdK q) a = x at *
  generalize digL (fdP q) (fdK q) b = y at *
  have hP0 : ¬ ((fdP q : Nat) : Int) = 0 := by omega
  have hSl := fun i (h : i ≤ fdK q) => sumT_len (fdP q) (k : Int) x y (i := i) (by omega)
  have hSo := fun i => sumT_ok (p := (fdP q : Int)) (k := (k : Int)) (by omega) (by omega) hXo hYo i
  have hnum := l03Number_fn (fdP q) (sumT (fdP q) k x y (fdK q)) (by omega) (by omega) (hSo _) (by rw [hSl _ (by omega)]; omega)
  generalize hP : fdP q = P at *
  generalize hK : fdK q = K at *
  repeat (first | (with_reducible first | refine SW.seq ?_ | refine SW.block ?_ | refine SW.rowC ?_ | refine SW.skip ?_ | refine SW.exit ?_ | intro _ | refine And.intro (by omega) ?_) | simp (config := { maxSteps := 1000000 }) (disch := (first | omega | (simp only [go_sem]; try omega))) only [go_sem, Nat.reduceAdd, Nat.reduceEqDiff, Nat.reduceLeDiff, Nat.reduceMul, Nat.reduceLT, reduceIte, Int.reduceToNat, w64_id, cast_succ])
  refine SW.loopE (fun E0 H0 m E' H' => ∃ i : Nat, i ≤ K ∧ m = K - i ∧ E' = aput E0 11 (I i) ∧ H' = H ++ [⟨va, 2, 1, (sumT P k x y i).map I⟩, ⟨vb, 2, 1, y.map I⟩]) K ⟨0, by omega, by omega, rfl, by simp [sumT]⟩ ?_
  rintro m E' H' ⟨i, hi, rfl, rfl, rfl⟩
  have htx : ((sumT P k x y i).map I).take K = (sumT P k x y i).map I := List.take_of_length_le (by rw [List.length_map, hSl i hi]; omega)
  have hty : (y.map I).take K = y.map I := List.take_of_length_le (by rw [List.length_map]; omega)
  have hsl := hSl i hi
  simp (config := { maxSteps := 1000000 }) (disch := (first | omega | (simp only [go_sem]; try omega))) only [go_sem, Nat.reduceAdd, Nat.reduceEqDiff, Nat.reduceLeDiff, Nat.reduceMul, Nat.reduceLT, reduceIte, Int.reduceToNat, w64_id, cast_succ]
  repeat (first | (with_reducible first | refine SW.seq ?_ | refine SW.block ?_ | refine SW.rowC ?_ | refine SW.skip ?_ | refine SW.exit ?_ | intro _ | refine And.intro (by omega) ?_) | simp (config := { maxSteps := 1000000 }) (disch := (first | omega | (simp only [go_sem]; try omega))) only [go_sem, Nat.reduceAdd, Nat.reduceEqDiff, Nat.reduceLeDiff, Nat.reduceMul, Nat.reduceLT, reduceIte, Int.reduceToNat, w64_id, cast_succ, xa, xl, htx, hty])
  (first | refine SW.condD rfl (fun h2 => ?_) (fun h2 => ?_) | refine SW.condN rfl (fun h2 => ?_) (fun h2 => ?_) | refine SW.condNB rfl (fun h2 => ?_) (fun h2 => ?_) | refine SW.condB rfl (fun h2 => ?_) (fun h2 => ?_))
  · have hiK : i < K := by omega
    have hg := sumT_get P (k : Int) x y (i := i) (by omega)
    have hs := sumT_set P (k : Int) x y (i := i) (by omega)
    obtain ⟨d1, d2, d3, d4⟩ := sumX_bd (p := (P : Int)) (k := (k : Int)) (by omega) (by omega) hXo hYo i
    have hx1 := hXo.getD (show (0 : Int) < P by omega) i
    unfold sumX at hs d3 d4
    generalize x.getD i 0 = xi at *
    generalize hyi : y.getD i 0 = yi at *
    generalize hpr : (k : Int) * yi = pr at *
    repeat (first | (with_reducible first | refine SW.seq ?_ | refine SW.block ?_ | refine SW.rowC ?_ | refine SW.skip ?_ | refine SW.exit ?_ | intro _ | refine And.intro (by omega) ?_) | simp (config := { maxSteps := 1000000 }) (disch := (first | omega | (simp only [go_sem]; try omega))) only [go_sem, Nat.reduceAdd, Nat.reduceEqDiff, Nat.reduceLeDiff, Nat.reduceMul, Nat.reduceLT, reduceIte, Int.reduceToNat, w64_id, cast_succ, xa, xl, htx, hty, hg, hyi, hpr])
    refine SLoop.next (K - (i + 1)) (by omega) ⟨i + 1, by omega, rfl, by simp [go_sem], by rw [hs]⟩
  · have hiK : i = K := by omega
    subst hiK
    have hfb := froz_rowI (H := H ++ [⟨va, 2, 1, (sumT P k x y i).map I⟩, (⟨vb, 2, 1, y.map I⟩ : Blk)]) (b := 0) (r := H.length) (ver := va) (ty := 2) (xs := sumT P k x y i) (Nat.zero_le _) (by simp)
    rw [hsl, hXl] at hfb
    repeat (first | (with_reducible first | refine SW.seq ?_ | refine SW.block ?_ | refine SW.rowC ?_ | refine SW.skip ?_ | refine SW.exit ?_ | intro _ | refine And.intro (by omega) ?_) | simp (config := { maxSteps := 1000000 }) (disch := (first | omega | (simp only [go_sem]; try omega))) only [go_sem, Nat.reduceAdd, Nat.reduceEqDiff, Nat.reduceLeDiff, Nat.reduceMul, Nat.reduceLT, reduceIte, Int.reduceToNat, w64_id, cast_succ, xa, xl])
    refine ACalls.fn (hnum.lend (.cons hfb (.cons (froz_I' _) .nil))) ?_
    repeat (first | (with_reducible first | refine SW.seq ?_ | refine SW.block ?_ | refine SW.rowC ?_ | refine SW.skip ?_ | refine SW.exit ?_ | intro _ | refine And.intro (by omega) ?_) | simp (config := { maxSteps := 1000000 }) (disch := (first | omega | (simp only [go_sem]; try omega))) only [go_sem, Nat.reduceAdd, Nat.reduceEqDiff, Nat.reduceLeDiff, Nat.reduceMul, Nat.reduceLT, reduceIte, Int.reduceToNat, w64_id, cast_succ])
    refine SW.ret ?_; (try simp only [go_sem]); (first | refine FunPost.one ?_ | refine FunPost.two ?_ | refine FunPost.three ?_); (try simp (config := { maxSteps := 1000000 }) (disch := (first | omega | (simp only [go_sem]; try omega))) only [go_sem, Nat.reduceAdd, Nat.reduceEqDiff, Nat.reduceLeDiff, Nat.reduceMul, Nat.reduceLT, reduceIte, Int.reduceToNat, w64_id, cast_succ]); (first | (with_reducible refine GR.drop ?_ ?_; (simp only [go_sem, and_self, and_true, true_and, implies_true, List.take_succ_cons, List.take_zero])) | refine GR.of ?_); refine ⟨?_, rfl⟩; (try with_reducible rfl)
end Go.Proofs.Ytnlfokkljgbaaaa
namespace Go.Proofs.Ytnlfokkljgbaaaa
open Go.Av
abbrev f_spec_l03Mul : Nat := 60
def c_spec_l03Mul : SC :=
 .seq (.reg [
     ⟨(some 6), .mv (.const (.int .i64 0)), none⟩] [0, 1, 2])
 (.seq (.reg [
     ⟨(some 12), .mv (.tmp 1), none⟩,
     ⟨(some 13), .mv (.tmp 0), none⟩,
     ⟨(some 14), .nilc (.tmp 13), none⟩,
     ⟨(some 15), .faddr 0 (.tmp 14), none⟩,
     ⟨(some 16), .load 1 false (.tmp 15), none⟩,
     ⟨(some 17), .mv (.tmp 0), none⟩,
     ⟨(some 18), .nilc (.tmp 17), none⟩,
     ⟨(some 19), .faddr 1 (.tmp 18), none⟩,
     ⟨(some 20), .load 1 false (.tmp 19), none⟩,
     ⟨(some 21), .fcall 83 [(.tmp 12), (.tmp 16), (.tmp 20)], none⟩,
     ⟨(some 7), .mv (.tmp 21), none⟩] [0, 2, 7])
 (.seq (.reg [
     ⟨(some 22), .mv (.tmp 2), none⟩,
     ⟨(some 23), .mv (.tmp 0), none⟩,
     ⟨(some 24), .nilc (.tmp 23), none⟩,
     ⟨(some 25), .faddr 0 (.tmp 24), none⟩,
     ⟨(some 26), .load 1 false (.tmp 25), none⟩,
     ⟨(some 27), .mv (.tmp 0), none⟩,
     ⟨(some 28), .nilc (.tmp 27), none⟩,
     ⟨(some 29), .faddr 1 (.tmp 28), none⟩,
     ⟨(some 30), .load 1 false (.tmp 29), none⟩,
     ⟨(some 31), .fcall 83 [(.tmp 22), (.tmp 26), (.tmp 30)], none⟩,
     ⟨(some 8), .mv (.tmp 31), none⟩] [0, 7, 8])
 (.seq (.reg [
     ⟨(some 32), .mv (.tmp 0), none⟩,
     ⟨(some 33), .nilc (.tmp 32), none⟩,
     ⟨(some 34), .faddr 1 (.tmp 33), none⟩,
     ⟨(some 35), .load 1 false (.tmp 34), none⟩,
     ⟨(some 36), .bin .mul (.const (.int .i64 2)) (.tmp 35), none⟩,
     ⟨(some 37), .bin .sub (.tmp 36) (.const (.int .i64 1)), none⟩,
     ⟨(some 38), .mslice 2 8 (.int .i64 0) (.tmp 37) (.tmp 37), none⟩,
     ⟨(some 9), .mv (.tmp 38), none⟩] [0, 7, 8, 9])
 (.seq (.seq (.reg [
     ⟨(some 10), .mv (.const (.int .i64 0)), none⟩] [0, 7, 8, 9, 10])
 (.block 0 (.loop [0, 7, 8, 9, 10]
   (.seq (.seq (.reg [
       ⟨(some 39), .mv (.tmp 10), none⟩,
       ⟨(some 40), .mv (.tmp 7), none⟩,
       ⟨(some 41), .len (.tmp 40), none⟩,
       ⟨(some 42), .bin .lss (.tmp 39) (.tmp 41), none⟩] [0, 7, 8, 9, 10, 42])
   (.cond (.tmp 42)
    (.skip)
    (.exit 0)))
   (.seq (.block 1 (.seq (.reg [
        ⟨(some 11), .mv (.const (.int .i64 0)), none⟩] [0, 7, 8, 9, 10, 11])
    (.block 2 (.loop [0, 7, 8, 9, 10, 11]
      (.seq (.seq (.reg [
          ⟨(some 45), .mv (.tmp 11), none⟩,
          ⟨(some 46), .mv (.tmp 8), none⟩,
          ⟨(some 47), .len (.tmp 46), none⟩,
          ⟨(some 48), .bin .lss (.tmp 45) (.tmp 47), none⟩] [0, 7, 8, 9, 10, 11, 48])
      (.cond (.tmp 48)
       (.skip)
       (.exit 2)))
      (.seq (.block 3 (.reg [
           ⟨(some 51), .mv (.tmp 9), none⟩,
           ⟨(some 52), .mv (.tmp 10), none⟩,
           ⟨(some 53), .mv (.tmp 11), none⟩,
           ⟨(some 54), .bin .add (.tmp 52) (.tmp 53), none⟩,
           ⟨(some 55), .mv (.tmp 9), none⟩,
           ⟨(some 56), .mv (.tmp 10), none⟩,
           ⟨(some 57), .mv (.tmp 11), none⟩,
           ⟨(some 58), .bin .add (.tmp 56) (.tmp 57), none⟩,
           ⟨(some 59), .iaddr 1 (.tmp 55) (.tmp 58), none⟩,
           ⟨(some 60), .load 1 false (.tmp 59), none⟩,
           ⟨(some 61), .mv (.tmp 7), none⟩,
           ⟨(some 62), .mv (.tmp 10), none⟩,
           ⟨(some 63), .iaddr 1 (.tmp 61) (.tmp 62), none⟩,
           ⟨(some 64), .load 1 false (.tmp 63), none⟩,
           ⟨(some 65), .mv (.tmp 8), none⟩,
           ⟨(some 66), .mv (.tmp 11), none⟩,
           ⟨(some 67), .iaddr 1 (.tmp 65) (.tmp 66), none⟩,
           ⟨(some 68), .load 1 false (.tmp 67), none⟩,
           ⟨(some 69), .bin .mul (.tmp 64) (.tmp 68), none⟩,
           ⟨(some 70), .bin .add (.tmp 60) (.tmp 69), none⟩,
           ⟨(some 71), .mv (.tmp 0), none⟩,
           ⟨(some 72), .nilc (.tmp 71), none⟩,
           ⟨(some 73), .faddr 0 (.tmp 72), none⟩,
           ⟨(some 74), .load 1 false (.tmp 73), none⟩,
           ⟨(some 75), .bin .rem (.tmp 70) (.tmp 74), none⟩,
           ⟨(some 76), .iaddr 1 (.tmp 51) (.tmp 54), none⟩,
           ⟨none, .store 1 (.tmp 76) (.tmp 75), none⟩] [0, 7, 8, 9, 10, 11]))
      (.reg [
          ⟨(some 49), .mv (.tmp 11), none⟩,
          ⟨(some 50), .bin .add (.tmp 49) (.const (.int .i64 1)), none⟩,
          ⟨(some 11), .mv (.tmp 50), none⟩] [0, 7, 8, 9, 10, 11])))))))
   (.reg [
       ⟨(some 43), .mv (.tmp 10), none⟩,
       ⟨(some 44), .bin .add (.tmp 43) (.const (.int .i64 1)), none⟩,
       ⟨(some 10), .mv (.tmp 44), none⟩] [0, 7, 8, 9, 10]))))))
 (.seq (.reg [
     ⟨(some 77), .mv (.tmp 9), none⟩,
     ⟨(some 78), .mv (.tmp 0), none⟩,
     ⟨(some 79), .nilc (.tmp 78), none⟩,
     ⟨(some 80), .faddr 2 (.tmp 79), none⟩,
     ⟨(some 81), .load 1 false (.tmp 80), none⟩,
     ⟨(some 82), .mv (.tmp 0), none⟩,
     ⟨(some 83), .nilc (.tmp 82), none⟩,
     ⟨(some 84), .faddr 0 (.tmp 83), none⟩,
     ⟨(some 85), .load 1 false (.tmp 84), none⟩,
     ⟨(some 86), .qcall 86 [(.tmp 77), (.tmp 81), (.tmp 85)], none⟩,
     ⟨(some 87), .mv (.tmp 0), none⟩,
     ⟨(some 88), .nilc (.tmp 87), none⟩,
     ⟨(some 89), .faddr 0 (.tmp 88), none⟩,
     ⟨(some 90), .load 1 false (.tmp 89), none⟩,
     ⟨(some 91), .qcall 85 [(.tmp 86), (.tmp 90)], none⟩,
     ⟨(some 6), .mv (.tmp 91), none⟩] [6])
 (.ret))))))
theorem s_spec_l03Mul : stripF Try.prog 60 [[0, 1, 2], [0, 2, 7, 1001009], [0, 7, 8, 1001009], [0, 7, 8, 9], [0, 7, 8, 9, 10], [0, 7, 8, 9, 10], [0, 7, 8, 9, 10, 42], [0, 7, 8, 9, 10, 11], [0, 7, 8, 9, 10, 11], [0, 7, 8, 9, 10, 11, 48], [0, 7, 8, 9, 10, 11], [0, 7, 8, 9, 10, 11], [0, 7, 8, 9, 10], [6]] = some (c_spec_l03Mul, [.tmp 6], 92) := by kernel_rfl
def mulI (p c : Int) (y : List Int) (i : Nat) : Nat → List Int → List Int
  | 0, z => z
  | m + 1, z => mulI p c y i m (z.set (i + (y.length - (m + 1))) ((z.getD (i + (y.length - (m + 1))) 0 + c * y.getD (y.length - (m + 1)) 0).tmod p))
def mulO (p : Int) (x y : List Int) : Nat → List Int → List Int
  | 0, z => z
  | m + 1, z => mulO p x y m (mulI p (x.getD (x.length - (m + 1)) 0) y (x.length - (m + 1)) y.length z)
theorem mul_bd {p c b o : Int} (hp : 0 < p ∧ p ≤ 10) (hc : 0 ≤ c ∧ c < p) (hb : 0 ≤ b ∧ b < p) (ho : 0 ≤ o ∧ o < p) : 0 ≤ c * b ∧ c * b ≤ 100 ∧ 0 ≤ (o + c * b).tmod p ∧ (o + c * b).tmod p < p := by
  have h1 : 0 ≤ c * b := Int.mul_nonneg (by omega) hb.1
  have h2 : c * b ≤ 10 * 10 := Int.mul_le_mul (by omega) (by omega) hb.1 (by omega)
  refine ⟨h1, by omega, ?_⟩
  rw [Int.tmod_eq_emod_of_nonneg (by omega)]
  exact ⟨Int.emod_nonneg _ (by omega), Int.emod_lt_of_pos _ (by omega)⟩
theorem mulI_ok {p c : Int} {y : List Int} {i : Nat} (hp : 0 < p ∧ p ≤ 10) (hc : 0 ≤ c ∧ c < p) (hy : OkD p y) : ∀ (m : Nat) (z : List Int), OkD p z → OkD p (mulI p c y i m z) ∧ (mulI p c y i m z).length = z.length
  | 0, z, h => ⟨h, rfl⟩
  | m + 1, z, h => by
    have h1 := mulI_ok (i := i) hp hc hy m (z.set (i + (y.length - (m + 1))) ((z.getD (i + (y.length - (m + 1))) 0 + c * y.getD (y.length - (m + 1)) 0).tmod p)) (h.set _ (mul_bd hp hc (hy.getD hp.1 _) (h.getD hp.1 _)).2.2)
    exact ⟨h1.1, h1.2.trans (by simp)⟩
theorem mulO_ok {p : Int} {x y : List Int} (hp : 0 < p ∧ p ≤ 10) (hx : OkD p x) (hy : OkD p y) : ∀ (m : Nat) (z : List Int), OkD p z → OkD p (mulO p x y m z) ∧ (mulO p x y m z).length = z.length
  | 0, z, h => ⟨h, rfl⟩
  | m + 1, z, h => by
    have h1 := mulI_ok (i := x.length - (m + 1)) hp (hx.getD hp.1 (x.length - (m + 1))) hy y.length z h
    have h2 := mulO_ok hp hx hy m _ h1.1
    exact ⟨h2.1, h2.2.trans h1.2⟩
def mulV (q a b : Nat) : Int := numL (fdP q) (restL (mulO (fdP q) (digL (fdP q) (fdK q) a) (digL (fdP q) (fdK q) b) (fdK q) (List.replicate (2 * fdK q - 1) 0)) (fdL q) (fdP q))
theorem fdL_ok (q : Nat) (h1 : 2 ≤ q) (h5 : q ≤ 5) : OkD (fdP q) (fdL q) ∧ (fdL q).length = fdK q + 1 := by
  rcases fd_cases h1 h5 with rfl | rfl | rfl | rfl <;> (refine ⟨?_, by decide⟩; unfold OkD; decide)
theorem rep_ok {p : Int} (hp : 0 < p) (n : Nat) : OkD p (List.replicate n 0) := fun z hz => by
  rw [(List.mem_replicate.1 hz).2]; omega
theorem mulV_bd {q a b : Nat} (h1 : 2 ≤ q) (h5 : q ≤ 5) : 0 ≤ mulV q a b ∧ mulV q a b < q := by
  have hb := fd_bd h1 h5
  have hl := fdL_ok q h1 h5
  have hm := mulO_ok (p := (fdP q : Int)) (by omega) (digL_ok (p := fdP q) (by omega) (fdK q) a) (digL_ok (p := fdP q) (by omega) (fdK q) b) (fdK q) (List.replicate (2 * fdK q - 1) 0) (rep_ok (by omega) _)
  have hr := restL_ok (p := (fdP q : Int)) (by omega) (by omega) hl.1 hm.1
  have hn := numL_bd (p := fdP q) (by omega) _ hr.1
  have hp := fd_pow h1 h5
  have hpw : fdP q ^ (restL (mulO (fdP q) (digL (fdP q) (fdK q) a) (digL (fdP q) (fdK q) b) (fdK q) (List.replicate (2 * fdK q - 1) 0)) (fdL q) (fdP q)).length ≤ q := by
    refine Nat.le_trans (Nat.pow_le_pow_right (by omega) (show _ ≤ fdK q by have := hr.2.2; omega)) (by omega)
  unfold mulV
  omega
theorem l03Mul_fn (H : List Blk) (r q a b : Nat) (hr : H[r]? = some (fdB q)) (h1 : 2 ≤ q) (h5 : q ≤ 5) (ha : a ≤ 1000) (hb : b ≤ 1000) : ACalls Try.prog f_spec_l03Mul [.pc r 0 0, I a, I b] H (fun v H' => v = I (mulV q a b) ∧ H' = H) := by
  refine ACalls.introB s_spec_l03Mul (by simp) ?_; intro hB hA; unfold c_spec_l03Mul; simp (config := { maxSteps := 1000000 }) (disch := (first | omega | (simp only [go_sem]; try omega))) only [go_sem, Nat.reduceAdd, Nat.reduceEqDiff, Nat.reduceLeDiff, Nat.reduceMul, Nat.reduceLT, reduceIte, Int.reduceToNat, w64_id, cast_succ]
  have hrl := (List.getElem?_eq_some_iff.1 hr).1
  have xa := fun o e => pc_alive (off := o) (get_appU hr e)
  have xl := fun o e => pc_ld (off := o) (get_appU hr e)
  have xa0 := fun o => pc_alive (off := o) hr
  have xl0 := fun o => pc_ld (off := o) hr
  have hpb := fd_bd h1 h5
  have hkb := fdK_bd q
  have hLb := fdL_ok q h1 h5
  repeat (first | (with_reducible first | refine SW.seq ?_ | refine SW.block ?_ | refine SW.rowC ?_ | refine SW.skip ?_ | refine SW.exit ?_ | intro _ | refine And.intro (by omega) ?_) | simp (config := { maxSteps := 1000000 }) (disch := (first | omega | (simp only [go_sem]; try omega))) only [go_sem, Nat.reduceAdd, Nat.reduceEqDiff, Nat.reduceLeDiff, Nat.reduceMul, Nat.reduceLT, reduceIte, Int.reduceToNat, w64_id, cast_succ, xa0, xl0])
  refine FcallW.rowD (l03Digits_new _ a (fdP q) (fdK q) (by omega) (by omega) (by omega) (by omega)) ?_
  intro va
  repeat (first | (with_reducible first | refine SW.seq ?_ | refine SW.block ?_ | refine SW.rowC ?_ | refine SW.skip ?_ | refine SW.exit ?_ | intro _ | refine And.intro (by omega) ?_) | simp (config := { maxSteps := 1000000 }) (disch := (first | omega | (simp only [go_sem]; try omega))) only [go_sem, Nat.reduceAdd, Nat.reduceEqDiff, Nat.reduceLeDiff, Nat.reduceMul, Nat.reduceLT, reduceIte, Int.reduceToNat, w64_id, cast_succ, xa, xl])
  refine FcallW.rowD (l03Digits_new _ b (fdP q) (fdK q) (by omega) (by omega) (by omega) (by omega)) ?_
  intro vb
  have hXl := digL_len (fdP q) (fdK q) a
  have hXo := digL_ok (p := fdP q) (by omega) (fdK q) a
  have hYl := digL_len (fdP q) (fdK q) b
  have hYo := digL_ok (p := fdP q) (by omega) (fdK q) b
  have hV : mulV q a b = numL (fdP q) (restL (mulO (fdP q) (digL (fdP q) (fdK q) a) (digL (fdP q) (fdK q) b) (fdK q) (List.replicate (2 * fdK q - 1) 0)) (fdL q) (fdP q)) := rfl
  rw [hV]
  clear hV
  generalize digL (fdP q) (fdK q) a = x at *
  generalize digL (fdP q) (fdK q) b = y at *
  have hP0 : ¬ ((fdP q : Nat) : Int) = 0 := by omega
  generalize hP : fdP q = P at *
  generalize hK : fdK q = K at *
  generalize hL : fdL q = L at *
  have e0 : 2 * (K : Int) - 1 = ((2 * K - 1 : Nat) : Int) := by omega
  repeat (first | (with_reducible first | refine SW.seq ?_ | refine SW.block ?_ | refine SW.rowC ?_ | refine SW.skip ?_ | refine SW.exit ?_ | intro _ | refine And.intro (by omega) ?_) | simp (config := { maxSteps := 1000000 }) (disch := (first | omega | (simp only [go_sem]; try omega))) only [go_sem, Nat.reduceAdd, Nat.reduceEqDiff, Nat.reduceLeDiff, Nat.reduceMul, Nat.reduceLT, reduceIte, Int.reduceToNat, w64_id, cast_succ, xa, xl, e0, Int.toNat_natCast])
  have hZ0 := rep_ok (p := (P : Int)) (by omega) (2 * K - 1)
  have hMk := mulO_ok (p := (P : Int)) (by omega) hXo hYo K (List.replicate (2 * K - 1) 0) hZ0
  rw [List.length_replicate] at hMk
  generalize hM : mulO P x y K (List.replicate (2 * K - 1) 0) = M at *
  have hrst := restL_ok (p := (P : Int)) (by omega) (by omega) hLb.1 hMk.1
  have hnum := l03Number_fn P (restL M L P) (by omega) (by omega) hrst.1 (by omega)
  refine SW.loopE (fun E0 H0 m E' H' => ∃ (i : Nat) (z : List Int), i ≤ K ∧ m = K - i ∧ OkD P z ∧ z.length = 2 * K - 1 ∧ M = mulO P x y (K - i) z ∧ E' = aput E0 10 (I i) ∧ H' = H ++ [⟨va, 2, 1, x.map I⟩, ⟨vb, 2, 1, y.map I⟩, ⟨0, 2, 1, z.map I⟩]) K ⟨0, List.replicate (2 * K - 1) 0, by omega, by omega, hZ0, by simp, hM.symm, rfl, rfl⟩ ?_
  rintro m E' H' ⟨i, z, hi, rfl, hzo, hzl, hMz, rfl, rfl⟩
  have htx : (x.map I).take K = x.map I := List.take_of_length_le (by rw [List.length_map]; omega)
  have hty : (y.map I).take K = y.map I := List.take_of_length_le (by rw [List.length_map]; omega)
  simp (config := { maxSteps := 1000000 }) (disch := (first | omega | (simp only [go_sem]; try omega))) only [go_sem, Nat.reduceAdd, Nat.reduceEqDiff, Nat.reduceLeDiff, Nat.reduceMul, Nat.reduceLT, reduceIte, Int.reduceToNat, w64_id, cast_succ]
  repeat (first | (with_reducible first | refine SW.seq ?_ | refine SW.block ?_ | refine SW.rowC ?_ | refine SW.skip ?_ | refine SW.exit ?_ | intro _ | refine And.intro (by omega) ?_) | simp (config := { maxSteps := 1000000 }) (disch := (first | omega | (simp only [go_sem]; try omega))) only [go_sem, Nat.reduceAdd, Nat.reduceEqDiff, Nat.reduceLeDiff, Nat.reduceMul, Nat.reduceLT, reduceIte, Int.reduceToNat, w64_id, cast_succ, htx])
  (first | refine SW.condD rfl (fun h2 => ?_) (fun h2 => ?_) | refine SW.condN rfl (fun h2 => ?_) (fun h2 => ?_) | refine SW.condNB rfl (fun h2 => ?_) (fun h2 => ?_) | refine SW.condB rfl (fun h2 => ?_) (fun h2 => ?_))
  · have hiK : i < K := by omega
    rw [show K - i = (K - (i + 1)) + 1 by omega, mulO, show x.length - (K - (i + 1) + 1) = i by omega] at hMz
    have hxi := hXo.getD (show (0 : Int) < P by omega) i
    generalize hc : x.getD i 0 = c at *
    generalize hS : mulI P c y i y.length z = S at *
    repeat (first | (with_reducible first | refine SW.seq ?_ | refine SW.block ?_ | refine SW.rowC ?_ | refine SW.skip ?_ | refine SW.exit ?_ | intro _ | refine And.intro (by omega) ?_) | simp (config := { maxSteps := 1000000 }) (disch := (first | omega | (simp only [go_sem]; try omega))) only [go_sem, Nat.reduceAdd, Nat.reduceEqDiff, Nat.reduceLeDiff, Nat.reduceMul, Nat.reduceLT, reduceIte, Int.reduceToNat, w64_id, cast_succ])
    refine SW.loopE (fun E0 H0 m E' H' => ∃ (k : Nat) (o : List Int), k ≤ K ∧ m = K - k ∧ OkD P o ∧ o.length = 2 * K - 1 ∧ S = mulI P c y i (K - k) o ∧ E' = aput E0 11 (I k) ∧ H' = H ++ [⟨va, 2, 1, x.map I⟩, ⟨vb, 2, 1, y.map I⟩, ⟨0, 2, 1, o.map I⟩]) K ⟨0, z, by omega, by omega, hzo, hzl, by rw [← hS, hYl]; rfl, rfl, rfl⟩ ?_
    rintro m E' H' ⟨k, o, hk, rfl, hoo, hol, hSo, rfl, rfl⟩
    have hto : (o.map I).take (2 * K - 1) = o.map I := List.take_of_length_le (by rw [List.length_map]; omega)
    simp (config := { maxSteps := 1000000 }) (disch := (first | omega | (simp only [go_sem]; try omega))) only [go_sem, Nat.reduceAdd, Nat.reduceEqDiff, Nat.reduceLeDiff, Nat.reduceMul, Nat.reduceLT, reduceIte, Int.reduceToNat, w64_id, cast_succ]
    repeat (first | (with_reducible first | refine SW.seq ?_ | refine SW.block ?_ | refine SW.rowC ?_ | refine SW.skip ?_ | refine SW.exit ?_ | intro _ | refine And.intro (by omega) ?_) | simp (config := { maxSteps := 1000000 }) (disch := (first | omega | (simp only [go_sem]; try omega))) only [go_sem, Nat.reduceAdd, Nat.reduceEqDiff, Nat.reduceLeDiff, Nat.reduceMul, Nat.reduceLT, reduceIte, Int.reduceToNat, w64_id, cast_succ, hty])
    (first | refine SW.condD rfl (fun h3 => ?_) (fun h3 => ?_) | refine SW.condN rfl (fun h3 => ?_) (fun h3 => ?_) | refine SW.condNB rfl (fun h3 => ?_) (fun h3 => ?_) | refine SW.condB rfl (fun h3 => ?_) (fun h3 => ?_))
    · have hkK : k < K := by omega
      rw [show K - k = (K - (k + 1)) + 1 by omega, mulI, show y.length - (K - (k + 1) + 1) = k by omega] at hSo
      have hyk := hYo.getD (show (0 : Int) < P by omega) k
      have hok := hoo.getD (show (0 : Int) < P by omega) (i + k)
      obtain ⟨d1, d2, d3⟩ := mul_bd (p := (P : Int)) (by omega) hxi hyk hok
      have ho' := hoo.set (i + k) d3
      generalize hyk0 : y.getD k 0 = yk at *
      generalize hok0 : o.getD (i + k) 0 = ok at *
      generalize hpr : c * yk = pr at *
      have e1 : (i : Int) + (k : Int) = ((i + k : Nat) : Int) := by omega
      repeat (first | (with_reducible first | refine SW.seq ?_ | refine SW.block ?_ | refine SW.rowC ?_ | refine SW.skip ?_ | refine SW.exit ?_ | intro _ | refine And.intro (by omega) ?_) | simp (config := { maxSteps := 1000000 }) (disch := (first | omega | (simp only [go_sem]; try omega))) only [go_sem, Nat.reduceAdd, Nat.reduceEqDiff, Nat.reduceLeDiff, Nat.reduceMul, Nat.reduceLT, reduceIte, Int.reduceToNat, w64_id, cast_succ, xa, xl, htx, hty, hto, e1, hyk0, hok0, hpr, hc])
      refine SLoop.next (K - (k + 1)) (by omega) ⟨k + 1, _, by omega, rfl, ho', by rw [List.length_set]; exact hol, hSo, by simp [go_sem], rfl⟩
    · have hkK : k = K := by omega
      rw [hkK, Nat.sub_self, mulI] at hSo
      subst hSo
      repeat (first | (with_reducible first | refine SW.seq ?_ | refine SW.block ?_ | refine SW.rowC ?_ | refine SW.skip ?_ | refine SW.exit ?_ | intro _ | refine And.intro (by omega) ?_) | simp (config := { maxSteps := 1000000 }) (disch := (first | omega | (simp only [go_sem]; try omega))) only [go_sem, Nat.reduceAdd, Nat.reduceEqDiff, Nat.reduceLeDiff, Nat.reduceMul, Nat.reduceLT, reduceIte, Int.reduceToNat, w64_id, cast_succ])
      refine SLoop.next (K - (i + 1)) (by omega) ⟨i + 1, S, by omega, rfl, hoo, hol, hMz, by simp [go_sem], rfl⟩
  · have hiK : K - i = 0 := by omega
    rw [hiK, mulO] at hMz
    subst hMz
    have hfb := froz_rowI (H := H ++ [⟨va, 2, 1, x.map I⟩, ⟨vb, 2, 1, y.map I⟩, (⟨0, 2, 1, M.map I⟩ : Blk)]) (b := 0) (r := H.length + 2) (ver := 0) (ty := 2) (xs := M) (Nat.zero_le _) (by simp)
    rw [hzl] at hfb
    repeat (first | (with_reducible first | refine SW.seq ?_ | refine SW.block ?_ | refine SW.rowC ?_ | refine SW.skip ?_ | refine SW.exit ?_ | intro _ | refine And.intro (by omega) ?_) | simp (config := { maxSteps := 1000000 }) (disch := (first | omega | (simp only [go_sem]; try omega))) only [go_sem, Nat.reduceAdd, Nat.reduceEqDiff, Nat.reduceLeDiff, Nat.reduceMul, Nat.reduceLT, reduceIte, Int.reduceToNat, w64_id, cast_succ, xa, xl])
    refine QcallW.of ((l03Rest_new P M L (by omega) (by omega) hMk.1 hLb.1 (by omega) (by omega) (by omega)).lendq (.cons hfb (.cons (.old _ (by rw [Bel_ilS]; trivial)) (.cons (froz_I' _) .nil)))) ?_
    repeat (first | (with_reducible first | refine SW.seq ?_ | refine SW.block ?_ | refine SW.rowC ?_ | refine SW.skip ?_ | refine SW.exit ?_ | refine PFn.use (hnum) ?_ | refine PFn.useq (hnum) ?_ | intro _ | refine And.intro (by omega) ?_) | simp (config := { maxSteps := 1000000 }) (disch := (first | omega | (simp only [go_sem]; try omega))) only [go_sem, Nat.reduceAdd, Nat.reduceEqDiff, Nat.reduceLeDiff, Nat.reduceMul, Nat.reduceLT, reduceIte, Int.reduceToNat, w64_id, cast_succ, xa, xl])
    refine SW.ret ?_; (try simp only [go_sem]); (first | refine FunPost.one ?_ | refine FunPost.two ?_ | refine FunPost.three ?_); (try simp (config := { maxSteps := 1000000 }) (disch := (first | omega | (simp only [go_sem]; try omega))) only [go_sem, Nat.reduceAdd, Nat.reduceEqDiff, Nat.reduceLeDiff, Nat.reduceMul, Nat.reduceLT, reduceIte, Int.reduceToNat, w64_id, cast_succ]); (first | (with_reducible refine GR.drop ?_ ?_; (simp only [go_sem, and_self, and_true, true_and, implies_true, List.take_succ_cons, List.take_zero])) | refine GR.of ?_); refine ⟨?_, rfl⟩; (try with_reducible rfl)
end Go.Proofs.Ytnlfokkljgbaaaa
namespace Go.Proofs.Ytnlfokkljgbaaaa
open Go.Av
abbrev f_spec_l12Plane : Nat := 36
def c_spec_l12Plane : SC :=
 .seq (.reg [
     ⟨(some 2), .alloc 26 [(.int .i64 0), (.slice none 0 0)], none⟩] [0, 2])
 (.seq (.reg [
     ⟨(some 12), .mv (.tmp 0), none⟩,
     ⟨(some 13), .call 58 [(.tmp 12)], none⟩,
     ⟨(some 3), .alloc 90 [(.int .i64 0), (.int .i64 0), (.slice none 0 0)], none⟩,
     ⟨none, .store 3 (.tmp 3) (.tmp 13), none⟩] [0, 2, 3])
 (.seq (.reg [
     ⟨(some 14), .bslice 29 1 0 [] [], none⟩,
     ⟨(some 4), .mv (.tmp 14), none⟩] [0, 2, 3, 4])
 (.seq (.seq (.reg [
     ⟨(some 5), .mv (.const (.int .i64 0)), none⟩] [0, 2, 3, 4, 5])
 (.block 0 (.loop [0, 2, 3, 4, 5]
   (.seq (.seq (.reg [
       ⟨(some 15), .mv (.tmp 5), none⟩,
       ⟨(some 16), .mv (.tmp 0), none⟩,
       ⟨(some 17), .bin .lss (.tmp 15) (.tmp 16), none⟩] [0, 2, 3, 4, 5, 17])
   (.cond (.tmp 17)
    (.skip)
    (.exit 0)))
   (.seq (.block 1 (.seq (.reg [
        ⟨(some 20), .bslice 2 1 0 [] [], none⟩,
        ⟨(some 6), .mv (.tmp 20), none⟩] [0, 2, 3, 4, 5, 6])
    (.seq (.seq (.reg [
        ⟨(some 7), .mv (.const (.int .i64 0)), none⟩] [0, 2, 3, 4, 5, 6, 7])
    (.block 2 (.loop [0, 2, 3, 4, 5, 6, 7]
      (.seq (.seq (.reg [
          ⟨(some 21), .mv (.tmp 7), none⟩,
          ⟨(some 22), .mv (.tmp 0), none⟩,
          ⟨(some 23), .bin .lss (.tmp 21) (.tmp 22), none⟩] [0, 2, 3, 4, 5, 6, 7, 23])
      (.cond (.tmp 23)
       (.skip)
       (.exit 2)))
      (.seq (.block 3 (.reg [
           ⟨(some 26), .mv (.tmp 6), none⟩,
           ⟨(some 27), .mv (.tmp 0), none⟩,
           ⟨(some 28), .mv (.tmp 5), none⟩,
           ⟨(some 29), .bin .mul (.tmp 27) (.tmp 28), none⟩,
           ⟨(some 30), .mv (.tmp 7), none⟩,
           ⟨(some 31), .bin .add (.tmp 29) (.tmp 30), none⟩,
           ⟨(some 32), .bslice 2 1 1 [(.int .i64 0)] [(0, (.tmp 31))], none⟩,
           ⟨(some 33), .app 2 1 8 (.tmp 26) (.tmp 32), none⟩,
           ⟨(some 6), .mv (.tmp 33), none⟩] [0, 2, 3, 4, 5, 6, 7]))
      (.reg [
          ⟨(some 24), .mv (.tmp 7), none⟩,
          ⟨(some 25), .bin .add (.tmp 24) (.const (.int .i64 1)), none⟩,
          ⟨(some 7), .mv (.tmp 25), none⟩] [0, 2, 3, 4, 5, 6, 7]))))))
    (.reg [
        ⟨(some 34), .mv (.tmp 4), none⟩,
        ⟨(some 35), .mv (.tmp 6), none⟩,
        ⟨(some 36), .bslice 29 1 1 [(.slice none 0 0)] [(0, (.tmp 35))], none⟩,
        ⟨(some 37), .app 29 1 24 (.tmp 34) (.tmp 36), none⟩,
        ⟨(some 4), .mv (.tmp 37), none⟩] [0, 2, 3, 4, 5]))))
   (.reg [
       ⟨(some 18), .mv (.tmp 5), none⟩,
       ⟨(some 19), .bin .add (.tmp 18) (.const (.int .i64 1)), none⟩,
       ⟨(some 5), .mv (.tmp 19), none⟩] [0, 2, 3, 4, 5]))))))
 (.seq (.seq (.reg [
     ⟨(some 8), .mv (.const (.int .i64 0)), none⟩] [0, 2, 3, 4, 8])
 (.block 4 (.loop [0, 2, 3, 4, 8]
   (.seq (.seq (.reg [
       ⟨(some 38), .mv (.tmp 8), none⟩,
       ⟨(some 39), .mv (.tmp 0), none⟩,
       ⟨(some 40), .bin .lss (.tmp 38) (.tmp 39), none⟩] [0, 2, 3, 4, 8, 40])
   (.cond (.tmp 40)
    (.skip)
    (.exit 4)))
   (.seq (.block 5 (.seq (.reg [
        ⟨(some 9), .mv (.const (.int .i64 0)), none⟩] [0, 2, 3, 4, 8, 9])
    (.block 6 (.loop [0, 2, 3, 4, 8, 9]
      (.seq (.seq (.reg [
          ⟨(some 43), .mv (.tmp 9), none⟩,
          ⟨(some 44), .mv (.tmp 0), none⟩,
          ⟨(some 45), .bin .lss (.tmp 43) (.tmp 44), none⟩] [0, 2, 3, 4, 8, 9, 45])
      (.cond (.tmp 45)
       (.skip)
       (.exit 6)))
      (.seq (.block 7 (.seq (.reg [
           ⟨(some 48), .bslice 2 1 0 [] [], none⟩,
           ⟨(some 10), .mv (.tmp 48), none⟩] [0, 2, 3, 4, 8, 9, 10])
       (.seq (.seq (.reg [
           ⟨(some 11), .mv (.const (.int .i64 0)), none⟩] [0, 2, 3, 4, 8, 9, 10, 11])
       (.block 8 (.loop [0, 2, 3, 4, 8, 9, 10, 11]
         (.seq (.seq (.reg [
             ⟨(some 49), .mv (.tmp 11), none⟩,
             ⟨(some 50), .mv (.tmp 0), none⟩,
             ⟨(some 51), .bin .lss (.tmp 49) (.tmp 50), none⟩] [0, 2, 3, 4, 8, 9, 10, 11, 51])
         (.cond (.tmp 51)
          (.skip)
          (.exit 8)))
         (.seq (.block 9 (.reg [
              ⟨(some 54), .mv (.tmp 10), none⟩,
              ⟨(some 55), .mv (.tmp 0), none⟩,
              ⟨(some 56), .mv (.tmp 11), none⟩,
              ⟨(some 57), .bin .mul (.tmp 55) (.tmp 56), none⟩,
              ⟨(some 58), .mv (.tmp 8), none⟩,
              ⟨(some 59), .mv (.tmp 11), none⟩,
              ⟨(some 60), .call 60 [(.tmp 3), (.tmp 58), (.tmp 59)], none⟩,
              ⟨(some 61), .mv (.tmp 9), none⟩,
              ⟨(some 62), .call 59 [(.tmp 3), (.tmp 60), (.tmp 61), (.const (.int .i64 1))], none⟩,
              ⟨(some 63), .bin .add (.tmp 57) (.tmp 62), none⟩,
              ⟨(some 64), .bslice 2 1 1 [(.int .i64 0)] [(0, (.tmp 63))], none⟩,
              ⟨(some 65), .app 2 1 8 (.tmp 54) (.tmp 64), none⟩,
              ⟨(some 10), .mv (.tmp 65), none⟩] [0, 2, 3, 4, 8, 9, 10, 11]))
         (.reg [
             ⟨(some 52), .mv (.tmp 11), none⟩,
             ⟨(some 53), .bin .add (.tmp 52) (.const (.int .i64 1)), none⟩,
             ⟨(some 11), .mv (.tmp 53), none⟩] [0, 2, 3, 4, 8, 9, 10, 11]))))))
       (.reg [
           ⟨(some 66), .mv (.tmp 4), none⟩,
           ⟨(some 67), .mv (.tmp 10), none⟩,
           ⟨(some 68), .bslice 29 1 1 [(.slice none 0 0)] [(0, (.tmp 67))], none⟩,
           ⟨(some 69), .app 29 1 24 (.tmp 66) (.tmp 68), none⟩,
           ⟨(some 4), .mv (.tmp 69), none⟩] [0, 2, 3, 4, 8, 9]))))
      (.reg [
          ⟨(some 46), .mv (.tmp 9), none⟩,
          ⟨(some 47), .bin .add (.tmp 46) (.const (.int .i64 1)), none⟩,
          ⟨(some 9), .mv (.tmp 47), none⟩] [0, 2, 3, 4, 8, 9])))))))
   (.reg [
       ⟨(some 41), .mv (.tmp 8), none⟩,
       ⟨(some 42), .bin .add (.tmp 41) (.const (.int .i64 1)), none⟩,
       ⟨(some 8), .mv (.tmp 42), none⟩] [0, 2, 3, 4, 8]))))))
 (.seq (.reg [
     ⟨(some 70), .mv (.tmp 0), none⟩,
     ⟨(some 71), .mv (.tmp 0), none⟩,
     ⟨(some 72), .bin .mul (.tmp 70) (.tmp 71), none⟩,
     ⟨(some 73), .mv (.tmp 4), none⟩,
     ⟨(some 74), .call 61 [(.tmp 73)], none⟩,
     ⟨(some 75), .build [(.int .i64 0), (.slice none 0 0)] [(0, 1, (.tmp 72)), (1, 1, (.tmp 74))], none⟩,
     ⟨none, .store 2 (.tmp 2) (.tmp 75), none⟩] [2])
 (.ret))))))
theorem s_spec_l12Plane : stripF Try.prog 36 [[0, 2], [0, 2, 3], [0, 2, 3, 4], [0, 2, 3, 4, 5], [0, 2, 3, 4, 5], [0, 2, 3, 4, 5, 17], [0, 2, 3, 4, 5, 6], [0, 2, 3, 4, 5, 6, 7], [0, 2, 3, 4, 5, 6, 7], [0, 2, 3, 4, 5, 6, 7, 23], [0, 2, 3, 4, 5, 6, 7], [0, 2, 3, 4, 5, 6, 7], [0, 2, 3, 4, 5], [0, 2, 3, 4, 5], [0, 2, 3, 4, 8], [0, 2, 3, 4, 8], [0, 2, 3, 4, 8, 40], [0, 2, 3, 4, 8, 9], [0, 2, 3, 4, 8, 9], [0, 2, 3, 4, 8, 9, 45], [0, 2, 3, 4, 8, 9, 10], [0, 2, 3, 4, 8, 9, 10, 11], [0, 2, 3, 4, 8, 9, 10, 11], [0, 2, 3, 4, 8, 9, 10, 11, 51], [0, 2, 3, 4, 8, 9, 10, 11], [0, 2, 3, 4, 8, 9, 10, 11], [0, 2, 3, 4, 8, 9], [0, 2, 3, 4, 8, 9], [0, 2, 3, 4, 8], [2]] = some (c_spec_l12Plane, [.cell 2 2], 76) := by kernel_rfl
def PlX (v : Int) (xss : List (List Int)) : Prop := 1 ≤ v ∧ v ≤ 31 ∧ 1 ≤ xss.length ∧ xss.length ≤ 31 ∧ ∀ x ∈ xss, x.length ≤ 31 ∧ ∀ z ∈ x, 0 ≤ z ∧ z < v
structure PlS (H Y : List Blk) (q : Nat) (v : AV) (xss : List (List Int)) : Prop where
  box : Y[H.length]? = some ⟨0, tyDz, 1, [I 0, nilS]⟩
  fd : Y[H.length + 1]? = some (fdB q)
  tab : TabF Y (fun r => H.length + 2 ≤ r) v xss
  fr : ∀ j, j < H.length → Y[j]? = H[j]?
theorem PlS.len {H Y : List Blk} {q : Nat} {v : AV} {xss : List (List Int)} (h : PlS H Y q v xss) : H.length + 2 ≤ Y.length := by
  have := (List.getElem?_eq_some_iff.1 h.fd).1
  omega
theorem PlS.keep {H Y Z : List Blk} {q : Nat} {v : AV} {xss : List (List Int)} (h : PlS H Y q v xss) (hf : ∀ j, j < Y.length → Z[j]? = Y[j]?) : PlS H Z q v xss := by
  have hl := h.len
  exact ⟨(hf _ (by omega)).trans h.box, (hf _ (by omega)).trans h.fd, h.tab.same (fun r hr _ => hr) (fun j b _ hb => by rw [hf j (List.getElem?_eq_some_iff.1 hb).1]; exact hb), fun j hj => (hf j (by omega)).trans (h.fr j hj)⟩
theorem PlS.put {H Y Z : List Blk} {q : Nat} {v v' : AV} {xss yss : List (List Int)} (h : PlS H Y q v xss) (ht : TabF Z (fun r => H.length + 2 ≤ r) v' yss) (hf : ∀ (j : Nat) (bl : Blk), Y[j]? = some bl → bl.ty ≠ tyLL → Z[j]? = some bl) (hf2 : ∀ j, j < H.length → Z[j]? = Y[j]?) : PlS H Z q v' yss :=
  ⟨hf _ _ h.box (show tyDz ≠ tyLL by decide), hf _ _ h.fd (show tyFd ≠ tyLL by decide), ht, fun j hj => (hf2 j hj).trans (h.fr j hj)⟩
theorem PlS.app {H Z : List Blk} {q : Nat} {v : AV} {xss : List (List Int)} {i ver n : Nat} {s : List Int} (b : Blk) {K : AV → List Blk → Prop} (h : PlS H Z q v xss) (hi : H.length + 2 ≤ i) (hs : Z[i]? = some ⟨ver, 2, 1, s.map I⟩) (hn : s.length = n) (hl : xss.length ≤ 1000)
    (hk : ∀ v' W, v'.cell1 = true ∧ partsOf v' = [v'] → PlS H W q v' (xss ++ [s]) → K v' W) : AppX tyLL 1 24 (Z ++ [b]) v K (some (1, [.nm i ver 0 n])) := by
  have hZl := h.len
  have h' := h.keep (Z := Z ++ [b]) (fun j hj => List.getElem?_append_left hj)
  refine TabF.app (N := fun r => H.length + 2 ≤ r) (yss := [s]) h'.tab rfl (fun j c ys g1 g2 => ?_) (by simp; omega) (by simp; omega) ?_
  · cases j with
    | succ j => simp at g1
    | zero =>
      simp at g1 g2
      subst g1; subst g2
      exact .inr (.inr ⟨i, ver, by rw [hn], hi, get_appU hs _⟩)
  intro v' W c1 hWl hWt hWf hWn
  exact hk v' W c1 (h'.put hWt hWf (fun j hj => hWn j (by omega) (by simp; omega)))
theorem rowPush {Y Z : List Blk} {i ver : Nat} {s : List Int} {x : Int} {b : Blk} (hZ : Z[i]? = some ⟨ver, 2, 1, s.map I⟩) (hi : Y.length ≤ i) (hf : ∀ j, j < Y.length → Z[j]? = Y[j]?) :
    ((Z ++ [b]).set i ⟨ver + 1, 2, 1, s.map I ++ [I x]⟩)[i]? = some ⟨ver + 1, 2, 1, (s ++ [x]).map I⟩ ∧ ∀ j, j < Y.length → ((Z ++ [b]).set i ⟨ver + 1, 2, 1, s.map I ++ [I x]⟩)[j]? = Y[j]? := by
  have hl := (List.getElem?_eq_some_iff.1 hZ).1
  refine ⟨by rw [List.getElem?_set_self (by simp; omega)]; simp, fun j hj => ?_⟩
  rw [List.getElem?_set_ne (by omega), List.getElem?_append_left (by omega)]
  exact hf j hj
theorem l12Plane_ok (H : List Blk) (q : Nat) (h1 : 2 ≤ q) (h5 : q ≤ 5) : ACalls Try.prog f_spec_l12Plane [I q] H (fun r H' => ∃ (v : Int) (xss : List (List Int)), r = .agg [I v, ilSS xss] ∧ PlX v xss ∧ H' = H) := by
  refine ACalls.introB s_spec_l12Plane (by simp) ?_; intro hB hA; unfold c_spec_l12Plane; simp (config := { maxSteps := 1000000 }) (disch := (first | omega | (simp only [go_sem]; try omega))) only [go_sem, Nat.reduceAdd, Nat.reduceEqDiff, Nat.reduceLeDiff, Nat.reduceMul, Nat.reduceLT, reduceIte, Int.reduceToNat, w64_id, cast_succ]
  repeat (first | (with_reducible first | refine SW.seq ?_ | refine SW.block ?_ | refine SW.rowC ?_ | refine SW.skip ?_ | refine SW.exit ?_ | refine PFn.use (l03Make_fn q h1 h5) ?_ | refine PFn.useq (l03Make_fn q h1 h5) ?_ | intro _ | refine And.intro (by omega) ?_) | simp (config := { maxSteps := 1000000 }) (disch := (first | omega | (simp only [go_sem]; try omega))) only [go_sem, Nat.reduceAdd, Nat.reduceEqDiff, Nat.reduceLeDiff, Nat.reduceMul, Nat.reduceLT, reduceIte, Int.reduceToNat, w64_id, cast_succ])
  have hqq : 4 ≤ q * q ∧ q * q ≤ 25 := ⟨Nat.mul_le_mul h1 h1, Nat.mul_le_mul h5 h5⟩
  have hg0 : ∀ (bs : List Blk) (j : Nat), (H ++ bs)[H.length + j]? = bs[j]? := fun bs j => by rw [List.getElem?_append_right (by omega), Nat.add_sub_cancel_left]
  refine SW.loopE (fun E0 H0 m E' Y => ∃ (c : Nat) (v : AV) (xss : List (List Int)), c ≤ q ∧ m = q - c ∧ E' = aput (aput E0 4 v) 5 (I c) ∧ PlS H Y q v xss ∧ xss.length = c ∧ ∀ x ∈ xss, x.length ≤ 31 ∧ ∀ z ∈ x, 0 ≤ z ∧ z < ((q * q : Nat) : Int)) q
    ⟨0, _, [], by omega, by omega, rfl, ⟨hg0 _ 0, hg0 _ 1, .inr ⟨H.length + 2, 0, [], rfl, by omega, hg0 _ 2, rfl, fun j c xs h => by simp at h⟩, fun j hj => by rw [List.getElem?_append_left hj]⟩, rfl, by simp⟩ ?_
  rintro m E' Y ⟨c, v, xss, hc, rfl, rfl, hY, hxl, hxs⟩
  have hvo := hY.tab.one
  simp (config := { maxSteps := 1000000 }) (disch := (first | omega | (simp only [go_sem]; try omega))) only [go_sem, Nat.reduceAdd, Nat.reduceEqDiff, Nat.reduceLeDiff, Nat.reduceMul, Nat.reduceLT, reduceIte, Int.reduceToNat, w64_id, cast_succ]
  repeat (first | (with_reducible first | refine SW.seq ?_ | refine SW.block ?_ | refine SW.rowC ?_ | refine SW.skip ?_ | refine SW.exit ?_ | intro _ | refine And.intro (by omega) ?_) | simp (config := { maxSteps := 1000000 }) (disch := (first | omega | (simp only [go_sem]; try omega))) only [go_sem, Nat.reduceAdd, Nat.reduceEqDiff, Nat.reduceLeDiff, Nat.reduceMul, Nat.reduceLT, reduceIte, Int.reduceToNat, w64_id, cast_succ])
  (first | refine SW.condD rfl (fun h2 => ?_) (fun h2 => ?_) | refine SW.condN rfl (fun h2 => ?_) (fun h2 => ?_) | refine SW.condNB rfl (fun h2 => ?_) (fun h2 => ?_) | refine SW.condB rfl (fun h2 => ?_) (fun h2 => ?_))
  · have hcq : c < q := by omega
    have hqc : q * c + q ≤ q * q := by
      have := Nat.mul_le_mul_left q (show c + 1 ≤ q by omega)
      rw [Nat.mul_add, Nat.mul_one] at this
      exact this
    repeat (first | (with_reducible first | refine SW.seq ?_ | refine SW.block ?_ | refine SW.rowC ?_ | refine SW.skip ?_ | refine SW.exit ?_ | intro _ | refine And.intro (by omega) ?_) | simp (config := { maxSteps := 1000000 }) (disch := (first | omega | (simp only [go_sem]; try omega))) only [go_sem, Nat.reduceAdd, Nat.reduceEqDiff, Nat.reduceLeDiff, Nat.reduceMul, Nat.reduceLT, reduceIte, Int.reduceToNat, w64_id, cast_succ])
    refine SW.loopE (fun E0 H0 m E' Z => ∃ (y : Nat) (s : List Int), y ≤ q ∧ m = q - y ∧ s.length = y ∧ (∀ z ∈ s, 0 ≤ z ∧ z < ((q * q : Nat) : Int)) ∧ E' = aput (aput E0 6 (.nm Y.length y 0 y)) 7 (I y) ∧ Z[Y.length]? = some ⟨y, 2, 1, s.map I⟩ ∧ ∀ j, j < Y.length → Z[j]? = Y[j]?) q
      ⟨0, [], by omega, by omega, rfl, by simp, rfl, by simp, fun j hj => by rw [List.getElem?_append_left hj]⟩ ?_
    rintro m E' Z ⟨_, s, hy, rfl, rfl, hs, rfl, hZ, hZf⟩
    have hZl := (List.getElem?_eq_some_iff.1 hZ).1
    simp (config := { maxSteps := 1000000 }) (disch := (first | omega | (simp only [go_sem]; try omega))) only [go_sem, Nat.reduceAdd, Nat.reduceEqDiff, Nat.reduceLeDiff, Nat.reduceMul, Nat.reduceLT, reduceIte, Int.reduceToNat, w64_id, cast_succ]
    repeat (first | (with_reducible first | refine SW.seq ?_ | refine SW.block ?_ | refine SW.rowC ?_ | refine SW.skip ?_ | refine SW.exit ?_ | intro _ | refine And.intro (by omega) ?_) | simp (config := { maxSteps := 1000000 }) (disch := (first | omega | (simp only [go_sem]; try omega))) only [go_sem, Nat.reduceAdd, Nat.reduceEqDiff, Nat.reduceLeDiff, Nat.reduceMul, Nat.reduceLT, reduceIte, Int.reduceToNat, w64_id, cast_succ])
    (first | refine SW.condD rfl (fun h3 => ?_) (fun h3 => ?_) | refine SW.condN rfl (fun h3 => ?_) (fun h3 => ?_) | refine SW.condNB rfl (fun h3 => ?_) (fun h3 => ?_) | refine SW.condB rfl (fun h3 => ?_) (fun h3 => ?_))
    · have hyq : s.length < q := by omega
      have e1 : (q : Int) * (c : Int) = ((q * c : Nat) : Int) := by simp
      repeat (first | (with_reducible first | refine SW.seq ?_ | refine SW.block ?_ | refine SW.rowC ?_ | refine SW.skip ?_ | refine SW.exit ?_ | intro _ | refine And.intro (by omega) ?_) | simp (config := { maxSteps := 1000000 }) (disch := (first | omega | (simp only [go_sem]; try omega))) only [go_sem, Nat.reduceAdd, Nat.reduceEqDiff, Nat.reduceLeDiff, Nat.reduceMul, Nat.reduceLT, reduceIte, Int.reduceToNat, w64_id, cast_succ, e1])
      refine appNC (get_appU hZ _) (by omega) ?_
      obtain ⟨g1, g2⟩ := rowPush (b := ⟨0, 2, 1, [I (((q * c : Nat) : Int) + (s.length : Int))]⟩) (x := ((q * c : Nat) : Int) + (s.length : Int)) hZ (Nat.le_refl _) hZf
      generalize List.set (Z ++ [(⟨0, 2, 1, [I (((q * c : Nat) : Int) + (s.length : Int))]⟩ : Blk)]) Y.length ⟨s.length + 1, 2, 1, s.map I ++ [I (((q * c : Nat) : Int) + (s.length : Int))]⟩ = W at *
      repeat (first | (with_reducible first | refine SW.seq ?_ | refine SW.block ?_ | refine SW.rowC ?_ | refine SW.skip ?_ | refine SW.exit ?_ | intro _ | refine And.intro (by omega) ?_) | simp (config := { maxSteps := 1000000 }) (disch := (first | omega | (simp only [go_sem]; try omega))) only [go_sem, Nat.reduceAdd, Nat.reduceEqDiff, Nat.reduceLeDiff, Nat.reduceMul, Nat.reduceLT, reduceIte, Int.reduceToNat, w64_id, cast_succ])
      refine SLoop.next (q - (s.length + 1)) (by omega) ⟨s.length + 1, s ++ [((q * c : Nat) : Int) + (s.length : Int)], by omega, rfl, by simp, fun z hz => ?_, by simp [go_sem], g1, g2⟩
      rcases List.mem_append.1 hz with h | h
      · exact hs z h
      · rw [List.mem_singleton.1 h]; omega
    · have hyq : s.length = q := by omega
      repeat (first | (with_reducible first | refine SW.seq ?_ | refine SW.block ?_ | refine SW.rowC ?_ | refine SW.skip ?_ | refine SW.exit ?_ | intro _ | refine And.intro (by omega) ?_) | simp (config := { maxSteps := 1000000 }) (disch := (first | omega | (simp only [go_sem]; try omega))) only [go_sem, Nat.reduceAdd, Nat.reduceEqDiff, Nat.reduceLeDiff, Nat.reduceMul, Nat.reduceLT, reduceIte, Int.reduceToNat, w64_id, cast_succ])
      refine PlS.app _ (hY.keep hZf) hY.len hZ rfl (by omega) ?_
      intro v' W c1 hW
      repeat (first | (with_reducible first | refine SW.seq ?_ | refine SW.block ?_ | refine SW.rowC ?_ | refine SW.skip ?_ | refine SW.exit ?_ | intro _ | refine And.intro (by omega) ?_) | simp (config := { maxSteps := 1000000 }) (disch := (first | omega | (simp only [go_sem]; try omega))) only [go_sem, Nat.reduceAdd, Nat.reduceEqDiff, Nat.reduceLeDiff, Nat.reduceMul, Nat.reduceLT, reduceIte, Int.reduceToNat, w64_id, cast_succ, c1.1, c1.2])
      refine SLoop.next (q - (c + 1)) (by omega) ⟨c + 1, v', xss ++ [s], by omega, rfl, by simp [go_sem], hW, by simp [hxl], fun x hx => ?_⟩
      rcases List.mem_append.1 hx with h | h
      · exact hxs x h
      · rw [List.mem_singleton.1 h]; exact ⟨by omega, hs⟩
  · have hcq : c = q := by omega
    subst hcq
    repeat (first | (with_reducible first | refine SW.seq ?_ | refine SW.block ?_ | refine SW.rowC ?_ | refine SW.skip ?_ | refine SW.exit ?_ | intro _ | refine And.intro (by omega) ?_) | simp (config := { maxSteps := 1000000 }) (disch := (first | omega | (simp only [go_sem]; try omega))) only [go_sem, Nat.reduceAdd, Nat.reduceEqDiff, Nat.reduceLeDiff, Nat.reduceMul, Nat.reduceLT, reduceIte, Int.reduceToNat, w64_id, cast_succ])
    refine SW.loopE (fun E0 H0 m E' Y => ∃ (a : Nat) (v : AV) (xss : List (List Int)), a ≤ c ∧ m = c - a ∧ E' = aput (aput E0 4 v) 8 (I a) ∧ PlS H Y c v xss ∧ xss.length = c + c * a ∧ ∀ x ∈ xss, x.length ≤ 31 ∧ ∀ z ∈ x, 0 ≤ z ∧ z < ((c * c : Nat) : Int)) c
      ⟨0, v, xss, by omega, by omega, rfl, hY, by omega, hxs⟩ ?_
    clear hxs hY hvo hxl
    rintro m E' Y ⟨a, v, xss, ha, rfl, rfl, hY, hxl, hxs⟩
    have hvo := hY.tab.one
    simp (config := { maxSteps := 1000000 }) (disch := (first | omega | (simp only [go_sem]; try omega))) only [go_sem, Nat.reduceAdd, Nat.reduceEqDiff, Nat.reduceLeDiff, Nat.reduceMul, Nat.reduceLT, reduceIte, Int.reduceToNat, w64_id, cast_succ]
    repeat (first | (with_reducible first | refine SW.seq ?_ | refine SW.block ?_ | refine SW.rowC ?_ | refine SW.skip ?_ | refine SW.exit ?_ | intro _ | refine And.intro (by omega) ?_) | simp (config := { maxSteps := 1000000 }) (disch := (first | omega | (simp only [go_sem]; try omega))) only [go_sem, Nat.reduceAdd, Nat.reduceEqDiff, Nat.reduceLeDiff, Nat.reduceMul, Nat.reduceLT, reduceIte, Int.reduceToNat, w64_id, cast_succ])
    (first | refine SW.condD rfl (fun h2 => ?_) (fun h2 => ?_) | refine SW.condN rfl (fun h2 => ?_) (fun h2 => ?_) | refine SW.condNB rfl (fun h2 => ?_) (fun h2 => ?_) | refine SW.condB rfl (fun h2 => ?_) (fun h2 => ?_))
    · have hac : a < c := by omega
      have hca : c * a + c ≤ c * c := by
        have := Nat.mul_le_mul_left c (show a + 1 ≤ c by omega)
        rw [Nat.mul_add, Nat.mul_one] at this
        exact this
      repeat (first | (with_reducible first | refine SW.seq ?_ | refine SW.block ?_ | refine SW.rowC ?_ | refine SW.skip ?_ | refine SW.exit ?_ | intro _ | refine And.intro (by omega) ?_) | simp (config := { maxSteps := 1000000 }) (disch := (first | omega | (simp only [go_sem]; try omega))) only [go_sem, Nat.reduceAdd, Nat.reduceEqDiff, Nat.reduceLeDiff, Nat.reduceMul, Nat.reduceLT, reduceIte, Int.reduceToNat, w64_id, cast_succ])
      refine SW.loopE (fun E0 H0 m E' Y => ∃ (b : Nat) (v : AV) (xss : List (List Int)), b ≤ c ∧ m = c - b ∧ E' = aput (aput E0 4 v) 9 (I b) ∧ PlS H Y c v xss ∧ xss.length = c + c * a + b ∧ ∀ x ∈ xss, x.length ≤ 31 ∧ ∀ z ∈ x, 0 ≤ z ∧ z < ((c * c : Nat) : Int)) c
        ⟨0, v, xss, by omega, by omega, rfl, hY, by omega, hxs⟩ ?_
      clear hxs hY hvo hxl
      rintro m E' Y ⟨b, v, xss, hb, rfl, rfl, hY, hxl, hxs⟩
      have hvo := hY.tab.one
      simp (config := { maxSteps := 1000000 }) (disch := (first | omega | (simp only [go_sem]; try omega))) only [go_sem, Nat.reduceAdd, Nat.reduceEqDiff, Nat.reduceLeDiff, Nat.reduceMul, Nat.reduceLT, reduceIte, Int.reduceToNat, w64_id, cast_succ]
      repeat (first | (with_reducible first | refine SW.seq ?_ | refine SW.block ?_ | refine SW.rowC ?_ | refine SW.skip ?_ | refine SW.exit ?_ | intro _ | refine And.intro (by omega) ?_) | simp (config := { maxSteps := 1000000 }) (disch := (first | omega | (simp only [go_sem]; try omega))) only [go_sem, Nat.reduceAdd, Nat.reduceEqDiff, Nat.reduceLeDiff, Nat.reduceMul, Nat.reduceLT, reduceIte, Int.reduceToNat, w64_id, cast_succ])
      (first | refine SW.condD rfl (fun h3 => ?_) (fun h3 => ?_) | refine SW.condN rfl (fun h3 => ?_) (fun h3 => ?_) | refine SW.condNB rfl (fun h3 => ?_) (fun h3 => ?_) | refine SW.condB rfl (fun h3 => ?_) (fun h3 => ?_))
      · have hbc : b < c := by omega
        repeat (first | (with_reducible first | refine SW.seq ?_ | refine SW.block ?_ | refine SW.rowC ?_ | refine SW.skip ?_ | refine SW.exit ?_ | intro _ | refine And.intro (by omega) ?_) | simp (config := { maxSteps := 1000000 }) (disch := (first | omega | (simp only [go_sem]; try omega))) only [go_sem, Nat.reduceAdd, Nat.reduceEqDiff, Nat.reduceLeDiff, Nat.reduceMul, Nat.reduceLT, reduceIte, Int.reduceToNat, w64_id, cast_succ])
        refine SW.loopE (fun E0 H0 m E' Z => ∃ (y : Nat) (s : List Int), y ≤ c ∧ m = c - y ∧ s.length = y ∧ (∀ z ∈ s, 0 ≤ z ∧ z < ((c * c : Nat) : Int)) ∧ E' = aput (aput E0 10 (.nm Y.length y 0 y)) 11 (I y) ∧ Z[Y.length]? = some ⟨y, 2, 1, s.map I⟩ ∧ ∀ j, j < Y.length → Z[j]? = Y[j]?) c
          ⟨0, [], by omega, by omega, rfl, by simp, rfl, by simp, fun j hj => by rw [List.getElem?_append_left hj]⟩ ?_
        rintro m E' Z ⟨_, s, hy, rfl, rfl, hs, rfl, hZ, hZf⟩
        have hZl := (List.getElem?_eq_some_iff.1 hZ).1
        have hfd := (hY.keep hZf).fd
        simp (config := { maxSteps := 1000000 }) (disch := (first | omega | (simp only [go_sem]; try omega))) only [go_sem, Nat.reduceAdd, Nat.reduceEqDiff, Nat.reduceLeDiff, Nat.reduceMul, Nat.reduceLT, reduceIte, Int.reduceToNat, w64_id, cast_succ]
        repeat (first | (with_reducible first | refine SW.seq ?_ | refine SW.block ?_ | refine SW.rowC ?_ | refine SW.skip ?_ | refine SW.exit ?_ | intro _ | refine And.intro (by omega) ?_) | simp (config := { maxSteps := 1000000 }) (disch := (first | omega | (simp only [go_sem]; try omega))) only [go_sem, Nat.reduceAdd, Nat.reduceEqDiff, Nat.reduceLeDiff, Nat.reduceMul, Nat.reduceLT, reduceIte, Int.reduceToNat, w64_id, cast_succ])
        (first | refine SW.condD rfl (fun h4 => ?_) (fun h4 => ?_) | refine SW.condN rfl (fun h4 => ?_) (fun h4 => ?_) | refine SW.condNB rfl (fun h4 => ?_) (fun h4 => ?_) | refine SW.condB rfl (fun h4 => ?_) (fun h4 => ?_))
        · have hyq : s.length < c := by omega
          have hcy : c * s.length + c ≤ c * c := by
            have := Nat.mul_le_mul_left c (show s.length + 1 ≤ c by omega)
            rw [Nat.mul_add, Nat.mul_one] at this
            exact this
          have e1 : (c : Int) * (s.length : Int) = ((c * s.length : Nat) : Int) := by simp
          have hmul := l03Mul_fn Z (H.length + 1) c a s.length hfd h1 h5 (by omega) (by omega)
          have hmb := mulV_bd (q := c) (a := a) (b := s.length) h1 h5
          obtain ⟨u, hu⟩ := Int.eq_ofNat_of_zero_le hmb.1
          have hsum := l03Sum_fn Z (H.length + 1) c u b 1 hfd h1 h5 (by omega) (by omega) (by omega)
          have hsb := sumV_bd (q := c) (a := u) (b := b) (k := 1) h1 h5 (by omega)
          rw [hu] at hmul
          generalize hsv : sumV c u b 1 = sv at *
          repeat (first | (with_reducible first | refine SW.seq ?_ | refine SW.block ?_ | refine SW.rowC ?_ | refine SW.skip ?_ | refine SW.exit ?_ | intro _ | refine And.intro (by omega) ?_) | simp (config := { maxSteps := 1000000 }) (disch := (first | omega | (simp only [go_sem]; try omega))) only [go_sem, Nat.reduceAdd, Nat.reduceEqDiff, Nat.reduceLeDiff, Nat.reduceMul, Nat.reduceLT, reduceIte, Int.reduceToNat, w64_id, cast_succ, e1])
          refine ACalls.fn hmul ?_
          repeat (first | (with_reducible first | refine SW.seq ?_ | refine SW.block ?_ | refine SW.rowC ?_ | refine SW.skip ?_ | refine SW.exit ?_ | intro _ | refine And.intro (by omega) ?_) | simp (config := { maxSteps := 1000000 }) (disch := (first | omega | (simp only [go_sem]; try omega))) only [go_sem, Nat.reduceAdd, Nat.reduceEqDiff, Nat.reduceLeDiff, Nat.reduceMul, Nat.reduceLT, reduceIte, Int.reduceToNat, w64_id, cast_succ, e1])
          refine ACalls.fn hsum ?_
          repeat (first | (with_reducible first | refine SW.seq ?_ | refine SW.block ?_ | refine SW.rowC ?_ | refine SW.skip ?_ | refine SW.exit ?_ | intro _ | refine And.intro (by omega) ?_) | simp (config := { maxSteps := 1000000 }) (disch := (first | omega | (simp only [go_sem]; try omega))) only [go_sem, Nat.reduceAdd, Nat.reduceEqDiff, Nat.reduceLeDiff, Nat.reduceMul, Nat.reduceLT, reduceIte, Int.reduceToNat, w64_id, cast_succ, e1])
          refine appNC (get_appU hZ _) (by omega) ?_
          obtain ⟨g1, g2⟩ := rowPush (b := ⟨0, 2, 1, [I (((c * s.length : Nat) : Int) + sv)]⟩) (x := ((c * s.length : Nat) : Int) + sv) hZ (Nat.le_refl _) hZf
          generalize List.set (Z ++ [(⟨0, 2, 1, [I (((c * s.length : Nat) : Int) + sv)]⟩ : Blk)]) Y.length ⟨s.length + 1, 2, 1, s.map I ++ [I (((c * s.length : Nat) : Int) + sv)]⟩ = W at *
          repeat (first | (with_reducible first | refine SW.seq ?_ | refine SW.block ?_ | refine SW.rowC ?_ | refine SW.skip ?_ | refine SW.exit ?_ | intro _ | refine And.intro (by omega) ?_) | simp (config := { maxSteps := 1000000 }) (disch := (first | omega | (simp only [go_sem]; try omega))) only [go_sem, Nat.reduceAdd, Nat.reduceEqDiff, Nat.reduceLeDiff, Nat.reduceMul, Nat.reduceLT, reduceIte, Int.reduceToNat, w64_id, cast_succ])
          refine SLoop.next (c - (s.length + 1)) (by omega) ⟨s.length + 1, s ++ [((c * s.length : Nat) : Int) + sv], by omega, rfl, by simp, fun z hz => ?_, by simp [go_sem], g1, g2⟩
          rcases List.mem_append.1 hz with h | h
          · exact hs z h
          · rw [List.mem_singleton.1 h]; omega
        · have hyq : s.length = c := by omega
          repeat (first | (with_reducible first | refine SW.seq ?_ | refine SW.block ?_ | refine SW.rowC ?_ | refine SW.skip ?_ | refine SW.exit ?_ | intro _ | refine And.intro (by omega) ?_) | simp (config := { maxSteps := 1000000 }) (disch := (first | omega | (simp only [go_sem]; try omega))) only [go_sem, Nat.reduceAdd, Nat.reduceEqDiff, Nat.reduceLeDiff, Nat.reduceMul, Nat.reduceLT, reduceIte, Int.reduceToNat, w64_id, cast_succ])
          refine PlS.app _ (hY.keep hZf) hY.len hZ rfl (by omega) ?_
          intro v' W c1 hW
          repeat (first | (with_reducible first | refine SW.seq ?_ | refine SW.block ?_ | refine SW.rowC ?_ | refine SW.skip ?_ | refine SW.exit ?_ | intro _ | refine And.intro (by omega) ?_) | simp (config := { maxSteps := 1000000 }) (disch := (first | omega | (simp only [go_sem]; try omega))) only [go_sem, Nat.reduceAdd, Nat.reduceEqDiff, Nat.reduceLeDiff, Nat.reduceMul, Nat.reduceLT, reduceIte, Int.reduceToNat, w64_id, cast_succ, c1.1, c1.2])
          refine SLoop.next (c - (b + 1)) (by omega) ⟨b + 1, v', xss ++ [s], by omega, rfl, by simp [go_sem], hW, by simp [hxl]; omega, fun x hx => ?_⟩
          rcases List.mem_append.1 hx with h | h
          · exact hxs x h
          · rw [List.mem_singleton.1 h]; exact ⟨by omega, hs⟩
      · have hbc : b = c := by omega
        subst hbc
        repeat (first | (with_reducible first | refine SW.seq ?_ | refine SW.block ?_ | refine SW.rowC ?_ | refine SW.skip ?_ | refine SW.exit ?_ | intro _ | refine And.intro (by omega) ?_) | simp (config := { maxSteps := 1000000 }) (disch := (first | omega | (simp only [go_sem]; try omega))) only [go_sem, Nat.reduceAdd, Nat.reduceEqDiff, Nat.reduceLeDiff, Nat.reduceMul, Nat.reduceLT, reduceIte, Int.reduceToNat, w64_id, cast_succ])
        refine SLoop.next (b - (a + 1)) (by omega) ⟨a + 1, v, xss, by omega, rfl, by simp [go_sem], hY, by rw [hxl, Nat.mul_add]; omega, hxs⟩
    · have hac : a = c := by omega
      subst hac
      obtain ⟨ext, he⟩ := ext_ofD (H := H) (H1 := Y) (by have := hY.len; omega) (fun j hj => hY.fr j (by omega))
      subst he
      refine SW.renKL (js := [some H.length]) (H2 := [⟨0, tyDz, 1, [I 0, nilS]⟩]) (E' := [(0, I a), (2, .pc H.length 0 0), (3, .junk), (4, ilSS xss), (8, I a), (40, Bv (decide ((a : Int) < (a : Int))))]) rfl hB (Nat.le_refl _) (renOk_oneK rfl (Nat.le_refl _) (ver := 0) (cells := [I 0, nilS]) hY.box (by omega) (Nat.le_refl _) (fun i c c' g1 g2 => box_ren g1 g2)) (.cons _ (ren_I _) (.cons _ (.pc 0 H.length 0 0 _ rfl hY.box rfl) (.cons _ (.junk _) (.cons _ (ren_tabF hY.tab (fun r hr => ⟨by omega, by simp; omega⟩)) (.cons _ (ren_I _) (.cons _ (ren_B _) .nil)))))) ?_
      repeat (first | (with_reducible first | refine SW.seq ?_ | refine SW.block ?_ | refine SW.rowC ?_ | refine SW.skip ?_ | refine SW.exit ?_ | intro _ | refine And.intro (by omega) ?_) | simp (config := { maxSteps := 1000000 }) (disch := (first | omega | (simp only [go_sem]; try omega))) only [go_sem, Nat.reduceAdd, Nat.reduceEqDiff, Nat.reduceLeDiff, Nat.reduceMul, Nat.reduceLT, reduceIte, Int.reduceToNat, w64_id, cast_succ])
      have hsl1 : xss.length ≤ 31 := by
        have := Nat.mul_le_mul h5 h5
        rcases fd_cases h1 h5 with rfl | rfl | rfl | rfl <;> omega
      refine (l10Sort_newL _ (ilSS xss) xss rfl (by omega) (fun x hx => by have := (hxs x hx).1; omega)).mono ?_
      rintro r Z ⟨ver, rfl, rfl⟩
      have hsp := (sortD_fact cmpL_tot xss).1
      have hsl : (sortD cmpL xss).length = xss.length := hsp.length_eq
      have hsx : PlX ((a * a : Nat) : Int) (sortD cmpL xss) := ⟨by omega, by omega, by omega, by omega, fun x hx => hxs x (hsp.mem_iff.1 hx)⟩
      generalize sortD cmpL xss = S at *
      have hzl : (H ++ [(⟨0, tyDz, 1, [I 0, nilS]⟩ : Blk)]).length = H.length + 1 := by simp
      rw [hzl, List.append_assoc]
      have e1 : (a : Int) * (a : Int) = ((a * a : Nat) : Int) := by simp
      repeat (first | (with_reducible first | refine SW.seq ?_ | refine SW.block ?_ | refine SW.rowC ?_ | refine SW.skip ?_ | refine SW.exit ?_ | intro _ | refine And.intro (by omega) ?_) | simp (config := { maxSteps := 1000000 }) (disch := (first | omega | (simp only [go_sem]; try omega))) only [go_sem, Nat.reduceAdd, Nat.reduceEqDiff, Nat.reduceLeDiff, Nat.reduceMul, Nat.reduceLT, reduceIte, Int.reduceToNat, w64_id, cast_succ, e1])
      refine SW.ret ?_
      refine FunPost.cell (cs := [I ((a * a : Nat) : Int), .nm (H.length + 1) ver 0 xss.length]) ?_ ?_
      · show acells _ 2 (.pc H.length 0 0) = _
        rw [ld_at (A := H) (q := H.length) (j := 0) (ver := 0) (ty := tyDz) (sz := 1) (off := 0) (n := 2) (cells := [I ((a * a : Nat) : Int), .nm (H.length + 1) ver 0 xss.length]) (by omega) rfl (Nat.le_refl 2)]; rfl
      have hfz := froz_rowS (H := H ++ [(⟨0, tyDz, 1, [I ((a * a : Nat) : Int), .nm (H.length + 1) ver 0 xss.length]⟩ : Blk), ⟨ver, tyLL, 1, S.map ilS⟩]) (b := H.length) (r := H.length + 1) (ver := ver) (ty := tyLL) (xs := S) (by omega) (hg0 _ 1)
      rw [hsl] at hfz
      exact GR.froz (r' := .agg [I ((a * a : Nat) : Int), ilSS S]) (froz_agg2 (froz_I' _) hfz) ⟨_, S, rfl, hsx, rfl⟩
end Go.Proofs.Ytnlfokkljgbaaaa
namespace Go.Proofs.Ytnlfokkljgbaaaa
open Go.Av
abbrev f_spec_l12Triples : Nat := 62
def c_spec_l12Triples : SC :=
 .seq (.reg [
     ⟨(some 2), .mv (.const (.slice none 0 0)), none⟩] [0])
 (.seq (.reg [
     ⟨(some 7), .bslice 2 1 3 [(.int .i64 0), (.int .i64 0), (.int .i64 0)] [(0, (.const (.int .i64 0))), (1, (.const (.int .i64 0))), (2, (.const (.int .i64 1)))], none⟩,
     ⟨(some 8), .bslice 29 1 1 [(.slice none 0 0)] [(0, (.tmp 7))], none⟩,
     ⟨(some 3), .mv (.tmp 8), none⟩] [0, 3])
 (.seq (.seq (.reg [
     ⟨(some 4), .mv (.const (.int .i64 0)), none⟩] [0, 3, 4])
 (.block 0 (.loop [0, 3, 4]
   (.seq (.seq (.reg [
       ⟨(some 9), .mv (.tmp 4), none⟩,
       ⟨(some 10), .mv (.tmp 0), none⟩,
       ⟨(some 11), .bin .lss (.tmp 9) (.tmp 10), none⟩] [0, 3, 4, 11])
   (.cond (.tmp 11)
    (.skip)
    (.exit 0)))
   (.seq (.block 1 (.reg [
        ⟨(some 14), .mv (.tmp 3), none⟩,
        ⟨(some 15), .mv (.tmp 4), none⟩,
        ⟨(some 16), .bslice 2 1 3 [(.int .i64 0), (.int .i64 0), (.int .i64 0)] [(0, (.const (.int .i64 0))), (1, (.const (.int .i64 1))), (2, (.tmp 15))], none⟩,
        ⟨(some 17), .bslice 29 1 1 [(.slice none 0 0)] [(0, (.tmp 16))], none⟩,
        ⟨(some 18), .app 29 1 24 (.tmp 14) (.tmp 17), none⟩,
        ⟨(some 3), .mv (.tmp 18), none⟩] [0, 3, 4]))
   (.reg [
       ⟨(some 12), .mv (.tmp 4), none⟩,
       ⟨(some 13), .bin .add (.tmp 12) (.const (.int .i64 1)), none⟩,
       ⟨(some 4), .mv (.tmp 13), none⟩] [0, 3, 4]))))))
 (.seq (.seq (.reg [
     ⟨(some 5), .mv (.const (.int .i64 0)), none⟩] [0, 3, 5])
 (.block 2 (.loop [0, 3, 5]
   (.seq (.seq (.reg [
       ⟨(some 19), .mv (.tmp 5), none⟩,
       ⟨(some 20), .mv (.tmp 0), none⟩,
       ⟨(some 21), .bin .lss (.tmp 19) (.tmp 20), none⟩] [0, 3, 5, 21])
   (.cond (.tmp 21)
    (.skip)
    (.exit 2)))
   (.seq (.block 3 (.seq (.reg [
        ⟨(some 6), .mv (.const (.int .i64 0)), none⟩] [0, 3, 5, 6])
    (.block 4 (.loop [0, 3, 5, 6]
      (.seq (.seq (.reg [
          ⟨(some 24), .mv (.tmp 6), none⟩,
          ⟨(some 25), .mv (.tmp 0), none⟩,
          ⟨(some 26), .bin .lss (.tmp 24) (.tmp 25), none⟩] [0, 3, 5, 6, 26])
      (.cond (.tmp 26)
       (.skip)
       (.exit 4)))
      (.seq (.block 5 (.reg [
           ⟨(some 29), .mv (.tmp 3), none⟩,
           ⟨(some 30), .mv (.tmp 5), none⟩,
           ⟨(some 31), .mv (.tmp 6), none⟩,
           ⟨(some 32), .bslice 2 1 3 [(.int .i64 0), (.int .i64 0), (.int .i64 0)] [(0, (.const (.int .i64 1))), (1, (.tmp 30)), (2, (.tmp 31))], none⟩,
           ⟨(some 33), .bslice 29 1 1 [(.slice none 0 0)] [(0, (.tmp 32))], none⟩,
           ⟨(some 34), .app 29 1 24 (.tmp 29) (.tmp 33), none⟩,
           ⟨(some 3), .mv (.tmp 34), none⟩] [0, 3, 5, 6]))
      (.reg [
          ⟨(some 27), .mv (.tmp 6), none⟩,
          ⟨(some 28), .bin .add (.tmp 27) (.const (.int .i64 1)), none⟩,
          ⟨(some 6), .mv (.tmp 28), none⟩] [0, 3, 5, 6])))))))
   (.reg [
       ⟨(some 22), .mv (.tmp 5), none⟩,
       ⟨(some 23), .bin .add (.tmp 22) (.const (.int .i64 1)), none⟩,
       ⟨(some 5), .mv (.tmp 23), none⟩] [0, 3, 5]))))))
 (.seq (.reg [
     ⟨(some 35), .mv (.tmp 3), none⟩,
     ⟨(some 2), .mv (.tmp 35), none⟩] [2])
 (.ret)))))
theorem s_spec_l12Triples : stripF Try.prog 62 [[0], [0, 3], [0, 3, 4], [0, 3, 4], [0, 3, 4, 11], [0, 3, 4], [0, 3, 4], [0, 3, 5], [0, 3, 5], [0, 3, 5, 21], [0, 3, 5, 6], [0, 3, 5, 6], [0, 3, 5, 6, 26], [0, 3, 5, 6], [0, 3, 5, 6], [0, 3, 5], [2]] = some (c_spec_l12Triples, [.tmp 2], 36) := by kernel_rfl
structure TrS (H Y : List Blk) (v : AV) (xss : List (List Int)) : Prop where
  tab : TabF Y (fun r => H.length ≤ r) v xss
  len : H.length ≤ Y.length
  fr : ∀ j, j < H.length → Y[j]? = H[j]?
theorem TrS.app {H Y : List Blk} {v : AV} {xss : List (List Int)} {s : List Int} {cs : List AV} {n : Nat} {K : AV → List Blk → Prop} (h : TrS H Y v xss) (hc : cs = s.map I) (hn : s.length = n) (hl : xss.length ≤ 1000)
    (hk : ∀ v' W, v'.cell1 = true ∧ partsOf v' = [v'] → TrS H W v' (xss ++ [s]) → K v' W) : AppX tyLL 1 24 (Y ++ [⟨0, 2, 1, cs⟩, ⟨0, tyLL, 1, [.nm Y.length 0 0 n]⟩]) v K (some (1, [.nm Y.length 0 0 n])) := by
  subst hc
  have hYl := h.len
  refine TabF.app (N := fun r => H.length ≤ r) (yss := [s]) (h.tab.same (fun r hr _ => hr) (fun j b _ hb => get_appU hb _)) rfl (fun j c ys g1 g2 => ?_) (by simp; omega) (by simp; omega) ?_
  · cases j with
    | succ j => simp at g1
    | zero =>
      simp at g1 g2
      subst g1; subst g2
      exact .inr (.inr ⟨Y.length, 0, by rw [hn], hYl, by rw [List.getElem?_append_right (Nat.le_refl _), Nat.sub_self]; rfl⟩)
  intro v' W c1 hWl hWt hWf hWn
  exact hk v' W c1 ⟨hWt, by simp at hWl; omega, fun j hj => by rw [hWn j (by omega) (by simp; omega), List.getElem?_append_left (by omega)]; exact h.fr j hj⟩
def TrX (q : Nat) (xss : List (List Int)) : Prop := ∀ x ∈ xss, x.length = 3 ∧ OkD q x
theorem TrX.snoc {q : Nat} {xss : List (List Int)} (h : TrX q xss) {a b c : Int} (ha : 0 ≤ a ∧ a < q) (hb : 0 ≤ b ∧ b < q) (hc : 0 ≤ c ∧ c < q) : TrX q (xss ++ [[a, b, c]]) := fun x hx => by
  rcases List.mem_append.1 hx with h' | h'
  · exact h x h'
  · rw [List.mem_singleton.1 h']
    exact ⟨rfl, fun z hz => by simp at hz; rcases hz with rfl | rfl | rfl <;> assumption⟩
theorem l12Triples_ok (H : List Blk) (q : Nat) (h1 : 2 ≤ q) (h5 : q ≤ 5) : ACalls Try.prog f_spec_l12Triples [I q] H (fun r H' => ∃ (xss : List (List Int)), r = ilSS xss ∧ TrX q xss ∧ xss.length = q * q + q + 1 ∧ H' = H) := by
  refine ACalls.introB s_spec_l12Triples (by simp) ?_; intro hB hA; unfold c_spec_l12Triples; simp (config := { maxSteps := 1000000 }) (disch := (first | omega | (simp only [go_sem]; try omega))) only [go_sem, Nat.reduceAdd, Nat.reduceEqDiff, Nat.reduceLeDiff, Nat.reduceMul, Nat.reduceLT, reduceIte, Int.reduceToNat, w64_id, cast_succ]
  repeat (first | (with_reducible first | refine SW.seq ?_ | refine SW.block ?_ | refine SW.rowC ?_ | refine SW.skip ?_ | refine SW.exit ?_ | intro _ | refine And.intro (by omega) ?_) | simp (config := { maxSteps := 1000000 }) (disch := (first | omega | (simp only [go_sem]; try omega))) only [go_sem, Nat.reduceAdd, Nat.reduceEqDiff, Nat.reduceLeDiff, Nat.reduceMul, Nat.reduceLT, reduceIte, Int.reduceToNat, w64_id, cast_succ])
  have hqq : 4 ≤ q * q ∧ q * q ≤ 25 := ⟨Nat.mul_le_mul h1 h1, Nat.mul_le_mul h5 h5⟩
  have hg0 : ∀ (bs : List Blk) (j : Nat), (H ++ bs)[H.length + j]? = bs[j]? := fun bs j => by rw [List.getElem?_append_right (by omega), Nat.add_sub_cancel_left]
  have hs0 : TrX q ([] ++ [[0, 0, 1]]) := TrX.snoc (fun x h => by simp at h) (by omega) (by omega) (by omega)
  refine SW.loopE (fun E0 H0 m E' Y => ∃ (c : Nat) (v : AV) (xss : List (List Int)), c ≤ q ∧ m = q - c ∧ E' = aput (aput E0 3 v) 4 (I c) ∧ TrS H Y v xss ∧ xss.length = c + 1 ∧ TrX q xss) q
    ⟨0, _, [[0, 0, 1]], by omega, by omega, rfl, ⟨.inr ⟨H.length + 1, 0, [.nm H.length 0 0 3], rfl, by omega, hg0 _ 1, rfl, fun j c xs h h2 => ?_⟩, by simp, fun j hj => by rw [List.getElem?_append_left hj]⟩, rfl, hs0⟩ ?_
  · cases j with
    | succ j => simp at h
    | zero =>
      simp at h h2
      subst h; subst h2
      exact .inr (.inr ⟨H.length, 0, rfl, Nat.le_refl _, hg0 _ 0⟩)
  rintro m E' Y ⟨c, v, xss, hc, rfl, rfl, hY, hxl, hxs⟩
  have hvo := hY.tab.one
  simp (config := { maxSteps := 1000000 }) (disch := (first | omega | (simp only [go_sem]; try omega))) only [go_sem, Nat.reduceAdd, Nat.reduceEqDiff, Nat.reduceLeDiff, Nat.reduceMul, Nat.reduceLT, reduceIte, Int.reduceToNat, w64_id, cast_succ]
  repeat (first | (with_reducible first | refine SW.seq ?_ | refine SW.block ?_ | refine SW.rowC ?_ | refine SW.skip ?_ | refine SW.exit ?_ | intro _ | refine And.intro (by omega) ?_) | simp (config := { maxSteps := 1000000 }) (disch := (first | omega | (simp only [go_sem]; try omega))) only [go_sem, Nat.reduceAdd, Nat.reduceEqDiff, Nat.reduceLeDiff, Nat.reduceMul, Nat.reduceLT, reduceIte, Int.reduceToNat, w64_id, cast_succ])
  (first | refine SW.condD rfl (fun h2 => ?_) (fun h2 => ?_) | refine SW.condN rfl (fun h2 => ?_) (fun h2 => ?_) | refine SW.condNB rfl (fun h2 => ?_) (fun h2 => ?_) | refine SW.condB rfl (fun h2 => ?_) (fun h2 => ?_))
  · have hcq : c < q := by omega
    repeat (first | (with_reducible first | refine SW.seq ?_ | refine SW.block ?_ | refine SW.rowC ?_ | refine SW.skip ?_ | refine SW.exit ?_ | intro _ | refine And.intro (by omega) ?_) | simp (config := { maxSteps := 1000000 }) (disch := (first | omega | (simp only [go_sem]; try omega))) only [go_sem, Nat.reduceAdd, Nat.reduceEqDiff, Nat.reduceLeDiff, Nat.reduceMul, Nat.reduceLT, reduceIte, Int.reduceToNat, w64_id, cast_succ])
    refine TrS.app (s := [0, 1, (c : Int)]) hY rfl rfl (by omega) ?_
    intro v' W c1 hW
    repeat (first | (with_reducible first | refine SW.seq ?_ | refine SW.block ?_ | refine SW.rowC ?_ | refine SW.skip ?_ | refine SW.exit ?_ | intro _ | refine And.intro (by omega) ?_) | simp (config := { maxSteps := 1000000 }) (disch := (first | omega | (simp only [go_sem]; try omega))) only [go_sem, Nat.reduceAdd, Nat.reduceEqDiff, Nat.reduceLeDiff, Nat.reduceMul, Nat.reduceLT, reduceIte, Int.reduceToNat, w64_id, cast_succ, c1.1, c1.2])
    exact SLoop.next (q - (c + 1)) (by omega) ⟨c + 1, v', _, by omega, rfl, by simp [go_sem], hW, by simp [hxl], hxs.snoc (by omega) (by omega) (by omega)⟩
  · have hcq : c = q := by omega
    subst hcq
    repeat (first | (with_reducible first | refine SW.seq ?_ | refine SW.block ?_ | refine SW.rowC ?_ | refine SW.skip ?_ | refine SW.exit ?_ | intro _ | refine And.intro (by omega) ?_) | simp (config := { maxSteps := 1000000 }) (disch := (first | omega | (simp only [go_sem]; try omega))) only [go_sem, Nat.reduceAdd, Nat.reduceEqDiff, Nat.reduceLeDiff, Nat.reduceMul, Nat.reduceLT, reduceIte, Int.reduceToNat, w64_id, cast_succ])
    refine SW.loopE (fun E0 H0 m E' Y => ∃ (a : Nat) (v : AV) (xss : List (List Int)), a ≤ c ∧ m = c - a ∧ E' = aput (aput E0 3 v) 5 (I a) ∧ TrS H Y v xss ∧ xss.length = c + 1 + c * a ∧ TrX c xss) c
      ⟨0, v, xss, by omega, by omega, rfl, hY, by omega, hxs⟩ ?_
    clear hxs hY hvo hxl
    rintro m E' Y ⟨a, v, xss, ha, rfl, rfl, hY, hxl, hxs⟩
    have hvo := hY.tab.one
    simp (config := { maxSteps := 1000000 }) (disch := (first | omega | (simp only [go_sem]; try omega))) only [go_sem, Nat.reduceAdd, Nat.reduceEqDiff, Nat.reduceLeDiff, Nat.reduceMul, Nat.reduceLT, reduceIte, Int.reduceToNat, w64_id, cast_succ]
    repeat (first | (with_reducible first | refine SW.seq ?_ | refine SW.block ?_ | refine SW.rowC ?_ | refine SW.skip ?_ | refine SW.exit ?_ | intro _ | refine And.intro (by omega) ?_) | simp (config := { maxSteps := 1000000 }) (disch := (first | omega | (simp only [go_sem]; try omega))) only [go_sem, Nat.reduceAdd, Nat.reduceEqDiff, Nat.reduceLeDiff, Nat.reduceMul, Nat.reduceLT, reduceIte, Int.reduceToNat, w64_id, cast_succ])
    (first | refine SW.condD rfl (fun h3 => ?_) (fun h3 => ?_) | refine SW.condN rfl (fun h3 => ?_) (fun h3 => ?_) | refine SW.condNB rfl (fun h3 => ?_) (fun h3 => ?_) | refine SW.condB rfl (fun h3 => ?_) (fun h3 => ?_))
    · have hac : a < c := by omega
      have hca : c * a + c ≤ c * c := by
        have := Nat.mul_le_mul_left c (show a + 1 ≤ c by omega)
        rw [Nat.mul_add, Nat.mul_one] at this
        exact this
      repeat (first | (with_reducible first | refine SW.seq ?_ | refine SW.block ?_ | refine SW.rowC ?_ | refine SW.skip ?_ | refine SW.exit ?_ | intro _ | refine And.intro (by omega) ?_) | simp (config := { maxSteps := 1000000 }) (disch := (first | omega | (simp only [go_sem]; try omega))) only [go_sem, Nat.reduceAdd, Nat.reduceEqDiff, Nat.reduceLeDiff, Nat.reduceMul, Nat.reduceLT, reduceIte, Int.reduceToNat, w64_id, cast_succ])
      refine SW.loopE (fun E0 H0 m E' Y => ∃ (b : Nat) (v : AV) (xss : List (List Int)), b ≤ c ∧ m = c - b ∧ E' = aput (aput E0 3 v) 6 (I b) ∧ TrS H Y v xss ∧ xss.length = c + 1 + c * a + b ∧ TrX c xss) c
        ⟨0, v, xss, by omega, by omega, rfl, hY, by omega, hxs⟩ ?_
      clear hxs hY hvo hxl
      rintro m E' Y ⟨b, v, xss, hb, rfl, rfl, hY, hxl, hxs⟩
      have hvo := hY.tab.one
      simp (config := { maxSteps := 1000000 }) (disch := (first | omega | (simp only [go_sem]; try omega))) only [go_sem, Nat.reduceAdd, Nat.reduceEqDiff, Nat.reduceLeDiff, Nat.reduceMul, Nat.reduceLT, reduceIte, Int.reduceToNat, w64_id, cast_succ]
      repeat (first | (with_reducible first | refine SW.seq ?_ | refine SW.block ?_ | refine SW.rowC ?_ | refine SW.skip ?_ | refine SW.exit ?_ | intro _ | refine And.intro (by omega) ?_) | simp (config := { maxSteps := 1000000 }) (disch := (first | omega | (simp only [go_sem]; try omega))) only [go_sem, Nat.reduceAdd, Nat.reduceEqDiff, Nat.reduceLeDiff, Nat.reduceMul, Nat.reduceLT, reduceIte, Int.reduceToNat, w64_id, cast_succ])
      (first | refine SW.condD rfl (fun h4 => ?_) (fun h4 => ?_) | refine SW.condN rfl (fun h4 => ?_) (fun h4 => ?_) | refine SW.condNB rfl (fun h4 => ?_) (fun h4 => ?_) | refine SW.condB rfl (fun h4 => ?_) (fun h4 => ?_))
      · have hbc : b < c := by omega
        repeat (first | (with_reducible first | refine SW.seq ?_ | refine SW.block ?_ | refine SW.rowC ?_ | refine SW.skip ?_ | refine SW.exit ?_ | intro _ | refine And.intro (by omega) ?_) | simp (config := { maxSteps := 1000000 }) (disch := (first | omega | (simp only [go_sem]; try omega))) only [go_sem, Nat.reduceAdd, Nat.reduceEqDiff, Nat.reduceLeDiff, Nat.reduceMul, Nat.reduceLT, reduceIte, Int.reduceToNat, w64_id, cast_succ])
        refine TrS.app (s := [1, (a : Int), (b : Int)]) hY rfl rfl (by omega) ?_
        intro v' W c1 hW
        repeat (first | (with_reducible first | refine SW.seq ?_ | refine SW.block ?_ | refine SW.rowC ?_ | refine SW.skip ?_ | refine SW.exit ?_ | intro _ | refine And.intro (by omega) ?_) | simp (config := { maxSteps := 1000000 }) (disch := (first | omega | (simp only [go_sem]; try omega))) only [go_sem, Nat.reduceAdd, Nat.reduceEqDiff, Nat.reduceLeDiff, Nat.reduceMul, Nat.reduceLT, reduceIte, Int.reduceToNat, w64_id, cast_succ, c1.1, c1.2])
        exact SLoop.next (c - (b + 1)) (by omega) ⟨b + 1, v', _, by omega, rfl, by simp [go_sem], hW, by simp [hxl]; omega, hxs.snoc (by omega) (by omega) (by omega)⟩
      · have hbc : b = c := by omega
        subst hbc
        repeat (first | (with_reducible first | refine SW.seq ?_ | refine SW.block ?_ | refine SW.rowC ?_ | refine SW.skip ?_ | refine SW.exit ?_ | intro _ | refine And.intro (by omega) ?_) | simp (config := { maxSteps := 1000000 }) (disch := (first | omega | (simp only [go_sem]; try omega))) only [go_sem, Nat.reduceAdd, Nat.reduceEqDiff, Nat.reduceLeDiff, Nat.reduceMul, Nat.reduceLT, reduceIte, Int.reduceToNat, w64_id, cast_succ])
        exact SLoop.next (b - (a + 1)) (by omega) ⟨a + 1, v, xss, by omega, rfl, by simp [go_sem], hY, by rw [hxl, Nat.mul_add]; omega, hxs⟩
    · have hac : a = c := by omega
      subst hac
      repeat (first | (with_reducible first | refine SW.seq ?_ | refine SW.block ?_ | refine SW.rowC ?_ | refine SW.skip ?_ | refine SW.exit ?_ | intro _ | refine And.intro (by omega) ?_) | simp (config := { maxSteps := 1000000 }) (disch := (first | omega | (simp only [go_sem]; try omega))) only [go_sem, Nat.reduceAdd, Nat.reduceEqDiff, Nat.reduceLeDiff, Nat.reduceMul, Nat.reduceLT, reduceIte, Int.reduceToNat, w64_id, cast_succ])
      refine SW.ret ?_; (try simp only [go_sem]); (first | refine FunPost.one ?_ | refine FunPost.two ?_ | refine FunPost.three ?_); (try simp (config := { maxSteps := 1000000 }) (disch := (first | omega | (simp only [go_sem]; try omega))) only [go_sem, Nat.reduceAdd, Nat.reduceEqDiff, Nat.reduceLeDiff, Nat.reduceMul, Nat.reduceLT, reduceIte, Int.reduceToNat, w64_id, cast_succ])
      obtain ⟨ext, he⟩ := ext_ofD (H := H) (H1 := Y) hY.len hY.fr
      subst he
      exact GR.froz (hY.tab.froz (fun r hr => hr)) ⟨xss, rfl, hxs, by omega, rfl⟩
end Go.Proofs.Ytnlfokkljgbaaaa
namespace Go.Proofs.Ytnlfokkljgbaaaa
open Go.Av
abbrev f_spec_l12Space : Nat := 37
def c_spec_l12Space : SC :=
 .seq (.reg [
     ⟨(some 2), .alloc 26 [(.int .i64 0), (.slice none 0 0)], none⟩] [0, 2])
 (.seq (.reg [
     ⟨(some 11), .mv (.tmp 0), none⟩,
     ⟨(some 12), .call 58 [(.tmp 11)], none⟩,
     ⟨(some 3), .alloc 90 [(.int .i64 0), (.int .i64 0), (.slice none 0 0)], none⟩,
     ⟨none, .store 3 (.tmp 3) (.tmp 12), none⟩] [0, 2, 3])
 (.seq (.reg [
     ⟨(some 13), .mv (.tmp 0), none⟩,
     ⟨(some 14), .call 62 [(.tmp 13)], none⟩,
     ⟨(some 4), .mv (.tmp 14), none⟩] [2, 3, 4])
 (.seq (.reg [
     ⟨(some 15), .bslice 29 1 0 [] [], none⟩,
     ⟨(some 5), .mv (.tmp 15), none⟩] [2, 3, 4, 5])
 (.seq (.seq (.reg [
     ⟨(some 6), .mv (.const (.int .i64 0)), none⟩] [2, 3, 4, 5, 6])
 (.block 0 (.loop [2, 3, 4, 5, 6]
   (.seq (.seq (.reg [
       ⟨(some 16), .mv (.tmp 6), none⟩,
       ⟨(some 17), .mv (.tmp 4), none⟩,
       ⟨(some 18), .len (.tmp 17), none⟩,
       ⟨(some 19), .bin .lss (.tmp 16) (.tmp 18), none⟩] [2, 3, 4, 5, 6, 19])
   (.cond (.tmp 19)
    (.skip)
    (.exit 0)))
   (.seq (.block 1 (.seq (.reg [
        ⟨(some 22), .bslice 2 1 0 [] [], none⟩,
        ⟨(some 7), .mv (.tmp 22), none⟩] [2, 3, 4, 5, 6, 7])
    (.seq (.seq (.reg [
        ⟨(some 8), .mv (.const (.int .i64 0)), none⟩] [2, 3, 4, 5, 6, 7, 8])
    (.block 2 (.loop [2, 3, 4, 5, 6, 7, 8]
      (.seq (.seq (.reg [
          ⟨(some 23), .mv (.tmp 8), none⟩,
          ⟨(some 24), .mv (.tmp 4), none⟩,
          ⟨(some 25), .len (.tmp 24), none⟩,
          ⟨(some 26), .bin .lss (.tmp 23) (.tmp 25), none⟩] [2, 3, 4, 5, 6, 7, 8, 26])
      (.cond (.tmp 26)
       (.skip)
       (.exit 2)))
      (.seq (.block 3 (.seq (.reg [
           ⟨(some 9), .mv (.const (.int .i64 0)), none⟩] [2, 3, 4, 5, 6, 7, 8, 9])
       (.seq (.seq (.reg [
           ⟨(some 10), .mv (.const (.int .i64 0)), none⟩] [2, 3, 4, 5, 6, 7, 8, 9, 10])
       (.block 4 (.loop [2, 3, 4, 5, 6, 7, 8, 9, 10]
         (.seq (.seq (.reg [
             ⟨(some 29), .mv (.tmp 10), none⟩,
             ⟨(some 30), .bin .lss (.tmp 29) (.const (.int .i64 3)), none⟩] [2, 3, 4, 5, 6, 7, 8, 9, 10, 30])
         (.cond (.tmp 30)
          (.skip)
          (.exit 4)))
         (.seq (.block 5 (.reg [
              ⟨(some 33), .mv (.tmp 9), none⟩,
              ⟨(some 34), .mv (.tmp 4), none⟩,
              ⟨(some 35), .mv (.tmp 6), none⟩,
              ⟨(some 36), .iaddr 1 (.tmp 34) (.tmp 35), none⟩,
              ⟨(some 37), .load 1 false (.tmp 36), none⟩,
              ⟨(some 38), .mv (.tmp 10), none⟩,
              ⟨(some 39), .iaddr 1 (.tmp 37) (.tmp 38), none⟩,
              ⟨(some 40), .load 1 false (.tmp 39), none⟩,
              ⟨(some 41), .mv (.tmp 4), none⟩,
              ⟨(some 42), .mv (.tmp 8), none⟩,
              ⟨(some 43), .iaddr 1 (.tmp 41) (.tmp 42), none⟩,
              ⟨(some 44), .load 1 false (.tmp 43), none⟩,
              ⟨(some 45), .mv (.tmp 10), none⟩,
              ⟨(some 46), .iaddr 1 (.tmp 44) (.tmp 45), none⟩,
              ⟨(some 47), .load 1 false (.tmp 46), none⟩,
              ⟨(some 48), .qcall 60 [(.tmp 3), (.tmp 40), (.tmp 47)], none⟩,
              ⟨(some 49), .qcall 59 [(.tmp 3), (.tmp 33), (.tmp 48), (.const (.int .i64 1))], none⟩,
              ⟨(some 9), .mv (.tmp 49), none⟩] [2, 3, 4, 5, 6, 7, 8, 9, 10]))
         (.reg [
             ⟨(some 31), .mv (.tmp 10), none⟩,
             ⟨(some 32), .bin .add (.tmp 31) (.const (.int .i64 1)), none⟩,
             ⟨(some 10), .mv (.tmp 32), none⟩] [2, 3, 4, 5, 6, 7, 8, 9, 10]))))))
       (.seq (.reg [
           ⟨(some 50), .mv (.tmp 9), none⟩,
           ⟨(some 51), .bin .eql (.tmp 50) (.const (.int .i64 0)), none⟩] [2, 3, 4, 5, 6, 7, 8, 51])
       (.cond (.tmp 51)
        (.reg [
            ⟨(some 52), .mv (.tmp 7), none⟩,
            ⟨(some 53), .mv (.tmp 8), none⟩,
            ⟨(some 54), .bslice 2 1 1 [(.int .i64 0)] [(0, (.tmp 53))], none⟩,
            ⟨(some 55), .app 2 1 8 (.tmp 52) (.tmp 54), none⟩,
            ⟨(some 7), .mv (.tmp 55), none⟩] [2, 3, 4, 5, 6, 7, 8])
        (.skip))))))
      (.reg [
          ⟨(some 27), .mv (.tmp 8), none⟩,
          ⟨(some 28), .bin .add (.tmp 27) (.const (.int .i64 1)), none⟩,
          ⟨(some 8), .mv (.tmp 28), none⟩] [2, 3, 4, 5, 6, 7, 8]))))))
    (.reg [
        ⟨(some 56), .mv (.tmp 5), none⟩,
        ⟨(some 57), .mv (.tmp 7), none⟩,
        ⟨(some 58), .bslice 29 1 1 [(.slice none 0 0)] [(0, (.tmp 57))], none⟩,
        ⟨(some 59), .app 29 1 24 (.tmp 56) (.tmp 58), none⟩,
        ⟨(some 5), .mv (.tmp 59), none⟩] [2, 3, 4, 5, 6]))))
   (.reg [
       ⟨(some 20), .mv (.tmp 6), none⟩,
       ⟨(some 21), .bin .add (.tmp 20) (.const (.int .i64 1)), none⟩,
       ⟨(some 6), .mv (.tmp 21), none⟩] [2, 3, 4, 5, 6]))))))
 (.seq (.reg [
     ⟨(some 60), .mv (.tmp 4), none⟩,
     ⟨(some 61), .len (.tmp 60), none⟩,
     ⟨(some 62), .mv (.tmp 5), none⟩,
     ⟨(some 63), .call 61 [(.tmp 62)], none⟩,
     ⟨(some 64), .build [(.int .i64 0), (.slice none 0 0)] [(0, 1, (.tmp 61)), (1, 1, (.tmp 63))], none⟩,
     ⟨none, .store 2 (.tmp 2) (.tmp 64), none⟩] [2])
 (.ret))))))
theorem s_spec_l12Space : stripF Try.prog 37 [[0, 2], [0, 2, 3], [2, 3, 4], [2, 3, 4, 5], [2, 3, 4, 5, 6], [2, 3, 4, 5, 6], [2, 3, 4, 5, 6, 19], [2, 3, 4, 5, 6, 7], [2, 3, 4, 5, 6, 7, 8], [2, 3, 4, 5, 6, 7, 8], [2, 3, 4, 5, 6, 7, 8, 26], [2, 3, 4, 5, 6, 7, 8, 9], [2, 3, 4, 5, 6, 7, 8, 9, 10], [2, 3, 4, 5, 6, 7, 8, 9, 10], [2, 3, 4, 5, 6, 7, 8, 9, 10, 30], [2, 3, 4, 5, 6, 7, 8, 9, 10], [2, 3, 4, 5, 6, 7, 8, 9, 10], [2, 3, 4, 5, 6, 7, 8, 51], [2, 3, 4, 5, 6, 7, 8], [2, 3, 4, 5, 6, 7, 8], [2, 3, 4, 5, 6], [2, 3, 4, 5, 6], [2]] = some (c_spec_l12Space, [.cell 2 2], 65) := by kernel_rfl
theorem l12Space_ok (H : List Blk) (q : Nat) (h1 : 2 ≤ q) (h5 : q ≤ 5) : ACalls Try.prog f_spec_l12Space [I q] H (fun r H' => ∃ (v : Int) (xss : List (List Int)), r = .agg [I v, ilSS xss] ∧ PlX v xss ∧ H' = H) := by
  refine ACalls.introB s_spec_l12Space (by simp) ?_; intro hB hA; unfold c_spec_l12Space; simp (config := { maxSteps := 1000000 }) (disch := (first | omega | (simp only [go_sem]; try omega))) only [go_sem, Nat.reduceAdd, Nat.reduceEqDiff, Nat.reduceLeDiff, Nat.reduceMul, Nat.reduceLT, reduceIte, Int.reduceToNat, w64_id, cast_succ]
  have hqq : 4 ≤ q * q ∧ q * q ≤ 25 := ⟨Nat.mul_le_mul h1 h1, Nat.mul_le_mul h5 h5⟩
  have hg0 : ∀ (bs : List Blk) (j : Nat), (H ++ bs)[H.length + j]? = bs[j]? := fun bs j => by rw [List.getElem?_append_right (by omega), Nat.add_sub_cancel_left]
  repeat (first | (with_reducible first | refine SW.seq ?_ | refine SW.block ?_ | refine SW.rowC ?_ | refine SW.skip ?_ | refine SW.exit ?_ | refine PFn.use (l03Make_fn q h1 h5) ?_ | refine PFn.useq (l03Make_fn q h1 h5) ?_ | intro _ | refine And.intro (by omega) ?_) | simp (config := { maxSteps := 1000000 }) (disch := (first | omega | (simp only [go_sem]; try omega))) only [go_sem, Nat.reduceAdd, Nat.reduceEqDiff, Nat.reduceLeDiff, Nat.reduceMul, Nat.reduceLT, reduceIte, Int.reduceToNat, w64_id, cast_succ])
  refine (l12Triples_ok _ q h1 h5).mono ?_
  rintro r H1 ⟨T, rfl, hT, hTl, rfl⟩
  generalize hM : q * q + q + 1 = M at *
  have hM31 : 7 ≤ M ∧ M ≤ 31 := by omega
  repeat (first | (with_reducible first | refine SW.seq ?_ | refine SW.block ?_ | refine SW.rowC ?_ | refine SW.skip ?_ | refine SW.exit ?_ | intro _ | refine And.intro (by omega) ?_) | simp (config := { maxSteps := 1000000 }) (disch := (first | omega | (simp only [go_sem]; try omega))) only [go_sem, Nat.reduceAdd, Nat.reduceEqDiff, Nat.reduceLeDiff, Nat.reduceMul, Nat.reduceLT, reduceIte, Int.reduceToNat, w64_id, cast_succ])
  refine SW.loopE (fun E0 H0 m E' Y => ∃ (i : Nat) (v : AV) (xss : List (List Int)), i ≤ M ∧ m = M - i ∧ E' = aput (aput E0 5 v) 6 (I i) ∧ PlS H Y q v xss ∧ xss.length = i ∧ ∀ x ∈ xss, x.length ≤ 31 ∧ ∀ z ∈ x, 0 ≤ z ∧ z < (M : Int)) M
    ⟨0, _, [], by omega, by omega, rfl, ⟨hg0 _ 0, hg0 _ 1, .inr ⟨H.length + 2, 0, [], rfl, by omega, hg0 _ 2, rfl, fun j c xs h => by simp at h⟩, fun j hj => by rw [List.getElem?_append_left hj]⟩, rfl, by simp⟩ ?_
  rintro m E' Y ⟨i, v, xss, hi, rfl, rfl, hY, hxl, hxs⟩
  have hvo := hY.tab.one
  simp (config := { maxSteps := 1000000 }) (disch := (first | omega | (simp only [go_sem]; try omega))) only [go_sem, Nat.reduceAdd, Nat.reduceEqDiff, Nat.reduceLeDiff, Nat.reduceMul, Nat.reduceLT, reduceIte, Int.reduceToNat, w64_id, cast_succ]
  repeat (first | (with_reducible first | refine SW.seq ?_ | refine SW.block ?_ | refine SW.rowC ?_ | refine SW.skip ?_ | refine SW.exit ?_ | intro _ | refine And.intro (by omega) ?_) | simp (config := { maxSteps := 1000000 }) (disch := (first | omega | (simp only [go_sem]; try omega))) only [go_sem, Nat.reduceAdd, Nat.reduceEqDiff, Nat.reduceLeDiff, Nat.reduceMul, Nat.reduceLT, reduceIte, Int.reduceToNat, w64_id, cast_succ, hTl])
  (first | refine SW.condD rfl (fun h2 => ?_) (fun h2 => ?_) | refine SW.condN rfl (fun h2 => ?_) (fun h2 => ?_) | refine SW.condNB rfl (fun h2 => ?_) (fun h2 => ?_) | refine SW.condB rfl (fun h2 => ?_) (fun h2 => ?_))
  · have hiM : i < M := by omega
    have hri := hT (T.getD i []) (by rw [getD_getC (show i < T.length by omega)]; exact List.getElem_mem _)
    generalize hRi : T.getD i [] = R at *
    repeat (first | (with_reducible first | refine SW.seq ?_ | refine SW.block ?_ | refine SW.rowC ?_ | refine SW.skip ?_ | refine SW.exit ?_ | intro _ | refine And.intro (by omega) ?_) | simp (config := { maxSteps := 1000000 }) (disch := (first | omega | (simp only [go_sem]; try omega))) only [go_sem, Nat.reduceAdd, Nat.reduceEqDiff, Nat.reduceLeDiff, Nat.reduceMul, Nat.reduceLT, reduceIte, Int.reduceToNat, w64_id, cast_succ])
    refine SW.loopE (fun E0 H0 m E' Z => ∃ (k : Nat) (s : List Int), k ≤ M ∧ m = M - k ∧ s.length ≤ k ∧ (∀ z ∈ s, 0 ≤ z ∧ z < (M : Int)) ∧ E' = aput (aput E0 7 (.nm Y.length s.length 0 s.length)) 8 (I k) ∧ Z[Y.length]? = some ⟨s.length, 2, 1, s.map I⟩ ∧ ∀ j, j < Y.length → Z[j]? = Y[j]?) M
      ⟨0, [], by omega, by omega, by simp, by simp, rfl, by simp, fun j hj => by rw [List.getElem?_append_left hj]⟩ ?_
    rintro m E' Z ⟨k, s, hk, rfl, hsl, hs, rfl, hZ, hZf⟩
    have hZl := (List.getElem?_eq_some_iff.1 hZ).1
    have hfd := (hY.keep hZf).fd
    simp (config := { maxSteps := 1000000 }) (disch := (first | omega | (simp only [go_sem]; try omega))) only [go_sem, Nat.reduceAdd, Nat.reduceEqDiff, Nat.reduceLeDiff, Nat.reduceMul, Nat.reduceLT, reduceIte, Int.reduceToNat, w64_id, cast_succ]
    repeat (first | (with_reducible first | refine SW.seq ?_ | refine SW.block ?_ | refine SW.rowC ?_ | refine SW.skip ?_ | refine SW.exit ?_ | intro _ | refine And.intro (by omega) ?_) | simp (config := { maxSteps := 1000000 }) (disch := (first | omega | (simp only [go_sem]; try omega))) only [go_sem, Nat.reduceAdd, Nat.reduceEqDiff, Nat.reduceLeDiff, Nat.reduceMul, Nat.reduceLT, reduceIte, Int.reduceToNat, w64_id, cast_succ, hTl])
    (first | refine SW.condD rfl (fun h3 => ?_) (fun h3 => ?_) | refine SW.condN rfl (fun h3 => ?_) (fun h3 => ?_) | refine SW.condNB rfl (fun h3 => ?_) (fun h3 => ?_) | refine SW.condB rfl (fun h3 => ?_) (fun h3 => ?_))
    · have hkM : k < M := by omega
      have hrk := hT (T.getD k []) (by rw [getD_getC (show k < T.length by omega)]; exact List.getElem_mem _)
      generalize hRk : T.getD k [] = S at *
      repeat (first | (with_reducible first | refine SW.seq ?_ | refine SW.block ?_ | refine SW.rowC ?_ | refine SW.skip ?_ | refine SW.exit ?_ | intro _ | refine And.intro (by omega) ?_) | simp (config := { maxSteps := 1000000 }) (disch := (first | omega | (simp only [go_sem]; try omega))) only [go_sem, Nat.reduceAdd, Nat.reduceEqDiff, Nat.reduceLeDiff, Nat.reduceMul, Nat.reduceLT, reduceIte, Int.reduceToNat, w64_id, cast_succ])
      refine SW.loopE (fun E0 H0 m E' X => ∃ (c u : Nat), c ≤ 3 ∧ u < q ∧ m = 3 - c ∧ E' = aput (aput E0 9 (I u)) 10 (I c) ∧ X = Z) 3 ⟨0, 0, by omega, by omega, rfl, rfl, rfl⟩ ?_
      rintro m E' X ⟨c, u, hc, hu, rfl, rfl, rfl⟩
      simp (config := { maxSteps := 1000000 }) (disch := (first | omega | (simp only [go_sem]; try omega))) only [go_sem, Nat.reduceAdd, Nat.reduceEqDiff, Nat.reduceLeDiff, Nat.reduceMul, Nat.reduceLT, reduceIte, Int.reduceToNat, w64_id, cast_succ]
      repeat (first | (with_reducible first | refine SW.seq ?_ | refine SW.block ?_ | refine SW.rowC ?_ | refine SW.skip ?_ | refine SW.exit ?_ | intro _ | refine And.intro (by omega) ?_) | simp (config := { maxSteps := 1000000 }) (disch := (first | omega | (simp only [go_sem]; try omega))) only [go_sem, Nat.reduceAdd, Nat.reduceEqDiff, Nat.reduceLeDiff, Nat.reduceMul, Nat.reduceLT, reduceIte, Int.reduceToNat, w64_id, cast_succ])
      (first | refine SW.condD rfl (fun h4 => ?_) (fun h4 => ?_) | refine SW.condN rfl (fun h4 => ?_) (fun h4 => ?_) | refine SW.condNB rfl (fun h4 => ?_) (fun h4 => ?_) | refine SW.condB rfl (fun h4 => ?_) (fun h4 => ?_))
      · have hc3 : c < 3 := by omega
        obtain ⟨a, ha⟩ := Int.eq_ofNat_of_zero_le (hri.2.getD (show (0 : Int) < q by omega) c).1
        obtain ⟨b, hb⟩ := Int.eq_ofNat_of_zero_le (hrk.2.getD (show (0 : Int) < q by omega) c).1
        have ha2 := (hri.2.getD (show (0 : Int) < q by omega) c).2
        have hb2 := (hrk.2.getD (show (0 : Int) < q by omega) c).2
        rw [ha] at ha2
        rw [hb] at hb2
        have hmul := fun ext => l03Mul_fn (X ++ ext) (H.length + 1) q a b (get_appU hfd ext) h1 h5 (by omega) (by omega)
        have hmb := mulV_bd (q := q) (a := a) (b := b) h1 h5
        obtain ⟨w, hw⟩ := Int.eq_ofNat_of_zero_le hmb.1
        have hsum := fun ext => l03Sum_fn (X ++ ext) (H.length + 1) q u w 1 (get_appU hfd ext) h1 h5 (by omega) (by omega) (by omega)
        have hsb := sumV_bd (q := q) (a := u) (b := w) (k := 1) h1 h5 (by omega)
        rw [hw] at hmul
        obtain ⟨u', hu'⟩ := Int.eq_ofNat_of_zero_le hsb.1
        rw [hu'] at hsum hsb
        repeat (first | (with_reducible first | refine SW.seq ?_ | refine SW.block ?_ | refine SW.rowC ?_ | refine SW.skip ?_ | refine SW.exit ?_ | intro _ | refine And.intro (by omega) ?_) | simp (config := { maxSteps := 1000000 }) (disch := (first | omega | (simp only [go_sem]; try omega))) only [go_sem, Nat.reduceAdd, Nat.reduceEqDiff, Nat.reduceLeDiff, Nat.reduceMul, Nat.reduceLT, reduceIte, Int.reduceToNat, w64_id, cast_succ, hTl, hRi, hRk, ha, hb])
        refine QcallW.of (AFn.intro hmul) ?_
        repeat (first | (with_reducible first | refine SW.seq ?_ | refine SW.block ?_ | refine SW.rowC ?_ | refine SW.skip ?_ | refine SW.exit ?_ | intro _ | refine And.intro (by omega) ?_) | simp (config := { maxSteps := 1000000 }) (disch := (first | omega | (simp only [go_sem]; try omega))) only [go_sem, Nat.reduceAdd, Nat.reduceEqDiff, Nat.reduceLeDiff, Nat.reduceMul, Nat.reduceLT, reduceIte, Int.reduceToNat, w64_id, cast_succ])
        refine QcallW.of (AFn.intro hsum) ?_
        repeat (first | (with_reducible first | refine SW.seq ?_ | refine SW.block ?_ | refine SW.rowC ?_ | refine SW.skip ?_ | refine SW.exit ?_ | intro _ | refine And.intro (by omega) ?_) | simp (config := { maxSteps := 1000000 }) (disch := (first | omega | (simp only [go_sem]; try omega))) only [go_sem, Nat.reduceAdd, Nat.reduceEqDiff, Nat.reduceLeDiff, Nat.reduceMul, Nat.reduceLT, reduceIte, Int.reduceToNat, w64_id, cast_succ])
        exact SLoop.next (3 - (c + 1)) (by omega) ⟨c + 1, u', by omega, by omega, rfl, by simp [go_sem], rfl⟩
      · have hc3 : c = 3 := by omega
        subst hc3
        repeat (first | (with_reducible first | refine SW.seq ?_ | refine SW.block ?_ | refine SW.rowC ?_ | refine SW.skip ?_ | refine SW.exit ?_ | intro _ | refine And.intro (by omega) ?_) | simp (config := { maxSteps := 1000000 }) (disch := (first | omega | (simp only [go_sem]; try omega))) only [go_sem, Nat.reduceAdd, Nat.reduceEqDiff, Nat.reduceLeDiff, Nat.reduceMul, Nat.reduceLT, reduceIte, Int.reduceToNat, w64_id, cast_succ])
        by_cases hu0 : u = 0
        · have d0 : decide ((u : Int) = 0) = true := decide_eq_true (by omega)
          rw [d0]
          refine SW.condT rfl ?_
          repeat (first | (with_reducible first | refine SW.seq ?_ | refine SW.block ?_ | refine SW.rowC ?_ | refine SW.skip ?_ | refine SW.exit ?_ | intro _ | refine And.intro (by omega) ?_) | simp (config := { maxSteps := 1000000 }) (disch := (first | omega | (simp only [go_sem]; try omega))) only [go_sem, Nat.reduceAdd, Nat.reduceEqDiff, Nat.reduceLeDiff, Nat.reduceMul, Nat.reduceLT, reduceIte, Int.reduceToNat, w64_id, cast_succ])
          refine appNC (get_appU hZ _) (by omega) ?_
          obtain ⟨g1, g2⟩ := rowPush (b := ⟨0, 2, 1, [I (k : Int)]⟩) (x := (k : Int)) hZ (Nat.le_refl _) hZf
          generalize List.set (X ++ [(⟨0, 2, 1, [I (k : Int)]⟩ : Blk)]) Y.length ⟨s.length + 1, 2, 1, s.map I ++ [I (k : Int)]⟩ = W at *
          repeat (first | (with_reducible first | refine SW.seq ?_ | refine SW.block ?_ | refine SW.rowC ?_ | refine SW.skip ?_ | refine SW.exit ?_ | intro _ | refine And.intro (by omega) ?_) | simp (config := { maxSteps := 1000000 }) (disch := (first | omega | (simp only [go_sem]; try omega))) only [go_sem, Nat.reduceAdd, Nat.reduceEqDiff, Nat.reduceLeDiff, Nat.reduceMul, Nat.reduceLT, reduceIte, Int.reduceToNat, w64_id, cast_succ])
          refine SLoop.next (M - (k + 1)) (by omega) ⟨k + 1, s ++ [(k : Int)], by omega, rfl, by simp; omega, fun z hz => ?_, by simp [go_sem], by simpa using g1, g2⟩
          rcases List.mem_append.1 hz with h | h
          · exact hs z h
          · rw [List.mem_singleton.1 h]; omega
        · have d0 : decide ((u : Int) = 0) = false := decide_eq_false (by omega)
          rw [d0]
          refine SW.condF rfl ?_
          repeat (first | (with_reducible first | refine SW.seq ?_ | refine SW.block ?_ | refine SW.rowC ?_ | refine SW.skip ?_ | refine SW.exit ?_ | intro _ | refine And.intro (by omega) ?_) | simp (config := { maxSteps := 1000000 }) (disch := (first | omega | (simp only [go_sem]; try omega))) only [go_sem, Nat.reduceAdd, Nat.reduceEqDiff, Nat.reduceLeDiff, Nat.reduceMul, Nat.reduceLT, reduceIte, Int.reduceToNat, w64_id, cast_succ])
          exact SLoop.next (M - (k + 1)) (by omega) ⟨k + 1, s, by omega, rfl, by omega, hs, by simp [go_sem], hZ, hZf⟩
    · have hkM : k = M := by omega
      subst hkM
      repeat (first | (with_reducible first | refine SW.seq ?_ | refine SW.block ?_ | refine SW.rowC ?_ | refine SW.skip ?_ | refine SW.exit ?_ | intro _ | refine And.intro (by omega) ?_) | simp (config := { maxSteps := 1000000 }) (disch := (first | omega | (simp only [go_sem]; try omega))) only [go_sem, Nat.reduceAdd, Nat.reduceEqDiff, Nat.reduceLeDiff, Nat.reduceMul, Nat.reduceLT, reduceIte, Int.reduceToNat, w64_id, cast_succ])
      refine PlS.app _ (hY.keep hZf) hY.len hZ rfl (by omega) ?_
      intro v' W c1 hW
      repeat (first | (with_reducible first | refine SW.seq ?_ | refine SW.block ?_ | refine SW.rowC ?_ | refine SW.skip ?_ | refine SW.exit ?_ | intro _ | refine And.intro (by omega) ?_) | simp (config := { maxSteps := 1000000 }) (disch := (first | omega | (simp only [go_sem]; try omega))) only [go_sem, Nat.reduceAdd, Nat.reduceEqDiff, Nat.reduceLeDiff, Nat.reduceMul, Nat.reduceLT, reduceIte, Int.reduceToNat, w64_id, cast_succ, c1.1, c1.2])
      refine SLoop.next (k - (i + 1)) (by omega) ⟨i + 1, v', xss ++ [s], by omega, rfl, by simp [go_sem], hW, by simp [hxl], fun x hx => ?_⟩
      rcases List.mem_append.1 hx with h | h
      · exact hxs x h
      · rw [List.mem_singleton.1 h]; exact ⟨by omega, hs⟩
  · have hiM : i = M := by omega
    subst hiM
    obtain ⟨ext, he⟩ := ext_ofD (H := H) (H1 := Y) (by have := hY.len; omega) (fun j hj => hY.fr j (by omega))
    subst he
    refine SW.renKL (js := [some H.length]) (H2 := [⟨0, tyDz, 1, [I 0, nilS]⟩]) (E' := [(2, .pc H.length 0 0), (3, .junk), (4, ilSS T), (5, ilSS xss), (6, I i), (19, Bv (decide ((i : Int) < (i : Int))))]) rfl hB (Nat.le_refl _) (renOk_oneK rfl (Nat.le_refl _) (ver := 0) (cells := [I 0, nilS]) hY.box (by omega) (Nat.le_refl _) (fun i c c' g1 g2 => box_ren g1 g2)) (.cons _ (.pc 0 H.length 0 0 _ rfl hY.box rfl) (.cons _ (.junk _) (.cons _ (.old _ (by rw [Bel_ilSS]; trivial)) (.cons _ (ren_tabF hY.tab (fun r hr => ⟨by omega, by simp; omega⟩)) (.cons _ (ren_I _) (.cons _ (ren_B _) .nil)))))) ?_
    repeat (first | (with_reducible first | refine SW.seq ?_ | refine SW.block ?_ | refine SW.rowC ?_ | refine SW.skip ?_ | refine SW.exit ?_ | intro _ | refine And.intro (by omega) ?_) | simp (config := { maxSteps := 1000000 }) (disch := (first | omega | (simp only [go_sem]; try omega))) only [go_sem, Nat.reduceAdd, Nat.reduceEqDiff, Nat.reduceLeDiff, Nat.reduceMul, Nat.reduceLT, reduceIte, Int.reduceToNat, w64_id, cast_succ])
    refine (l10Sort_newL _ (ilSS xss) xss rfl (by omega) (fun x hx => by have := (hxs x hx).1; omega)).mono ?_
    rintro r Z ⟨ver, rfl, rfl⟩
    have hsp := (sortD_fact cmpL_tot xss).1
    have hsl : (sortD cmpL xss).length = xss.length := hsp.length_eq
    have hsx : PlX (i : Int) (sortD cmpL xss) := ⟨by omega, by omega, by omega, by omega, fun x hx => hxs x (hsp.mem_iff.1 hx)⟩
    generalize sortD cmpL xss = S at *
    have hzl : (H ++ [(⟨0, tyDz, 1, [I 0, nilS]⟩ : Blk)]).length = H.length + 1 := by simp
    rw [hzl, List.append_assoc]
    repeat (first | (with_reducible first | refine SW.seq ?_ | refine SW.block ?_ | refine SW.rowC ?_ | refine SW.skip ?_ | refine SW.exit ?_ | intro _ | refine And.intro (by omega) ?_) | simp (config := { maxSteps := 1000000 }) (disch := (first | omega | (simp only [go_sem]; try omega))) only [go_sem, Nat.reduceAdd, Nat.reduceEqDiff, Nat.reduceLeDiff, Nat.reduceMul, Nat.reduceLT, reduceIte, Int.reduceToNat, w64_id, cast_succ, hTl])
    refine SW.ret ?_
    refine FunPost.cell (cs := [I (i : Int), .nm (H.length + 1) ver 0 xss.length]) ?_ ?_
    · show acells _ 2 (.pc H.length 0 0) = _
      rw [ld_at (A := H) (q := H.length) (j := 0) (ver := 0) (ty := tyDz) (sz := 1) (off := 0) (n := 2) (cells := [I (i : Int), .nm (H.length + 1) ver 0 xss.length]) (by omega) rfl (Nat.le_refl 2)]; rfl
    have hfz := froz_rowS (H := H ++ [(⟨0, tyDz, 1, [I (i : Int), .nm (H.length + 1) ver 0 xss.length]⟩ : Blk), ⟨ver, tyLL, 1, S.map ilS⟩]) (b := H.length) (r := H.length + 1) (ver := ver) (ty := tyLL) (xs := S) (by omega) (hg0 _ 1)
    rw [hsl] at hfz
    exact GR.froz (r' := .agg [I (i : Int), ilSS S]) (froz_agg2 (froz_I' _) hfz) ⟨_, S, rfl, hsx, rfl⟩
end Go.Proofs.Ytnlfokkljgbaaaa
