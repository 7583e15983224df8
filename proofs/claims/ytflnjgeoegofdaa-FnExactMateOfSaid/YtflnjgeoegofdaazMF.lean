/- Mates: the reference's search. -/
import Derived.Test.YtflnjgeoegofdaaProg
import Derived.KernelRfl
import Derived.Test.YtflnjgeoegofdaazME
set_option linter.unusedSimpArgs false
set_option linter.unusedVariables false
set_option maxHeartbeats 4000000
set_option maxRecDepth 100000
namespace Go.Proofs.Ytflnjgeoegofdaa
open Go.Av
abbrev f_spec_l07Mate_run : Nat := 15
def c_spec_l07Mate_run : SC :=
 .seq (.reg [
     ⟨(some 6), .mv (.const (.bool false)), none⟩] [0, 1, 2])
 (.seq (.reg [
     ⟨(some 9), .mv (.tmp 0), none⟩,
     ⟨(some 10), .nilc (.tmp 9), none⟩,
     ⟨(some 11), .faddr 0 (.tmp 10), none⟩,
     ⟨(some 12), .load 1 false (.tmp 11), none⟩,
     ⟨(some 13), .len (.tmp 12), none⟩,
     ⟨(some 7), .mv (.tmp 13), none⟩] [0, 1, 2, 7])
 (.seq (.seq (.reg [
     ⟨(some 14), .mv (.tmp 2), none⟩,
     ⟨(some 15), .mv (.tmp 7), none⟩,
     ⟨(some 16), .bin .eql (.tmp 14) (.tmp 15), none⟩] [0, 1, 2, 7, 16])
 (.cond (.tmp 16)
  (.seq (.reg [
      ⟨(some 17), .mv (.tmp 1), none⟩,
      ⟨(some 18), .bin .add (.tmp 17) (.const (.int .i64 1)), none⟩,
      ⟨(some 1), .mv (.tmp 18), none⟩] [0, 1, 7])
  (.reg [
      ⟨(some 2), .mv (.const (.int .i64 0)), none⟩] [0, 1, 2, 7]))
  (.skip)))
 (.seq (.seq (.reg [
     ⟨(some 19), .mv (.tmp 1), none⟩,
     ⟨(some 20), .mv (.tmp 7), none⟩,
     ⟨(some 21), .bin .eql (.tmp 19) (.tmp 20), none⟩] [0, 1, 2, 7, 21])
 (.cond (.tmp 21)
  (.seq (.reg [
      ⟨(some 6), .mv (.const (.bool true)), none⟩] [6])
  (.ret))
  (.skip)))
 (.seq (.seq (.reg [
     ⟨(some 22), .mv (.tmp 2), none⟩,
     ⟨(some 23), .bin .eql (.tmp 22) (.const (.int .i64 0)), none⟩] [0, 1, 2, 7, 23])
 (.cond (.tmp 23)
  (.seq (.reg [
      ⟨(some 24), .mv (.tmp 0), none⟩,
      ⟨(some 25), .nilc (.tmp 24), none⟩,
      ⟨(some 26), .faddr 1 (.tmp 25), none⟩,
      ⟨(some 27), .load 1 false (.tmp 26), none⟩,
      ⟨(some 28), .iaddr 1 (.tmp 27) (.const (.int .i64 0)), none⟩,
      ⟨(some 29), .load 1 false (.tmp 28), none⟩,
      ⟨(some 30), .mv (.tmp 1), none⟩,
      ⟨(some 31), .mv (.tmp 1), none⟩,
      ⟨(some 32), .iaddr 1 (.tmp 29) (.tmp 30), none⟩,
      ⟨none, .store 1 (.tmp 32) (.tmp 31), none⟩] [0, 1])
  (.seq (.seq (.reg [
      ⟨(some 33), .mv (.tmp 0), none⟩,
      ⟨(some 34), .mv (.tmp 1), none⟩,
      ⟨(some 35), .call 15 [(.tmp 33), (.tmp 34), (.const (.int .i64 1))], none⟩] [0, 1, 35])
  (.cond (.tmp 35)
   (.seq (.reg [
       ⟨(some 6), .mv (.const (.bool true)), none⟩] [6])
   (.ret))
   (.skip)))
  (.seq (.reg [
      ⟨(some 36), .mv (.tmp 0), none⟩,
      ⟨(some 37), .nilc (.tmp 36), none⟩,
      ⟨(some 38), .faddr 1 (.tmp 37), none⟩,
      ⟨(some 39), .load 1 false (.tmp 38), none⟩,
      ⟨(some 40), .iaddr 1 (.tmp 39) (.const (.int .i64 0)), none⟩,
      ⟨(some 41), .load 1 false (.tmp 40), none⟩,
      ⟨(some 42), .mv (.tmp 1), none⟩,
      ⟨(some 43), .iaddr 1 (.tmp 41) (.tmp 42), none⟩,
      ⟨none, .store 1 (.tmp 43) (.const (.int .i64 (-1))), none⟩] [])
  (.seq (.reg [
      ⟨(some 6), .mv (.const (.bool false)), none⟩] [6])
  (.ret)))))
  (.skip)))
 (.seq (.seq (.reg [
     ⟨(some 8), .mv (.const (.int .i64 0)), none⟩] [0, 1, 2, 7, 8])
 (.block 0 (.loop [0, 1, 2, 7, 8]
   (.seq (.seq (.reg [
       ⟨(some 44), .mv (.tmp 8), none⟩,
       ⟨(some 45), .mv (.tmp 7), none⟩,
       ⟨(some 46), .bin .lss (.tmp 44) (.tmp 45), none⟩] [0, 1, 2, 7, 8, 46])
   (.cond (.tmp 46)
    (.skip)
    (.exit 0)))
   (.seq (.block 1 (.seq (.seq (.reg [
        ⟨(some 49), .mv (.tmp 0), none⟩,
        ⟨(some 50), .nilc (.tmp 49), none⟩,
        ⟨(some 51), .faddr 1 (.tmp 50), none⟩,
        ⟨(some 52), .load 1 false (.tmp 51), none⟩,
        ⟨(some 53), .mv (.tmp 2), none⟩,
        ⟨(some 54), .iaddr 1 (.tmp 52) (.tmp 53), none⟩,
        ⟨(some 55), .load 1 false (.tmp 54), none⟩,
        ⟨(some 56), .mv (.tmp 8), none⟩,
        ⟨(some 57), .iaddr 1 (.tmp 55) (.tmp 56), none⟩,
        ⟨(some 58), .load 1 false (.tmp 57), none⟩,
        ⟨(some 59), .bin .geq (.tmp 58) (.const (.int .i64 0)), none⟩,
        ⟨(some 60), .mv (.tmp 59), none⟩,
        ⟨(some 61), .mv (.tmp 0), (some (60, false))⟩,
        ⟨(some 62), .mv (.tmp 1), (some (60, false))⟩,
        ⟨(some 63), .mv (.tmp 2), (some (60, false))⟩,
        ⟨(some 64), .mv (.tmp 8), (some (60, false))⟩,
        ⟨(some 65), .call 29 [(.tmp 61), (.tmp 62), (.tmp 63), (.tmp 64)], (some (60, false))⟩,
        ⟨(some 66), .un .not (.tmp 65), (some (60, false))⟩,
        ⟨(some 67), .pick (.tmp 60) (.const (.bool true)) (.tmp 66), none⟩] [0, 1, 2, 7, 8, 67])
    (.cond (.tmp 67)
     (.exit 1)
     (.skip)))
    (.seq (.seq (.reg [
        ⟨(some 68), .mv (.tmp 0), none⟩,
        ⟨(some 69), .nilc (.tmp 68), none⟩,
        ⟨(some 70), .faddr 2 (.tmp 69), none⟩,
        ⟨(some 71), .load 1 false (.tmp 70), none⟩,
        ⟨(some 72), .mv (.tmp 0), none⟩,
        ⟨(some 73), .nilc (.tmp 72), none⟩,
        ⟨(some 74), .faddr 3 (.tmp 73), none⟩,
        ⟨(some 75), .load 1 false (.tmp 74), none⟩,
        ⟨(some 76), .bin .eql (.tmp 71) (.tmp 75), none⟩] [0, 1, 2, 7, 8, 76])
    (.cond (.tmp 76)
     (.reg [
         ⟨(some 77), .mv (.tmp 0), none⟩,
         ⟨(some 78), .nilc (.tmp 77), none⟩,
         ⟨(some 79), .faddr 4 (.tmp 78), none⟩,
         ⟨none, .store 1 (.tmp 79) (.const (.bool true)), none⟩] [0, 1, 2, 7, 8])
     (.skip)))
    (.seq (.seq (.reg [
        ⟨(some 80), .mv (.tmp 0), none⟩,
        ⟨(some 81), .nilc (.tmp 80), none⟩,
        ⟨(some 82), .faddr 4 (.tmp 81), none⟩,
        ⟨(some 83), .load 1 false (.tmp 82), none⟩] [0, 1, 2, 7, 8, 83])
    (.cond (.tmp 83)
     (.seq (.reg [
         ⟨(some 6), .mv (.const (.bool false)), none⟩] [6])
     (.ret))
     (.skip)))
    (.seq (.reg [
        ⟨(some 84), .mv (.tmp 0), none⟩,
        ⟨(some 85), .nilc (.tmp 84), none⟩,
        ⟨(some 86), .faddr 2 (.tmp 85), none⟩,
        ⟨(some 87), .load 1 false (.tmp 86), none⟩,
        ⟨(some 88), .bin .add (.tmp 87) (.const (.int .i64 1)), none⟩,
        ⟨(some 89), .nilc (.tmp 84), none⟩,
        ⟨(some 90), .faddr 2 (.tmp 89), none⟩,
        ⟨none, .store 1 (.tmp 90) (.tmp 88), none⟩] [0, 1, 2, 7, 8])
    (.seq (.reg [
        ⟨(some 91), .mv (.tmp 0), none⟩,
        ⟨(some 92), .nilc (.tmp 91), none⟩,
        ⟨(some 93), .faddr 1 (.tmp 92), none⟩,
        ⟨(some 94), .load 1 false (.tmp 93), none⟩,
        ⟨(some 95), .mv (.tmp 2), none⟩,
        ⟨(some 96), .iaddr 1 (.tmp 94) (.tmp 95), none⟩,
        ⟨(some 97), .load 1 false (.tmp 96), none⟩,
        ⟨(some 98), .mv (.tmp 8), none⟩,
        ⟨(some 99), .mv (.tmp 1), none⟩,
        ⟨(some 100), .iaddr 1 (.tmp 97) (.tmp 98), none⟩,
        ⟨none, .store 1 (.tmp 100) (.tmp 99), none⟩] [0, 1, 2, 7, 8])
    (.seq (.seq (.reg [
        ⟨(some 101), .mv (.tmp 0), none⟩,
        ⟨(some 102), .mv (.tmp 1), none⟩,
        ⟨(some 103), .mv (.tmp 2), none⟩,
        ⟨(some 104), .bin .add (.tmp 103) (.const (.int .i64 1)), none⟩,
        ⟨(some 105), .call 15 [(.tmp 101), (.tmp 102), (.tmp 104)], none⟩] [0, 1, 2, 7, 8, 105])
    (.cond (.tmp 105)
     (.seq (.reg [
         ⟨(some 6), .mv (.const (.bool true)), none⟩] [6])
     (.ret))
     (.skip)))
    (.reg [
        ⟨(some 106), .mv (.tmp 0), none⟩,
        ⟨(some 107), .nilc (.tmp 106), none⟩,
        ⟨(some 108), .faddr 1 (.tmp 107), none⟩,
        ⟨(some 109), .load 1 false (.tmp 108), none⟩,
        ⟨(some 110), .mv (.tmp 2), none⟩,
        ⟨(some 111), .iaddr 1 (.tmp 109) (.tmp 110), none⟩,
        ⟨(some 112), .load 1 false (.tmp 111), none⟩,
        ⟨(some 113), .mv (.tmp 8), none⟩,
        ⟨(some 114), .iaddr 1 (.tmp 112) (.tmp 113), none⟩,
        ⟨none, .store 1 (.tmp 114) (.const (.int .i64 (-1))), none⟩] [0, 1, 2, 7, 8]))))))))
   (.reg [
       ⟨(some 47), .mv (.tmp 8), none⟩,
       ⟨(some 48), .bin .add (.tmp 47) (.const (.int .i64 1)), none⟩,
       ⟨(some 8), .mv (.tmp 48), none⟩] [0, 1, 2, 7, 8]))))))
 (.seq (.reg [
     ⟨(some 6), .mv (.const (.bool false)), none⟩] [6])
 (.ret)))))))
theorem s_spec_l07Mate_run : stripF Try.prog 15 [[0, 1, 2], [0, 1, 2, 7], [0, 1, 2, 7, 16], [0, 1, 7], [0, 1, 2, 7], [0, 1, 2, 7, 21], [6], [0, 1, 2, 7, 23], [0, 1], [0, 1, 35], [6], [], [6], [0, 1, 2, 7, 8], [0, 1, 2, 7, 8], [0, 1, 2, 7, 8, 46], [0, 1, 2, 7, 8, 67], [0, 1, 2, 7, 8, 76], [0, 1, 2, 7, 8], [0, 1, 2, 7, 8, 83], [6], [0, 1, 2, 7, 8], [0, 1, 2, 7, 8], [0, 1, 2, 7, 8, 105], [6], [0, 1, 2, 7, 8], [0, 1, 2, 7, 8], [6]] = some (c_spec_l07Mate_run, [.tmp 6], 115) := by kernel_rfl
def outM (m : List (List Int)) (st : MS) : List (List Int) := match st.res with
  | some q => q
  | none => m
theorem lRun_ok (a : List (List Int)) (n bud : Nat) (hn : 1 ≤ n ∧ n ≤ 10) (ha : a.length = n ∧ ∀ r ∈ a, r.length = n) (hcell : ∀ x y, x < n → y < n → ∃ s : Nat, cellAt a x y = s ∧ s < n) (hbud : bud ≤ 20000) :
    ∀ (r : Nat) (H : List Blk) (b : List (List Int)) (k x : Nat) (st : MS), BOk b n k x → 1 ≤ x → x ≤ n → k < n → k * (n - 1) + (x - 1) + r = n * (n - 1) → st.res = none → st.spent = false → st.left ≤ bud →
    ACalls Try.prog f_spec_l07Mate_run [.pc (H.length + (n + 1)) 0 0, I k, I x] (hpL H n bud a (maskM b n k) st.left false) (fun v H' => v = Bv (matR a n r b st).res.isSome ∧ H' = hpL H n bud a (outM (maskM b n k) (matR a n r b st)) (matR a n r b st).left (matR a n r b st).spent) := by
  intro r
  induction r using Nat.strongRecOn with
  | ind r ih =>
  have hRow : ∀ (H : List Blk) (b : List (List Int)) (k x : Nat) (st : MS), BOk b n k x → 1 ≤ x → x < n → k < n → k * (n - 1) + (x - 1) + r = n * (n - 1) → st.res = none → st.spent = false → st.left ≤ bud →
      ACalls Try.prog f_spec_l07Mate_run [.pc (H.length + (n + 1)) 0 0, I k, I x] (hpL H n bud a (maskM b n k) st.left false) (fun v H' => v = Bv (matR a n r b st).res.isSome ∧ H' = hpL H n bud a (outM (maskM b n k) (matR a n r b st)) (matR a n r b st).left (matR a n r b st).spent) := by
    intro H b k x st hb hx1 hxn hkn hpos hres hsp hl
    have hr1 : k * (n - 1) + (n - 1) ≤ n * (n - 1) := by
      have := Nat.mul_le_mul_right (n - 1) (show k + 1 ≤ n by omega)
      rw [Nat.add_mul, Nat.one_mul] at this; exact this
    obtain ⟨r', rfl⟩ : ∃ r', r = r' + 1 := ⟨r - 1, by omega⟩
    have hla := ha.1
    have hmk := maskM_ok (k := k) hb.sq
    have e0 : ∀ sq left fl, hpL H n bud a sq left fl = H ++ (sqB n 0 H.length sq ++ [⟨0, tyL7, 1, [ilSS a, .nm H.length n 0 n, I ((bud - left : Nat) : Int), I bud, Bv fl]⟩]) := fun _ _ _ => rfl
    have hQ := sqB_length n 0 H.length (maskM b n k)
    rw [hmk.1] at hQ
    have hg1 := fun (b : Blk) (r : List Blk) => getAt hQ b r
    have hse := fun (b c : Blk) (r : List Blk) => setAt hQ b c r
    rw [e0]
    refine ACalls.introB s_spec_l07Mate_run (by simp) ?_; intro hB hA; unfold c_spec_l07Mate_run; simp (config := { maxSteps := 1000000 }) (disch := (first | omega | (simp only [go_sem]; try omega))) only [go_sem, Nat.reduceAdd, Nat.reduceEqDiff, Nat.reduceLeDiff, Nat.reduceMul, Nat.reduceLT, reduceIte, Int.reduceToNat, w64_id, cast_succ]
    repeat (first | (with_reducible first | refine SW.seq ?_ | refine SW.block ?_ | refine SW.rowC ?_ | refine SW.skip ?_ | refine SW.exit ?_ | intro _ | refine And.intro (by omega) ?_) | simp (config := { maxSteps := 1000000 }) (disch := (first | omega | (simp only [go_sem]; try omega))) only [go_sem, Nat.reduceAdd, Nat.reduceEqDiff, Nat.reduceLeDiff, Nat.reduceMul, Nat.reduceLT, reduceIte, Int.reduceToNat, w64_id, cast_succ, hg1, hla])
    refine SW.condF (show Bv (decide ((x : Int) = n)) = Bv false by rw [decide_eq_false (by omega)]) ?_
    repeat (first | (with_reducible first | refine SW.seq ?_ | refine SW.block ?_ | refine SW.rowC ?_ | refine SW.skip ?_ | refine SW.exit ?_ | intro _ | refine And.intro (by omega) ?_) | simp (config := { maxSteps := 1000000 }) (disch := (first | omega | (simp only [go_sem]; try omega))) only [go_sem, Nat.reduceAdd, Nat.reduceEqDiff, Nat.reduceLeDiff, Nat.reduceMul, Nat.reduceLT, reduceIte, Int.reduceToNat, w64_id, cast_succ])
    refine SW.condF (show Bv (decide ((k : Int) = n)) = Bv false by rw [decide_eq_false (by omega)]) ?_
    repeat (first | (with_reducible first | refine SW.seq ?_ | refine SW.block ?_ | refine SW.rowC ?_ | refine SW.skip ?_ | refine SW.exit ?_ | intro _ | refine And.intro (by omega) ?_) | simp (config := { maxSteps := 1000000 }) (disch := (first | omega | (simp only [go_sem]; try omega))) only [go_sem, Nat.reduceAdd, Nat.reduceEqDiff, Nat.reduceLeDiff, Nat.reduceMul, Nat.reduceLT, reduceIte, Int.reduceToNat, w64_id, cast_succ])
    refine SW.condF (show Bv (decide ((x : Int) = 0)) = Bv false by rw [decide_eq_false (by omega)]) ?_
    repeat (first | (with_reducible first | refine SW.seq ?_ | refine SW.block ?_ | refine SW.rowC ?_ | refine SW.skip ?_ | refine SW.exit ?_ | intro _ | refine And.intro (by omega) ?_) | simp (config := { maxSteps := 1000000 }) (disch := (first | omega | (simp only [go_sem]; try omega))) only [go_sem, Nat.reduceAdd, Nat.reduceEqDiff, Nat.reduceLeDiff, Nat.reduceMul, Nat.reduceLT, reduceIte, Int.reduceToNat, w64_id, cast_succ])
    obtain ⟨q1, q2⟩ := posM (n := n) (k := k) (x := x - 1) (r := r') (by omega) (by omega)
    have hfin : matR a n (r' + 1) b st = (List.range n).foldl (stepM a n (matR a n r') b k x) st := by
      show (List.range n).foldl (stepM a n (matR a n r') b ((n * (n - 1) - (r' + 1)) / (n - 1)) ((n * (n - 1) - (r' + 1)) % (n - 1) + 1)) st = _
      rw [q1, q2, Nat.sub_add_cancel hx1]
    rw [hfin]
    rw [← e0]
    have hs0 : hpL H n bud a (maskM b n k) st.left false = hpL H n bud a (maskM b n k) st.left st.spent := by rw [hsp]
    rw [hs0]
    refine SW.loopE (fun E0 H0 m E' H' => ∃ (y : Nat), y ≤ n ∧ m = n - y ∧ E' = aput E0 8 (I y) ∧ H' = hpL H n bud a (maskM b n k) ((List.range y).foldl (stepM a n (matR a n r') b k x) st).left ((List.range y).foldl (stepM a n (matR a n r') b k x) st).spent ∧ ((List.range y).foldl (stepM a n (matR a n r') b k x) st).res = none) n
      ⟨0, by omega, by omega, rfl, rfl, hres⟩ ?_
    rintro m E' H' ⟨y, hy, rfl, rfl, rfl, hres2⟩
    have hsl : ((List.range y).foldl (stepM a n (matR a n r') b k x) st).left ≤ bud := foldM_inv (P := fun st => st.left ≤ bud) (fun _ h => h) (fun b st h _ _ _ => matR_left a n bud r' b _ (by show st.left - 1 ≤ _; omega)) _ st hl
    have hstop := fold_to (stepM a n (matR a n r') b k x) st y (n - y)
    rw [show y + (n - y) = n by omega] at hstop
    have hnext := fold_succ (stepM a n (matR a n r') b k x) st y
    have hend := fold_to (stepM a n (matR a n r') b k x) st (y + 1) (n - (y + 1))
    generalize hs1 : (List.range y).foldl (stepM a n (matR a n r') b k x) st = s1 at *
    obtain ⟨left1, spent1, res1⟩ := s1
    simp only at hres2 hsl
    subst hres2
    simp only
    simp (config := { maxSteps := 1000000 }) (disch := (first | omega | (simp only [go_sem]; try omega))) only [go_sem, Nat.reduceAdd, Nat.reduceEqDiff, Nat.reduceLeDiff, Nat.reduceMul, Nat.reduceLT, reduceIte, Int.reduceToNat, w64_id, cast_succ]
    repeat (first | (with_reducible first | refine SW.seq ?_ | refine SW.block ?_ | refine SW.rowC ?_ | refine SW.skip ?_ | refine SW.exit ?_ | intro _ | refine And.intro (by omega) ?_) | simp (config := { maxSteps := 1000000 }) (disch := (first | omega | (simp only [go_sem]; try omega))) only [go_sem, Nat.reduceAdd, Nat.reduceEqDiff, Nat.reduceLeDiff, Nat.reduceMul, Nat.reduceLT, reduceIte, Int.reduceToNat, w64_id, cast_succ])
    (first | refine SW.condD rfl (fun h3 => ?_) (fun h3 => ?_) | refine SW.condN rfl (fun h3 => ?_) (fun h3 => ?_) | refine SW.condNB rfl (fun h3 => ?_) (fun h3 => ?_) | refine SW.condB rfl (fun h3 => ?_) (fun h3 => ?_))
    · have hyn : y < n := by omega
      rw [show y + 1 + (n - (y + 1)) = n by omega, hnext] at hend
      obtain ⟨s, hs2, hsn⟩ := hcell x y (by omega) hyn
      have hbk : blkM a b n k x y = ((colM b n k y || symM a b n k s) || decide (0 ≤ cellAt b x y)) := by unfold blkM; rw [hs2, Int.toNat_natCast]
      rw [free_blk hb hkn hx1 hxn hyn hs2] at hbk
      have skip : blkM a b n k x y = true → stepM a n (matR a n r') b k x ⟨left1, spent1, none⟩ y = ⟨left1, spent1, none⟩ := fun h => by unfold stepM; rw [if_pos h]
      have hcm : cellAt (maskM b n k) x y = cellAt b x y := by rw [maskM_get hb.sq (by omega) x y hyn, if_neg (by omega)]
      have hcd : ((maskM b n k).getD x []).getD y 0 = cellAt b x y := hcm
      have hmx : ((maskM b n k).getD x []).length = n := hmk.2 _ (by rw [getD_get (by rw [hmk.1]; omega)]; exact List.getElem_mem _)
      have t0 := fun ext => q0w (H := H) (n := n) (w := 0) (sq := maskM b n k) (ext := ext)
      have t1 := qtakew (H := H) (w := 0) hmk.1
      have t2 := qcellw (H := H) (w := 0) (x := x) hmk (by omega)
      have t3 := fun ext => qroww (H := H) (w := 0) (x := x) (ext := ext) hmk.1 (by omega)
      have htk : (((maskM b n k).getD x []).map I).take n = ((maskM b n k).getD x []).map I := List.take_of_length_le (by simp only [List.length_map]; omega)
      have hfree := lFree_ok H n bud a (maskM b n k) left1 spent1 hn ha hmk k x y hkn hxn hyn
      rw [e0 (maskM b n k) left1 spent1] at hfree ⊢
      have hfree0 := hfree []
      rw [List.append_nil] at hfree0
      have c4 := fun (v : Int) ext => qsetw (H := H) (n := n) (w := 0) (y := y) (ext := ext) hmk.1 (show x < n by omega) v
      cases hc3 : decide (0 ≤ cellAt b x y)
      · repeat (first | (with_reducible first | refine SW.seq ?_ | refine SW.block ?_ | refine SW.rowC ?_ | refine SW.skip ?_ | refine SW.exit ?_ | intro _ | refine And.intro (by omega) ?_) | simp (config := { maxSteps := 1000000 }) (disch := (first | omega | (simp only [go_sem]; try omega))) only [go_sem, Nat.reduceAdd, Nat.reduceEqDiff, Nat.reduceLeDiff, Nat.reduceMul, Nat.reduceLT, reduceIte, Int.reduceToNat, w64_id, cast_succ, hg1, t0, t1, t2, t3, htk, hmx, hcd, hc3])
        refine hfree0.mono ?_
        rintro v H2 ⟨rfl, rfl⟩
        cases hfr : freeX a (maskM b n k) n k x y
        · have hbf : ¬ blkM a b n k x y = true := by rw [hbk, hfr, hc3]; simp
          repeat (first | (with_reducible first | refine SW.seq ?_ | refine SW.block ?_ | refine SW.rowC ?_ | refine SW.skip ?_ | refine SW.exit ?_ | intro _ | refine And.intro (by omega) ?_) | simp (config := { maxSteps := 1000000 }) (disch := (first | omega | (simp only [go_sem]; try omega))) only [go_sem, Nat.reduceAdd, Nat.reduceEqDiff, Nat.reduceLeDiff, Nat.reduceMul, Nat.reduceLT, reduceIte, Int.reduceToNat, w64_id, cast_succ])
          refine SW.condF rfl ?_
          by_cases hl0 : left1 = 0
          · have hstep : stepM a n (matR a n r') b k x ⟨left1, spent1, none⟩ y = ⟨left1, true, none⟩ := by
              unfold stepM; rw [if_neg hbf]
              by_cases h : spent1 = true
              · rw [if_pos (.inl h), h]
              · rw [if_neg (by simpa using h), if_pos hl0]
            rw [hstep] at hend
            rw [hend (fun z => stepM_stop (.inl rfl) z)]
            have d1 : decide (((bud - left1 : Nat) : Int) = bud) = true := decide_eq_true (by omega)
            repeat (first | (with_reducible first | refine SW.seq ?_ | refine SW.block ?_ | refine SW.rowC ?_ | refine SW.skip ?_ | refine SW.exit ?_ | intro _ | refine And.intro (by omega) ?_) | simp (config := { maxSteps := 1000000 }) (disch := (first | omega | (simp only [go_sem]; try omega))) only [go_sem, Nat.reduceAdd, Nat.reduceEqDiff, Nat.reduceLeDiff, Nat.reduceMul, Nat.reduceLT, reduceIte, Int.reduceToNat, w64_id, cast_succ, hg1, d1])
            refine SW.condT rfl ?_
            repeat (first | (with_reducible first | refine SW.seq ?_ | refine SW.block ?_ | refine SW.rowC ?_ | refine SW.skip ?_ | refine SW.exit ?_ | intro _ | refine And.intro (by omega) ?_) | simp (config := { maxSteps := 1000000 }) (disch := (first | omega | (simp only [go_sem]; try omega))) only [go_sem, Nat.reduceAdd, Nat.reduceEqDiff, Nat.reduceLeDiff, Nat.reduceMul, Nat.reduceLT, reduceIte, Int.reduceToNat, w64_id, cast_succ, hg1, hse])
            refine SW.condT rfl ?_
            repeat (first | (with_reducible first | refine SW.seq ?_ | refine SW.block ?_ | refine SW.rowC ?_ | refine SW.skip ?_ | refine SW.exit ?_ | intro _ | refine And.intro (by omega) ?_) | simp (config := { maxSteps := 1000000 }) (disch := (first | omega | (simp only [go_sem]; try omega))) only [go_sem, Nat.reduceAdd, Nat.reduceEqDiff, Nat.reduceLeDiff, Nat.reduceMul, Nat.reduceLT, reduceIte, Int.reduceToNat, w64_id, cast_succ])
            refine SW.ret ?_; (try simp only [go_sem]); (first | refine FunPost.one ?_ | refine FunPost.two ?_ | refine FunPost.three ?_); (try simp (config := { maxSteps := 1000000 }) (disch := (first | omega | (simp only [go_sem]; try omega))) only [go_sem, Nat.reduceAdd, Nat.reduceEqDiff, Nat.reduceLeDiff, Nat.reduceMul, Nat.reduceLT, reduceIte, Int.reduceToNat, w64_id, cast_succ])
            exact GR.of ⟨rfl, rfl⟩
          · have d1 : decide (((bud - left1 : Nat) : Int) = bud) = false := decide_eq_false (by omega)
            repeat (first | (with_reducible first | refine SW.seq ?_ | refine SW.block ?_ | refine SW.rowC ?_ | refine SW.skip ?_ | refine SW.exit ?_ | intro _ | refine And.intro (by omega) ?_) | simp (config := { maxSteps := 1000000 }) (disch := (first | omega | (simp only [go_sem]; try omega))) only [go_sem, Nat.reduceAdd, Nat.reduceEqDiff, Nat.reduceLeDiff, Nat.reduceMul, Nat.reduceLT, reduceIte, Int.reduceToNat, w64_id, cast_succ, hg1, d1])
            refine SW.condF rfl ?_
            cases spent1
            · repeat (first | (with_reducible first | refine SW.seq ?_ | refine SW.block ?_ | refine SW.rowC ?_ | refine SW.skip ?_ | refine SW.exit ?_ | intro _ | refine And.intro (by omega) ?_) | simp (config := { maxSteps := 1000000 }) (disch := (first | omega | (simp only [go_sem]; try omega))) only [go_sem, Nat.reduceAdd, Nat.reduceEqDiff, Nat.reduceLeDiff, Nat.reduceMul, Nat.reduceLT, reduceIte, Int.reduceToNat, w64_id, cast_succ, hg1])
              refine SW.condF rfl ?_
              have hn1 : ((bud - left1 : Nat) : Int) + 1 = ((bud - (left1 - 1) : Nat) : Int) := by omega
              have hn2 : w64 (((bud - left1 : Nat) : Int) + 1) = ((bud - (left1 - 1) : Nat) : Int) := by rw [hn1]; exact w64_id (by omega) (by omega)
              have hstep : stepM a n (matR a n r') b k x ⟨left1, false, none⟩ y = matR a n r' (setC b x y (k : Int)) ⟨left1 - 1, false, none⟩ := by
                unfold stepM; rw [if_neg hbf, if_neg (by simp), if_neg hl0]
              have hcb : cellAt b x y = -1 := by
                rw [decide_eq_false_iff_not] at hc3
                rcases hb.low x y hx1 (by omega) hyn with h | h <;> omega
              repeat (first | (with_reducible first | refine SW.seq ?_ | refine SW.block ?_ | refine SW.rowC ?_ | refine SW.skip ?_ | refine SW.exit ?_ | intro _ | refine And.intro (by omega) ?_) | simp (config := { maxSteps := 1000000 }) (disch := (first | omega | (simp only [go_sem]; try omega))) only [go_sem, Nat.reduceAdd, Nat.reduceEqDiff, Nat.reduceLeDiff, Nat.reduceMul, Nat.reduceLT, reduceIte, Int.reduceToNat, w64_id, cast_succ, hg1, hse, hn1, hn2, t0, t1, t2, t3, htk, hmx, c4])
              rw [maskM_set hb.sq hx1 (by omega) hyn]
              refine (ih r' (by omega) H (setC b x y (k : Int)) k (x + 1) ⟨left1 - 1, false, none⟩ (hb.set hx1 (by omega) hyn) (by omega) (by omega) hkn (by omega) rfl rfl (by show left1 - 1 ≤ bud; omega)).mono ?_
              rintro v H5 ⟨rfl, rfl⟩
              rw [← hstep]
              generalize hs3 : stepM a n (matR a n r') b k x ⟨left1, false, none⟩ y = s3 at *
              obtain ⟨left3, spent3, res3⟩ := s3
              cases res3 with
              | some b' =>
                rw [hend (fun z => stepM_stop (.inr rfl) z)]
                repeat (first | (with_reducible first | refine SW.seq ?_ | refine SW.block ?_ | refine SW.rowC ?_ | refine SW.skip ?_ | refine SW.exit ?_ | intro _ | refine And.intro (by omega) ?_) | simp (config := { maxSteps := 1000000 }) (disch := (first | omega | (simp only [go_sem]; try omega))) only [go_sem, Nat.reduceAdd, Nat.reduceEqDiff, Nat.reduceLeDiff, Nat.reduceMul, Nat.reduceLT, reduceIte, Int.reduceToNat, w64_id, cast_succ])
                refine SW.condT rfl ?_
                repeat (first | (with_reducible first | refine SW.seq ?_ | refine SW.block ?_ | refine SW.rowC ?_ | refine SW.skip ?_ | refine SW.exit ?_ | intro _ | refine And.intro (by omega) ?_) | simp (config := { maxSteps := 1000000 }) (disch := (first | omega | (simp only [go_sem]; try omega))) only [go_sem, Nat.reduceAdd, Nat.reduceEqDiff, Nat.reduceLeDiff, Nat.reduceMul, Nat.reduceLT, reduceIte, Int.reduceToNat, w64_id, cast_succ])
                refine SW.ret ?_; (try simp only [go_sem]); (first | refine FunPost.one ?_ | refine FunPost.two ?_ | refine FunPost.three ?_); (try simp (config := { maxSteps := 1000000 }) (disch := (first | omega | (simp only [go_sem]; try omega))) only [go_sem, Nat.reduceAdd, Nat.reduceEqDiff, Nat.reduceLeDiff, Nat.reduceMul, Nat.reduceLT, reduceIte, Int.reduceToNat, w64_id, cast_succ])
                exact GR.of ⟨rfl, rfl⟩
              | none =>
                have hb2 : (setC b x y (k : Int)).length = n ∧ ∀ r ∈ setC b x y (k : Int), r.length = n := setC_ok hb.sq
                have hm2 := maskM_ok (k := k) hb2
                have hQ2 := sqB_length n 0 H.length (maskM (setC b x y (k : Int)) n k)
                rw [hm2.1] at hQ2
                have kg1 := fun (b : Blk) (r : List Blk) => getAt hQ2 b r
                have u0 := fun ext => q0w (H := H) (n := n) (w := 0) (sq := maskM (setC b x y (k : Int)) n k) (ext := ext)
                have u1 := qtakew (H := H) (w := 0) hm2.1
                have u2 := qcellw (H := H) (w := 0) (x := x) hm2 (by omega)
                have u3 := fun ext => qroww (H := H) (w := 0) (x := x) (ext := ext) hm2.1 (by omega)
                have umx : ((maskM (setC b x y (k : Int)) n k).getD x []).length = n := hm2.2 _ (by rw [getD_get (by rw [hm2.1]; omega)]; exact List.getElem_mem _)
                have utk : (((maskM (setC b x y (k : Int)) n k).getD x []).map I).take n = ((maskM (setC b x y (k : Int)) n k).getD x []).map I := List.take_of_length_le (by simp only [List.length_map]; omega)
                have u4 := fun (v : Int) ext => qsetw (H := H) (n := n) (w := 0) (y := y) (ext := ext) hm2.1 (show x < n by omega) v
                have hrl : (b.getD x []).length = n := hb.sq.2 _ (by rw [getD_get (by rw [hb.sq.1]; omega)]; exact List.getElem_mem _)
                have hout : outM (maskM (setC b x y (k : Int)) n k) ⟨left3, spent3, none⟩ = maskM (setC b x y (k : Int)) n k := rfl
                rw [hout, e0 (maskM (setC b x y (k : Int)) n k)]
                repeat (first | (with_reducible first | refine SW.seq ?_ | refine SW.block ?_ | refine SW.rowC ?_ | refine SW.skip ?_ | refine SW.exit ?_ | intro _ | refine And.intro (by omega) ?_) | simp (config := { maxSteps := 1000000 }) (disch := (first | omega | (simp only [go_sem]; try omega))) only [go_sem, Nat.reduceAdd, Nat.reduceEqDiff, Nat.reduceLeDiff, Nat.reduceMul, Nat.reduceLT, reduceIte, Int.reduceToNat, w64_id, cast_succ])
                refine SW.condF rfl ?_
                repeat (first | (with_reducible first | refine SW.seq ?_ | refine SW.block ?_ | refine SW.rowC ?_ | refine SW.skip ?_ | refine SW.exit ?_ | intro _ | refine And.intro (by omega) ?_) | simp (config := { maxSteps := 1000000 }) (disch := (first | omega | (simp only [go_sem]; try omega))) only [go_sem, Nat.reduceAdd, Nat.reduceEqDiff, Nat.reduceLeDiff, Nat.reduceMul, Nat.reduceLT, reduceIte, Int.reduceToNat, w64_id, cast_succ, kg1, u0, u1, u2, u3, umx, utk, u4])
                rw [maskM_set hb2 hx1 (by omega) hyn, setC_back (by rw [hb.sq.1]; omega) (by rw [hrl]; exact hyn) hcb]
                refine SLoop.next (n - (y + 1)) (by omega) ⟨y + 1, by omega, rfl, by simp [go_sem], by rw [hnext]; rfl, by rw [hnext]⟩
            · repeat (first | (with_reducible first | refine SW.seq ?_ | refine SW.block ?_ | refine SW.rowC ?_ | refine SW.skip ?_ | refine SW.exit ?_ | intro _ | refine And.intro (by omega) ?_) | simp (config := { maxSteps := 1000000 }) (disch := (first | omega | (simp only [go_sem]; try omega))) only [go_sem, Nat.reduceAdd, Nat.reduceEqDiff, Nat.reduceLeDiff, Nat.reduceMul, Nat.reduceLT, reduceIte, Int.reduceToNat, w64_id, cast_succ, hg1])
              refine SW.condT rfl ?_
              repeat (first | (with_reducible first | refine SW.seq ?_ | refine SW.block ?_ | refine SW.rowC ?_ | refine SW.skip ?_ | refine SW.exit ?_ | intro _ | refine And.intro (by omega) ?_) | simp (config := { maxSteps := 1000000 }) (disch := (first | omega | (simp only [go_sem]; try omega))) only [go_sem, Nat.reduceAdd, Nat.reduceEqDiff, Nat.reduceLeDiff, Nat.reduceMul, Nat.reduceLT, reduceIte, Int.reduceToNat, w64_id, cast_succ])
              refine SW.ret ?_; (try simp only [go_sem]); (first | refine FunPost.one ?_ | refine FunPost.two ?_ | refine FunPost.three ?_); (try simp (config := { maxSteps := 1000000 }) (disch := (first | omega | (simp only [go_sem]; try omega))) only [go_sem, Nat.reduceAdd, Nat.reduceEqDiff, Nat.reduceLeDiff, Nat.reduceMul, Nat.reduceLT, reduceIte, Int.reduceToNat, w64_id, cast_succ])
              rw [hstop (fun z => stepM_stop (.inl rfl) z)]
              exact GR.of ⟨rfl, rfl⟩
        · repeat (first | (with_reducible first | refine SW.seq ?_ | refine SW.block ?_ | refine SW.rowC ?_ | refine SW.skip ?_ | refine SW.exit ?_ | intro _ | refine And.intro (by omega) ?_) | simp (config := { maxSteps := 1000000 }) (disch := (first | omega | (simp only [go_sem]; try omega))) only [go_sem, Nat.reduceAdd, Nat.reduceEqDiff, Nat.reduceLeDiff, Nat.reduceMul, Nat.reduceLT, reduceIte, Int.reduceToNat, w64_id, cast_succ])
          refine SW.condT rfl ?_
          repeat (first | (with_reducible first | refine SW.seq ?_ | refine SW.block ?_ | refine SW.rowC ?_ | refine SW.skip ?_ | refine SW.exit ?_ | intro _ | refine And.intro (by omega) ?_) | simp (config := { maxSteps := 1000000 }) (disch := (first | omega | (simp only [go_sem]; try omega))) only [go_sem, Nat.reduceAdd, Nat.reduceEqDiff, Nat.reduceLeDiff, Nat.reduceMul, Nat.reduceLT, reduceIte, Int.reduceToNat, w64_id, cast_succ])
          exact SLoop.next (n - (y + 1)) (by omega) ⟨y + 1, by omega, rfl, by simp [go_sem], by rw [hnext, skip (by rw [hbk, hfr]; rfl)]; rfl, by rw [hnext, skip (by rw [hbk, hfr]; rfl)]⟩
      · repeat (first | (with_reducible first | refine SW.seq ?_ | refine SW.block ?_ | refine SW.rowC ?_ | refine SW.skip ?_ | refine SW.exit ?_ | intro _ | refine And.intro (by omega) ?_) | simp (config := { maxSteps := 1000000 }) (disch := (first | omega | (simp only [go_sem]; try omega))) only [go_sem, Nat.reduceAdd, Nat.reduceEqDiff, Nat.reduceLeDiff, Nat.reduceMul, Nat.reduceLT, reduceIte, Int.reduceToNat, w64_id, cast_succ, hg1, t0, t1, t2, t3, htk, hmx, hcd, hc3])
        refine SW.condT rfl ?_
        repeat (first | (with_reducible first | refine SW.seq ?_ | refine SW.block ?_ | refine SW.rowC ?_ | refine SW.skip ?_ | refine SW.exit ?_ | intro _ | refine And.intro (by omega) ?_) | simp (config := { maxSteps := 1000000 }) (disch := (first | omega | (simp only [go_sem]; try omega))) only [go_sem, Nat.reduceAdd, Nat.reduceEqDiff, Nat.reduceLeDiff, Nat.reduceMul, Nat.reduceLT, reduceIte, Int.reduceToNat, w64_id, cast_succ])
        exact SLoop.next (n - (y + 1)) (by omega) ⟨y + 1, by omega, rfl, by simp [go_sem], by rw [hnext, skip (by rw [hbk, hc3, Bool.or_true])]; rfl, by rw [hnext, skip (by rw [hbk, hc3, Bool.or_true])]⟩
    · have : y = n := by omega
      subst this
      repeat (first | (with_reducible first | refine SW.seq ?_ | refine SW.block ?_ | refine SW.rowC ?_ | refine SW.skip ?_ | refine SW.exit ?_ | intro _ | refine And.intro (by omega) ?_) | simp (config := { maxSteps := 1000000 }) (disch := (first | omega | (simp only [go_sem]; try omega))) only [go_sem, Nat.reduceAdd, Nat.reduceEqDiff, Nat.reduceLeDiff, Nat.reduceMul, Nat.reduceLT, reduceIte, Int.reduceToNat, w64_id, cast_succ])
      refine SW.ret ?_; (try simp only [go_sem]); (first | refine FunPost.one ?_ | refine FunPost.two ?_ | refine FunPost.three ?_); (try simp (config := { maxSteps := 1000000 }) (disch := (first | omega | (simp only [go_sem]; try omega))) only [go_sem, Nat.reduceAdd, Nat.reduceEqDiff, Nat.reduceLeDiff, Nat.reduceMul, Nat.reduceLT, reduceIte, Int.reduceToNat, w64_id, cast_succ])
      rw [hs1]
      exact GR.of ⟨rfl, rfl⟩
  intro H b k x st hb hx1 hxn hkn hpos hres hsp hl
  by_cases hxe : x < n
  · exact hRow H b k x st hb hx1 hxe hkn hpos hres hsp hl
  have hxe : x = n := by omega
  subst hxe
  have hla := ha.1
  have hmk := maskM_ok (k := k) hb.sq
  have e0 : ∀ sq left fl, hpL H x bud a sq left fl = H ++ (sqB x 0 H.length sq ++ [⟨0, tyL7, 1, [ilSS a, .nm H.length x 0 x, I ((bud - left : Nat) : Int), I bud, Bv fl]⟩]) := fun _ _ _ => rfl
  have hQ := sqB_length x 0 H.length (maskM b x k)
  rw [hmk.1] at hQ
  have hg1 := fun (b : Blk) (r : List Blk) => getAt hQ b r
  rw [e0 (maskM b x k) st.left false]
  refine ACalls.introB s_spec_l07Mate_run (by simp) ?_; intro hB hA; unfold c_spec_l07Mate_run; simp (config := { maxSteps := 1000000 }) (disch := (first | omega | (simp only [go_sem]; try omega))) only [go_sem, Nat.reduceAdd, Nat.reduceEqDiff, Nat.reduceLeDiff, Nat.reduceMul, Nat.reduceLT, reduceIte, Int.reduceToNat, w64_id, cast_succ]
  repeat (first | (with_reducible first | refine SW.seq ?_ | refine SW.block ?_ | refine SW.rowC ?_ | refine SW.skip ?_ | refine SW.exit ?_ | intro _ | refine And.intro (by omega) ?_) | simp (config := { maxSteps := 1000000 }) (disch := (first | omega | (simp only [go_sem]; try omega))) only [go_sem, Nat.reduceAdd, Nat.reduceEqDiff, Nat.reduceLeDiff, Nat.reduceMul, Nat.reduceLT, reduceIte, Int.reduceToNat, w64_id, cast_succ, hg1, hla])
  refine SW.condT rfl ?_
  repeat (first | (with_reducible first | refine SW.seq ?_ | refine SW.block ?_ | refine SW.rowC ?_ | refine SW.skip ?_ | refine SW.exit ?_ | intro _ | refine And.intro (by omega) ?_) | simp (config := { maxSteps := 1000000 }) (disch := (first | omega | (simp only [go_sem]; try omega))) only [go_sem, Nat.reduceAdd, Nat.reduceEqDiff, Nat.reduceLeDiff, Nat.reduceMul, Nat.reduceLT, reduceIte, Int.reduceToNat, w64_id, cast_succ])
  by_cases hke : k + 1 = x
  · refine SW.condT (show Bv (decide ((k : Int) + 1 = x)) = Bv true by rw [decide_eq_true (by omega)]) ?_
    repeat (first | (with_reducible first | refine SW.seq ?_ | refine SW.block ?_ | refine SW.rowC ?_ | refine SW.skip ?_ | refine SW.exit ?_ | intro _ | refine And.intro (by omega) ?_) | simp (config := { maxSteps := 1000000 }) (disch := (first | omega | (simp only [go_sem]; try omega))) only [go_sem, Nat.reduceAdd, Nat.reduceEqDiff, Nat.reduceLeDiff, Nat.reduceMul, Nat.reduceLT, reduceIte, Int.reduceToNat, w64_id, cast_succ])
    refine SW.ret ?_; (try simp only [go_sem]); (first | refine FunPost.one ?_ | refine FunPost.two ?_ | refine FunPost.three ?_); (try simp (config := { maxSteps := 1000000 }) (disch := (first | omega | (simp only [go_sem]; try omega))) only [go_sem, Nat.reduceAdd, Nat.reduceEqDiff, Nat.reduceLeDiff, Nat.reduceMul, Nat.reduceLT, reduceIte, Int.reduceToNat, w64_id, cast_succ])
    have hr0 : r = 0 := by
      have : x * (x - 1) = k * (x - 1) + (x - 1) := by rw [← hke, Nat.add_mul, Nat.one_mul]
      omega
    subst hr0
    have hm : matR a x 0 b st = { st with res := some b } := rfl
    have hmf : maskM b x k = b := by
      have := maskM_full hb.sq (by omega) hb.top
      rwa [show x - 1 = k by omega] at this
    rw [hm, hmf]
    refine GR.of ⟨rfl, ?_⟩
    show _ = hpL H x bud a b st.left st.spent
    rw [hsp]; rfl
  · refine SW.condF (show Bv (decide ((k : Int) + 1 = x)) = Bv false by rw [decide_eq_false (by omega)]) ?_
    repeat (first | (with_reducible first | refine SW.seq ?_ | refine SW.block ?_ | refine SW.rowC ?_ | refine SW.skip ?_ | refine SW.exit ?_ | intro _ | refine And.intro (by omega) ?_) | simp (config := { maxSteps := 1000000 }) (disch := (first | omega | (simp only [go_sem]; try omega))) only [go_sem, Nat.reduceAdd, Nat.reduceEqDiff, Nat.reduceLeDiff, Nat.reduceMul, Nat.reduceLT, reduceIte, Int.reduceToNat, w64_id, cast_succ])
    refine SW.condT rfl ?_
    have hmx : ((maskM b x k).getD 0 []).length = x := hmk.2 _ (by rw [getD_get (by rw [hmk.1]; omega)]; exact List.getElem_mem _)
    have t0 := fun ext => q0w (H := H) (n := x) (w := 0) (sq := maskM b x k) (ext := ext)
    have t1 := qtakew (H := H) (w := 0) hmk.1
    have t2 := qcellw (H := H) (w := 0) (x := 0) hmk (by omega)
    have t3 := fun ext => qroww (H := H) (w := 0) (x := 0) (ext := ext) hmk.1 (by omega)
    have htk : (((maskM b x k).getD 0 []).map I).take x = ((maskM b x k).getD 0 []).map I := List.take_of_length_le (by simp only [List.length_map]; omega)
    have c4 := fun (v : Int) ext => qsetw (H := H) (n := x) (w := 0) (y := k + 1) (ext := ext) hmk.1 (show 0 < x by omega) v
    repeat (first | (with_reducible first | refine SW.seq ?_ | refine SW.block ?_ | refine SW.rowC ?_ | refine SW.skip ?_ | refine SW.exit ?_ | intro _ | refine And.intro (by omega) ?_) | simp (config := { maxSteps := 1000000 }) (disch := (first | omega | (simp only [go_sem]; try omega))) only [go_sem, Nat.reduceAdd, Nat.reduceEqDiff, Nat.reduceLeDiff, Nat.reduceMul, Nat.reduceLT, reduceIte, Int.reduceToNat, w64_id, cast_succ, hg1, t0, t1, t2, t3, htk, hmx, c4])
    rw [maskM_next hb.sq (by omega)]
    have hpos2 : (k + 1) * (x - 1) + (1 - 1) + r = x * (x - 1) := by rw [Nat.add_mul, Nat.one_mul]; omega
    refine (hRow H b (k + 1) 1 st hb.next (Nat.le_refl _) (by omega) (by omega) hpos2 hres hsp hl).mono ?_
    rintro v H5 ⟨rfl, rfl⟩
    generalize matR a x r b st = s3 at *
    obtain ⟨left3, spent3, res3⟩ := s3
    cases res3 with
    | some b' =>
      repeat (first | (with_reducible first | refine SW.seq ?_ | refine SW.block ?_ | refine SW.rowC ?_ | refine SW.skip ?_ | refine SW.exit ?_ | intro _ | refine And.intro (by omega) ?_) | simp (config := { maxSteps := 1000000 }) (disch := (first | omega | (simp only [go_sem]; try omega))) only [go_sem, Nat.reduceAdd, Nat.reduceEqDiff, Nat.reduceLeDiff, Nat.reduceMul, Nat.reduceLT, reduceIte, Int.reduceToNat, w64_id, cast_succ])
      refine SW.condT rfl ?_
      repeat (first | (with_reducible first | refine SW.seq ?_ | refine SW.block ?_ | refine SW.rowC ?_ | refine SW.skip ?_ | refine SW.exit ?_ | intro _ | refine And.intro (by omega) ?_) | simp (config := { maxSteps := 1000000 }) (disch := (first | omega | (simp only [go_sem]; try omega))) only [go_sem, Nat.reduceAdd, Nat.reduceEqDiff, Nat.reduceLeDiff, Nat.reduceMul, Nat.reduceLT, reduceIte, Int.reduceToNat, w64_id, cast_succ])
      refine SW.ret ?_; (try simp only [go_sem]); (first | refine FunPost.one ?_ | refine FunPost.two ?_ | refine FunPost.three ?_); (try simp (config := { maxSteps := 1000000 }) (disch := (first | omega | (simp only [go_sem]; try omega))) only [go_sem, Nat.reduceAdd, Nat.reduceEqDiff, Nat.reduceLeDiff, Nat.reduceMul, Nat.reduceLT, reduceIte, Int.reduceToNat, w64_id, cast_succ])
      exact GR.of ⟨rfl, rfl⟩
    | none =>
      have hm2 := maskM_ok (k := k + 1) hb.sq
      have hQ2 := sqB_length x 0 H.length (maskM b x (k + 1))
      rw [hm2.1] at hQ2
      have kg1 := fun (b : Blk) (r : List Blk) => getAt hQ2 b r
      have u0 := fun ext => q0w (H := H) (n := x) (w := 0) (sq := maskM b x (k + 1)) (ext := ext)
      have u1 := qtakew (H := H) (w := 0) hm2.1
      have u2 := qcellw (H := H) (w := 0) (x := 0) hm2 (by omega)
      have u3 := fun ext => qroww (H := H) (w := 0) (x := 0) (ext := ext) hm2.1 (by omega)
      have umx : ((maskM b x (k + 1)).getD 0 []).length = x := hm2.2 _ (by rw [getD_get (by rw [hm2.1]; omega)]; exact List.getElem_mem _)
      have utk : (((maskM b x (k + 1)).getD 0 []).map I).take x = ((maskM b x (k + 1)).getD 0 []).map I := List.take_of_length_le (by simp only [List.length_map]; omega)
      have u4 := fun (v : Int) ext => qsetw (H := H) (n := x) (w := 0) (y := k + 1) (ext := ext) hm2.1 (show 0 < x by omega) v
      have hout : outM (maskM b x (k + 1)) ⟨left3, spent3, none⟩ = maskM b x (k + 1) := rfl
      rw [hout, e0 (maskM b x (k + 1))]
      repeat (first | (with_reducible first | refine SW.seq ?_ | refine SW.block ?_ | refine SW.rowC ?_ | refine SW.skip ?_ | refine SW.exit ?_ | intro _ | refine And.intro (by omega) ?_) | simp (config := { maxSteps := 1000000 }) (disch := (first | omega | (simp only [go_sem]; try omega))) only [go_sem, Nat.reduceAdd, Nat.reduceEqDiff, Nat.reduceLeDiff, Nat.reduceMul, Nat.reduceLT, reduceIte, Int.reduceToNat, w64_id, cast_succ])
      refine SW.condF rfl ?_
      repeat (first | (with_reducible first | refine SW.seq ?_ | refine SW.block ?_ | refine SW.rowC ?_ | refine SW.skip ?_ | refine SW.exit ?_ | intro _ | refine And.intro (by omega) ?_) | simp (config := { maxSteps := 1000000 }) (disch := (first | omega | (simp only [go_sem]; try omega))) only [go_sem, Nat.reduceAdd, Nat.reduceEqDiff, Nat.reduceLeDiff, Nat.reduceMul, Nat.reduceLT, reduceIte, Int.reduceToNat, w64_id, cast_succ, kg1, u0, u1, u2, u3, umx, utk, u4])
      rw [maskM_back hb.sq (by omega)]
      repeat (first | (with_reducible first | refine SW.seq ?_ | refine SW.block ?_ | refine SW.rowC ?_ | refine SW.skip ?_ | refine SW.exit ?_ | intro _ | refine And.intro (by omega) ?_) | simp (config := { maxSteps := 1000000 }) (disch := (first | omega | (simp only [go_sem]; try omega))) only [go_sem, Nat.reduceAdd, Nat.reduceEqDiff, Nat.reduceLeDiff, Nat.reduceMul, Nat.reduceLT, reduceIte, Int.reduceToNat, w64_id, cast_succ])
      refine SW.ret ?_; (try simp only [go_sem]); (first | refine FunPost.one ?_ | refine FunPost.two ?_ | refine FunPost.three ?_); (try simp (config := { maxSteps := 1000000 }) (disch := (first | omega | (simp only [go_sem]; try omega))) only [go_sem, Nat.reduceAdd, Nat.reduceEqDiff, Nat.reduceLeDiff, Nat.reduceMul, Nat.reduceLT, reduceIte, Int.reduceToNat, w64_id, cast_succ])
      exact GR.of ⟨rfl, rfl⟩
end Go.Proofs.Ytflnjgeoegofdaa
