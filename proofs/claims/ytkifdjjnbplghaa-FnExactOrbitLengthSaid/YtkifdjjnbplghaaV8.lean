/- Groups of permutations: valid groups in the reference, all told. -/
import Derived.Test.YtkifdjjnbplghaaProg
import Derived.KernelRfl
import Derived.Test.YtkifdjjnbplghaaV7
import Derived.Test.YtkifdjjnbplghaaD1
set_option linter.unusedSimpArgs false
set_option linter.unusedVariables false
set_option maxHeartbeats 4000000
set_option maxRecDepth 100000
namespace Go.Proofs.Ytkifdjjnbplghaa
open Go.Av

/-! The abstract code of functions, printed by program and tied to the program by the kernel. -/
/-- loop.example/g00920/spec.l05Ok -/
abbrev f_spec_l05Ok : Nat := 24
def c_spec_l05Ok : SC :=
 .seq (.reg [
     ⟨(some 2), .mv (.const (.bool false)), none⟩] [0])
 (.seq (.seq (.reg [
     ⟨(some 6), .mv (.tmp 0), none⟩,
     ⟨(some 7), .nilc (.tmp 6), none⟩,
     ⟨(some 8), .faddr 0 (.tmp 7), none⟩,
     ⟨(some 9), .load 1 false (.tmp 8), none⟩,
     ⟨(some 10), .call 34 [(.tmp 9), (.const (.int .i64 1)), (.const (.int .i64 32))], none⟩,
     ⟨(some 11), .un .not (.tmp 10), none⟩,
     ⟨(some 12), .mv (.tmp 11), none⟩,
     ⟨(some 13), .mv (.tmp 0), (some (12, false))⟩,
     ⟨(some 14), .nilc (.tmp 13), (some (12, false))⟩,
     ⟨(some 15), .faddr 1 (.tmp 14), (some (12, false))⟩,
     ⟨(some 16), .load 1 false (.tmp 15), (some (12, false))⟩,
     ⟨(some 17), .len (.tmp 16), (some (12, false))⟩,
     ⟨(some 18), .bin .eql (.tmp 17) (.const (.int .i64 0)), (some (12, false))⟩,
     ⟨(some 19), .pick (.tmp 12) (.const (.bool true)) (.tmp 18), none⟩,
     ⟨(some 20), .mv (.tmp 19), none⟩,
     ⟨(some 21), .mv (.tmp 0), (some (20, false))⟩,
     ⟨(some 22), .nilc (.tmp 21), (some (20, false))⟩,
     ⟨(some 23), .faddr 1 (.tmp 22), (some (20, false))⟩,
     ⟨(some 24), .load 1 false (.tmp 23), (some (20, false))⟩,
     ⟨(some 25), .len (.tmp 24), (some (20, false))⟩,
     ⟨(some 26), .bin .gtr (.tmp 25) (.const (.int .i64 720)), (some (20, false))⟩,
     ⟨(some 27), .pick (.tmp 20) (.const (.bool true)) (.tmp 26), none⟩] [0, 27])
 (.cond (.tmp 27)
  (.seq (.reg [
      ⟨(some 2), .mv (.const (.bool false)), none⟩] [2])
  (.ret))
  (.skip)))
 (.seq (.seq (.reg [
     ⟨(some 3), .mv (.const (.int .i64 0)), none⟩] [0, 3])
 (.block 0 (.loop [0, 3]
   (.seq (.seq (.reg [
       ⟨(some 28), .mv (.tmp 3), none⟩,
       ⟨(some 29), .mv (.tmp 0), none⟩,
       ⟨(some 30), .nilc (.tmp 29), none⟩,
       ⟨(some 31), .faddr 1 (.tmp 30), none⟩,
       ⟨(some 32), .load 1 false (.tmp 31), none⟩,
       ⟨(some 33), .len (.tmp 32), none⟩,
       ⟨(some 34), .bin .lss (.tmp 28) (.tmp 33), none⟩] [0, 3, 34])
   (.cond (.tmp 34)
    (.skip)
    (.exit 0)))
   (.seq (.block 1 (.seq (.reg [
        ⟨(some 37), .mv (.tmp 0), none⟩,
        ⟨(some 38), .nilc (.tmp 37), none⟩,
        ⟨(some 39), .faddr 1 (.tmp 38), none⟩,
        ⟨(some 40), .load 1 false (.tmp 39), none⟩,
        ⟨(some 41), .mv (.tmp 3), none⟩,
        ⟨(some 42), .iaddr 1 (.tmp 40) (.tmp 41), none⟩,
        ⟨(some 43), .load 1 false (.tmp 42), none⟩,
        ⟨(some 44), .qcall 46 [(.tmp 43)], none⟩,
        ⟨(some 45), .un .not (.tmp 44), none⟩,
        ⟨(some 46), .mv (.tmp 45), none⟩,
        ⟨(some 47), .mv (.tmp 0), (some (46, false))⟩,
        ⟨(some 48), .nilc (.tmp 47), (some (46, false))⟩,
        ⟨(some 49), .faddr 1 (.tmp 48), (some (46, false))⟩,
        ⟨(some 50), .load 1 false (.tmp 49), (some (46, false))⟩,
        ⟨(some 51), .mv (.tmp 3), (some (46, false))⟩,
        ⟨(some 52), .iaddr 1 (.tmp 50) (.tmp 51), (some (46, false))⟩,
        ⟨(some 53), .load 1 false (.tmp 52), (some (46, false))⟩,
        ⟨(some 54), .qlen (.tmp 53), (some (46, false))⟩,
        ⟨(some 55), .mv (.tmp 0), (some (46, false))⟩,
        ⟨(some 56), .nilc (.tmp 55), (some (46, false))⟩,
        ⟨(some 57), .faddr 0 (.tmp 56), (some (46, false))⟩,
        ⟨(some 58), .load 1 false (.tmp 57), (some (46, false))⟩,
        ⟨(some 59), .bin .neq (.tmp 54) (.tmp 58), (some (46, false))⟩,
        ⟨(some 60), .pick (.tmp 46) (.const (.bool true)) (.tmp 59), none⟩,
        ⟨(some 61), .mv (.tmp 60), none⟩,
        ⟨(some 62), .mv (.tmp 3), (some (61, false))⟩,
        ⟨(some 63), .bin .gtr (.tmp 62) (.const (.int .i64 0)), (some (61, false))⟩,
        ⟨(some 64), .mv (.tmp 63), (some (61, false))⟩,
        ⟨(some 65), .mv (.tmp 0), (some (64, true))⟩,
        ⟨(some 66), .nilc (.tmp 65), (some (64, true))⟩,
        ⟨(some 67), .faddr 1 (.tmp 66), (some (64, true))⟩,
        ⟨(some 68), .load 1 false (.tmp 67), (some (64, true))⟩,
        ⟨(some 69), .mv (.tmp 3), (some (64, true))⟩,
        ⟨(some 70), .bin .sub (.tmp 69) (.const (.int .i64 1)), (some (64, true))⟩,
        ⟨(some 71), .iaddr 1 (.tmp 68) (.tmp 70), (some (64, true))⟩,
        ⟨(some 72), .load 1 false (.tmp 71), (some (64, true))⟩,
        ⟨(some 73), .mv (.tmp 0), (some (64, true))⟩,
        ⟨(some 74), .nilc (.tmp 73), (some (64, true))⟩,
        ⟨(some 75), .faddr 1 (.tmp 74), (some (64, true))⟩,
        ⟨(some 76), .load 1 false (.tmp 75), (some (64, true))⟩,
        ⟨(some 77), .mv (.tmp 3), (some (64, true))⟩,
        ⟨(some 78), .iaddr 1 (.tmp 76) (.tmp 77), (some (64, true))⟩,
        ⟨(some 79), .load 1 false (.tmp 78), (some (64, true))⟩,
        ⟨(some 80), .qcall 47 [(.tmp 72), (.tmp 79)], (some (64, true))⟩,
        ⟨(some 81), .bin .geq (.tmp 80) (.const (.int .i64 0)), (some (64, true))⟩,
        ⟨(some 82), .pick (.tmp 64) (.tmp 81) (.const (.bool false)), (some (61, false))⟩,
        ⟨(some 83), .pick (.tmp 61) (.const (.bool true)) (.tmp 82), none⟩] [0, 3, 83])
    (.cond (.tmp 83)
     (.seq (.reg [
         ⟨(some 2), .mv (.const (.bool false)), none⟩] [2])
     (.ret))
     (.skip))))
   (.reg [
       ⟨(some 35), .mv (.tmp 3), none⟩,
       ⟨(some 36), .bin .add (.tmp 35) (.const (.int .i64 1)), none⟩,
       ⟨(some 3), .mv (.tmp 36), none⟩] [0, 3]))))))
 (.seq (.reg [
     ⟨(some 85), .mv (.tmp 0), none⟩,
     ⟨(some 86), .nilc (.tmp 85), none⟩,
     ⟨(some 87), .faddr 0 (.tmp 86), none⟩,
     ⟨(some 88), .load 1 false (.tmp 87), none⟩,
     ⟨(some 89), .mv (.tmp 0), none⟩,
     ⟨(some 90), .nilc (.tmp 89), none⟩,
     ⟨(some 91), .faddr 1 (.tmp 90), none⟩,
     ⟨(some 92), .load 1 false (.tmp 91), none⟩,
     ⟨(some 93), .qcall 48 [(.tmp 88), (.tmp 92)], none⟩,
     ⟨(some 84), .mv (.tmp 93), none⟩,
     ⟨(some 94), .ext (.tmp 84) 0, none⟩,
     ⟨(some 95), .ext (.tmp 84) 1, none⟩,
     ⟨(some 4), .mv (.tmp 94), none⟩,
     ⟨(some 5), .mv (.tmp 95), none⟩] [5])
 (.seq (.reg [
     ⟨(some 96), .mv (.tmp 5), none⟩,
     ⟨(some 2), .mv (.tmp 96), none⟩] [2])
 (.ret)))))
theorem s_spec_l05Ok : stripF Try.prog 24 [[0], [0, 27], [2], [0, 3], [0, 3], [0, 3, 34], [0, 3, 83], [2], [0, 3], [5], [2]] = some (c_spec_l05Ok, [.tmp 2], 97) := by kernel_rfl


theorem junk1 {P : Program} {f : FuncId} {args : List AV} {H : List Blk} {b : AV} (h : ACalls P f args H (fun r H' => ∃ x, r = .tup [x, b] ∧ H' = H)) : ACalls P f args H (fun r H' => r = .tup [.junk, b] ∧ H' = H) := by
  intro B W0 F m w vs hr hs
  refine (h B W0 F m w vs hr hs).mono ?_
  rintro e w' ⟨F', m', H', r, v, rfl, g1, g2, g3, g4, x, rfl, rfl⟩
  refine ⟨F', m', _, .tup [.junk, b], v, rfl, g1, g2, ?_, g4, rfl, rfl⟩
  cases g3 with
  | tup _ us h1 h2 =>
    refine .tup _ us h1 (fun j c u hc hu => ?_)
    match j with
    | 0 => simp at hc; subst hc; exact .junk _
    | 1 => simp at hc; subst hc; exact h2 1 b u rfl hu
    | j + 2 => simp at hc
theorem l05Generators_fn (n : Nat) (els : List (List Int)) (hn1 : 1 ≤ n) (hn : n ≤ 32) (hp : ∀ p ∈ els, permOk n p) (hl1 : 1 ≤ els.length) (hl : els.length ≤ 720) (hasc : Asc cmpL els) :
    PFn Try.prog f_spec_l05Generators [I n, ilSS els] (.tup [.junk, Bv (closB n els)]) := fun H =>
  junk1 ((l05Generators_ok H n els hn1 hn hp hl1 hl hasc).mono fun r H' ⟨G, h1, h2⟩ => ⟨ilSS G, h1, h2⟩)
theorem grpB_clos {n : Int} {els : List (List Int)} (c1 : 1 ≤ n ∧ n ≤ 32) (c2 : 1 ≤ els.length ∧ els.length ≤ 720) (c4 : ∀ p ∈ els, permOk n.toNat p) (ha : Asc cmpL els) : grpB n els = closB n.toNat els := by
  rw [Bool.eq_iff_iff, grpB_t, closB_t]
  exact ⟨fun h => h.2.2.2.2, fun h => ⟨c1, c2, c4, ha, h⟩⟩
theorem l05Ok_ok (H : List Blk) (p : Nat) (n : Int) (els : List (List Int)) (hp : H[p]? = some ⟨0, tyG, 1, [I n, ilSS els]⟩) :
    ACalls Try.prog f_spec_l05Ok [.pc p 0 0] H (fun r H' => r = Bv (grpB n els) ∧ H' = H) := by
  have hpa := fun (o : Nat) => pc_alive (off := o) hp
  have hpl := fun (o : Nat) => pc_ld (off := o) hp
  have hw := l00In_fn n 1 32
  by_cases c1 : 1 ≤ n ∧ n ≤ 32
  rotate_left
  · have hF : grpB n els = false := grpB_f.2 fun h => c1 h.1
    rw [show (decide (1 ≤ n) && decide (n ≤ 32)) = false by rw [Bool.and_eq_false_iff, decide_eq_false_iff_not, decide_eq_false_iff_not]; omega] at hw
    refine ACalls.introB s_spec_l05Ok (by simp) ?_; intro hB hA; unfold c_spec_l05Ok; simp (config := { maxSteps := 1000000 }) (disch := (first | omega | (simp only [go_sem]; try omega))) only [go_sem, Nat.reduceAdd, Nat.reduceEqDiff, Nat.reduceLeDiff, Nat.reduceMul, Nat.reduceLT, reduceIte, Int.reduceToNat, w64_id, cast_succ]
    repeat (first | (with_reducible first | refine SW.seq ?_ | refine SW.block ?_ | refine SW.rowC ?_ | refine SW.skip ?_ | refine SW.exit ?_ | refine PFn.use (hw) ?_ | refine PFn.useq (hw) ?_ | intro _ | refine And.intro (by omega) ?_) | simp (config := { maxSteps := 1000000 }) (disch := (first | omega | (simp only [go_sem]; try omega))) only [go_sem, Nat.reduceAdd, Nat.reduceEqDiff, Nat.reduceLeDiff, Nat.reduceMul, Nat.reduceLT, reduceIte, Int.reduceToNat, w64_id, cast_succ, hpa, hpl])
    refine SW.condT rfl ?_
    repeat (first | (with_reducible first | refine SW.seq ?_ | refine SW.block ?_ | refine SW.rowC ?_ | refine SW.skip ?_ | refine SW.exit ?_ | intro _ | refine And.intro (by omega) ?_) | simp (config := { maxSteps := 1000000 }) (disch := (first | omega | (simp only [go_sem]; try omega))) only [go_sem, Nat.reduceAdd, Nat.reduceEqDiff, Nat.reduceLeDiff, Nat.reduceMul, Nat.reduceLT, reduceIte, Int.reduceToNat, w64_id, cast_succ])
    refine SW.ret ?_; (try simp only [go_sem]); (first | refine FunPost.one ?_ | refine FunPost.two ?_ | refine FunPost.three ?_); (try simp (config := { maxSteps := 1000000 }) (disch := (first | omega | (simp only [go_sem]; try omega))) only [go_sem, Nat.reduceAdd, Nat.reduceEqDiff, Nat.reduceLeDiff, Nat.reduceMul, Nat.reduceLT, reduceIte, Int.reduceToNat, w64_id, cast_succ]); (first | (with_reducible refine GR.drop ?_ ?_; (simp only [go_sem, and_self, and_true, true_and, implies_true, List.take_succ_cons, List.take_zero])) | refine GR.of ?_); refine ⟨?_, rfl⟩; (try with_reducible rfl)
    rw [hF]
  rw [show (decide (1 ≤ n) && decide (n ≤ 32)) = true by rw [Bool.and_eq_true, decide_eq_true_eq, decide_eq_true_eq]; omega] at hw
  by_cases c2 : 1 ≤ els.length
  rotate_left
  · have hF : grpB n els = false := grpB_f.2 fun h => c2 h.2.1.1
    have d2 : decide ((els.length : Int) = 0) = true := decide_eq_true (by omega)
    refine ACalls.introB s_spec_l05Ok (by simp) ?_; intro hB hA; unfold c_spec_l05Ok; simp (config := { maxSteps := 1000000 }) (disch := (first | omega | (simp only [go_sem]; try omega))) only [go_sem, Nat.reduceAdd, Nat.reduceEqDiff, Nat.reduceLeDiff, Nat.reduceMul, Nat.reduceLT, reduceIte, Int.reduceToNat, w64_id, cast_succ]
    repeat (first | (with_reducible first | refine SW.seq ?_ | refine SW.block ?_ | refine SW.rowC ?_ | refine SW.skip ?_ | refine SW.exit ?_ | refine PFn.use (hw) ?_ | refine PFn.useq (hw) ?_ | intro _ | refine And.intro (by omega) ?_) | simp (config := { maxSteps := 1000000 }) (disch := (first | omega | (simp only [go_sem]; try omega))) only [go_sem, Nat.reduceAdd, Nat.reduceEqDiff, Nat.reduceLeDiff, Nat.reduceMul, Nat.reduceLT, reduceIte, Int.reduceToNat, w64_id, cast_succ, hpa, hpl, d2])
    refine SW.condT rfl ?_
    repeat (first | (with_reducible first | refine SW.seq ?_ | refine SW.block ?_ | refine SW.rowC ?_ | refine SW.skip ?_ | refine SW.exit ?_ | intro _ | refine And.intro (by omega) ?_) | simp (config := { maxSteps := 1000000 }) (disch := (first | omega | (simp only [go_sem]; try omega))) only [go_sem, Nat.reduceAdd, Nat.reduceEqDiff, Nat.reduceLeDiff, Nat.reduceMul, Nat.reduceLT, reduceIte, Int.reduceToNat, w64_id, cast_succ])
    refine SW.ret ?_; (try simp only [go_sem]); (first | refine FunPost.one ?_ | refine FunPost.two ?_ | refine FunPost.three ?_); (try simp (config := { maxSteps := 1000000 }) (disch := (first | omega | (simp only [go_sem]; try omega))) only [go_sem, Nat.reduceAdd, Nat.reduceEqDiff, Nat.reduceLeDiff, Nat.reduceMul, Nat.reduceLT, reduceIte, Int.reduceToNat, w64_id, cast_succ]); (first | (with_reducible refine GR.drop ?_ ?_; (simp only [go_sem, and_self, and_true, true_and, implies_true, List.take_succ_cons, List.take_zero])) | refine GR.of ?_); refine ⟨?_, rfl⟩; (try with_reducible rfl)
    rw [hF]
  have d2 : decide ((els.length : Int) = 0) = false := decide_eq_false (by omega)
  by_cases c3 : els.length ≤ 720
  rotate_left
  · have hF : grpB n els = false := grpB_f.2 fun h => c3 h.2.1.2
    have d3 : decide ((720 : Int) < (els.length : Int)) = true := decide_eq_true (by omega)
    refine ACalls.introB s_spec_l05Ok (by simp) ?_; intro hB hA; unfold c_spec_l05Ok; simp (config := { maxSteps := 1000000 }) (disch := (first | omega | (simp only [go_sem]; try omega))) only [go_sem, Nat.reduceAdd, Nat.reduceEqDiff, Nat.reduceLeDiff, Nat.reduceMul, Nat.reduceLT, reduceIte, Int.reduceToNat, w64_id, cast_succ]
    repeat (first | (with_reducible first | refine SW.seq ?_ | refine SW.block ?_ | refine SW.rowC ?_ | refine SW.skip ?_ | refine SW.exit ?_ | refine PFn.use (hw) ?_ | refine PFn.useq (hw) ?_ | intro _ | refine And.intro (by omega) ?_) | simp (config := { maxSteps := 1000000 }) (disch := (first | omega | (simp only [go_sem]; try omega))) only [go_sem, Nat.reduceAdd, Nat.reduceEqDiff, Nat.reduceLeDiff, Nat.reduceMul, Nat.reduceLT, reduceIte, Int.reduceToNat, w64_id, cast_succ, hpa, hpl, d2, d3])
    refine SW.condT rfl ?_
    repeat (first | (with_reducible first | refine SW.seq ?_ | refine SW.block ?_ | refine SW.rowC ?_ | refine SW.skip ?_ | refine SW.exit ?_ | intro _ | refine And.intro (by omega) ?_) | simp (config := { maxSteps := 1000000 }) (disch := (first | omega | (simp only [go_sem]; try omega))) only [go_sem, Nat.reduceAdd, Nat.reduceEqDiff, Nat.reduceLeDiff, Nat.reduceMul, Nat.reduceLT, reduceIte, Int.reduceToNat, w64_id, cast_succ])
    refine SW.ret ?_; (try simp only [go_sem]); (first | refine FunPost.one ?_ | refine FunPost.two ?_ | refine FunPost.three ?_); (try simp (config := { maxSteps := 1000000 }) (disch := (first | omega | (simp only [go_sem]; try omega))) only [go_sem, Nat.reduceAdd, Nat.reduceEqDiff, Nat.reduceLeDiff, Nat.reduceMul, Nat.reduceLT, reduceIte, Int.reduceToNat, w64_id, cast_succ]); (first | (with_reducible refine GR.drop ?_ ?_; (simp only [go_sem, and_self, and_true, true_and, implies_true, List.take_succ_cons, List.take_zero])) | refine GR.of ?_); refine ⟨?_, rfl⟩; (try with_reducible rfl)
    rw [hF]
  have d3 : decide ((720 : Int) < (els.length : Int)) = false := decide_eq_false (by omega)
  refine ACalls.introB s_spec_l05Ok (by simp) ?_; intro hB hA; unfold c_spec_l05Ok; simp (config := { maxSteps := 1000000 }) (disch := (first | omega | (simp only [go_sem]; try omega))) only [go_sem, Nat.reduceAdd, Nat.reduceEqDiff, Nat.reduceLeDiff, Nat.reduceMul, Nat.reduceLT, reduceIte, Int.reduceToNat, w64_id, cast_succ]
  repeat (first | (with_reducible first | refine SW.seq ?_ | refine SW.block ?_ | refine SW.rowC ?_ | refine SW.skip ?_ | refine SW.exit ?_ | refine PFn.use (hw) ?_ | refine PFn.useq (hw) ?_ | intro _ | refine And.intro (by omega) ?_) | simp (config := { maxSteps := 1000000 }) (disch := (first | omega | (simp only [go_sem]; try omega))) only [go_sem, Nat.reduceAdd, Nat.reduceEqDiff, Nat.reduceLeDiff, Nat.reduceMul, Nat.reduceLT, reduceIte, Int.reduceToNat, w64_id, cast_succ, hpa, hpl, d2, d3])
  refine SW.condF rfl ?_
  repeat (first | (with_reducible first | refine SW.seq ?_ | refine SW.block ?_ | refine SW.rowC ?_ | refine SW.skip ?_ | refine SW.exit ?_ | intro _ | refine And.intro (by omega) ?_) | simp (config := { maxSteps := 1000000 }) (disch := (first | omega | (simp only [go_sem]; try omega))) only [go_sem, Nat.reduceAdd, Nat.reduceEqDiff, Nat.reduceLeDiff, Nat.reduceMul, Nat.reduceLT, reduceIte, Int.reduceToNat, w64_id, cast_succ])
  refine SW.loopE (fun E0 H0 q E' H' => ∃ (pre post : List (List Int)), els = pre ++ post ∧ q = post.length ∧ E' = aput E0 3 (I pre.length) ∧ H' = H0 ∧ Asc cmpL pre ∧ ∀ x ∈ pre, permOk n.toNat x) els.length ⟨[], els, rfl, rfl, rfl, rfl, .nil, by simp⟩ ?_
  rintro q E' H' ⟨pre, post, hpp, rfl, rfl, rfl, hasc, hok⟩
  simp (config := { maxSteps := 1000000 }) (disch := (first | omega | (simp only [go_sem]; try omega))) only [go_sem, Nat.reduceAdd, Nat.reduceEqDiff, Nat.reduceLeDiff, Nat.reduceMul, Nat.reduceLT, reduceIte, Int.reduceToNat, w64_id, cast_succ]
  repeat (first | (with_reducible first | refine SW.seq ?_ | refine SW.block ?_ | refine SW.rowC ?_ | refine SW.skip ?_ | refine SW.exit ?_ | intro _ | refine And.intro (by omega) ?_) | simp (config := { maxSteps := 1000000 }) (disch := (first | omega | (simp only [go_sem]; try omega))) only [go_sem, Nat.reduceAdd, Nat.reduceEqDiff, Nat.reduceLeDiff, Nat.reduceMul, Nat.reduceLT, reduceIte, Int.reduceToNat, w64_id, cast_succ, hpa, hpl])
  (first | refine SW.condD rfl (fun h2 => ?_) (fun h2 => ?_) | refine SW.condN rfl (fun h2 => ?_) (fun h2 => ?_) | refine SW.condNB rfl (fun h2 => ?_) (fun h2 => ?_) | refine SW.condB rfl (fun h2 => ?_) (fun h2 => ?_))
  · obtain ⟨x, post, rfl, hgx, -⟩ := consOf (d := []) hpp (by omega)
    have hxm : x ∈ els := by rw [hpp]; simp
    have hl4 := l04Ok_fn x
    by_cases cx : permB x = true
    rotate_left
    · rw [Bool.not_eq_true] at cx
      have hF : grpB n els = false := grpB_f.2 fun h => by
        have := (permOk_B c1.1 c1.2 (h.2.2.1 x hxm)).2
        rw [cx] at this; cases this
      rw [cx] at hl4
      repeat (first | (with_reducible first | refine SW.seq ?_ | refine SW.block ?_ | refine SW.rowC ?_ | refine SW.skip ?_ | refine SW.exit ?_ | refine PFn.use (hl4) ?_ | refine PFn.useq (hl4) ?_ | intro _ | refine And.intro (by omega) ?_) | simp (config := { maxSteps := 1000000 }) (disch := (first | omega | (simp only [go_sem]; try omega))) only [go_sem, Nat.reduceAdd, Nat.reduceEqDiff, Nat.reduceLeDiff, Nat.reduceMul, Nat.reduceLT, reduceIte, Int.reduceToNat, w64_id, cast_succ, hpa, hpl, hgx])
      refine SW.condT rfl ?_
      repeat (first | (with_reducible first | refine SW.seq ?_ | refine SW.block ?_ | refine SW.rowC ?_ | refine SW.skip ?_ | refine SW.exit ?_ | intro _ | refine And.intro (by omega) ?_) | simp (config := { maxSteps := 1000000 }) (disch := (first | omega | (simp only [go_sem]; try omega))) only [go_sem, Nat.reduceAdd, Nat.reduceEqDiff, Nat.reduceLeDiff, Nat.reduceMul, Nat.reduceLT, reduceIte, Int.reduceToNat, w64_id, cast_succ])
      refine SW.ret ?_; (try simp only [go_sem]); (first | refine FunPost.one ?_ | refine FunPost.two ?_ | refine FunPost.three ?_); (try simp (config := { maxSteps := 1000000 }) (disch := (first | omega | (simp only [go_sem]; try omega))) only [go_sem, Nat.reduceAdd, Nat.reduceEqDiff, Nat.reduceLeDiff, Nat.reduceMul, Nat.reduceLT, reduceIte, Int.reduceToNat, w64_id, cast_succ]); (first | (with_reducible refine GR.drop ?_ ?_; (simp only [go_sem, and_self, and_true, true_and, implies_true, List.take_succ_cons, List.take_zero])) | refine GR.of ?_); refine ⟨?_, rfl⟩; (try with_reducible rfl)
      rw [hF]
    rw [cx] at hl4
    by_cases cl : (x.length : Int) = n
    rotate_left
    · have hF : grpB n els = false := grpB_f.2 fun h => cl (permOk_B c1.1 c1.2 (h.2.2.1 x hxm)).1
      have dl := decide_eq_false cl
      repeat (first | (with_reducible first | refine SW.seq ?_ | refine SW.block ?_ | refine SW.rowC ?_ | refine SW.skip ?_ | refine SW.exit ?_ | refine PFn.use (hl4) ?_ | refine PFn.useq (hl4) ?_ | intro _ | refine And.intro (by omega) ?_) | simp (config := { maxSteps := 1000000 }) (disch := (first | omega | (simp only [go_sem]; try omega))) only [go_sem, Nat.reduceAdd, Nat.reduceEqDiff, Nat.reduceLeDiff, Nat.reduceMul, Nat.reduceLT, reduceIte, Int.reduceToNat, w64_id, cast_succ, hpa, hpl, hgx, dl])
      refine SW.condT rfl ?_
      repeat (first | (with_reducible first | refine SW.seq ?_ | refine SW.block ?_ | refine SW.rowC ?_ | refine SW.skip ?_ | refine SW.exit ?_ | intro _ | refine And.intro (by omega) ?_) | simp (config := { maxSteps := 1000000 }) (disch := (first | omega | (simp only [go_sem]; try omega))) only [go_sem, Nat.reduceAdd, Nat.reduceEqDiff, Nat.reduceLeDiff, Nat.reduceMul, Nat.reduceLT, reduceIte, Int.reduceToNat, w64_id, cast_succ])
      refine SW.ret ?_; (try simp only [go_sem]); (first | refine FunPost.one ?_ | refine FunPost.two ?_ | refine FunPost.three ?_); (try simp (config := { maxSteps := 1000000 }) (disch := (first | omega | (simp only [go_sem]; try omega))) only [go_sem, Nat.reduceAdd, Nat.reduceEqDiff, Nat.reduceLeDiff, Nat.reduceMul, Nat.reduceLT, reduceIte, Int.reduceToNat, w64_id, cast_succ]); (first | (with_reducible refine GR.drop ?_ ?_; (simp only [go_sem, and_self, and_true, true_and, implies_true, List.take_succ_cons, List.take_zero])) | refine GR.of ?_); refine ⟨?_, rfl⟩; (try with_reducible rfl)
      rw [hF]
    have dl := decide_eq_true cl
    have hxo := permB_ok c1.1 ⟨cl, cx⟩
    have hfin : Asc cmpL (pre ++ [x]) → ∀ y ∈ pre ++ [x], permOk n.toNat y := fun _ y hy => by
      rcases List.mem_append.1 hy with h | h
      · exact hok y h
      · rw [List.mem_singleton.1 h]; exact hxo
    by_cases c0 : pre.length = 0
    · have d0 : decide ((0 : Int) < (pre.length : Int)) = false := decide_eq_false (by omega)
      have hpn : pre = [] := List.eq_nil_of_length_eq_zero c0
      have hasc2 : Asc cmpL (pre ++ [x]) := by rw [hpn]; simp [Asc]
      repeat (first | (with_reducible first | refine SW.seq ?_ | refine SW.block ?_ | refine SW.rowC ?_ | refine SW.skip ?_ | refine SW.exit ?_ | refine PFn.use (hl4) ?_ | refine PFn.useq (hl4) ?_ | intro _ | refine And.intro (by omega) ?_) | simp (config := { maxSteps := 1000000 }) (disch := (first | omega | (simp only [go_sem]; try omega))) only [go_sem, Nat.reduceAdd, Nat.reduceEqDiff, Nat.reduceLeDiff, Nat.reduceMul, Nat.reduceLT, reduceIte, Int.reduceToNat, w64_id, cast_succ, hpa, hpl, hgx, dl, d0])
      refine SW.condF rfl ?_
      repeat (first | (with_reducible first | refine SW.seq ?_ | refine SW.block ?_ | refine SW.rowC ?_ | refine SW.skip ?_ | refine SW.exit ?_ | intro _ | refine And.intro (by omega) ?_) | simp (config := { maxSteps := 1000000 }) (disch := (first | omega | (simp only [go_sem]; try omega))) only [go_sem, Nat.reduceAdd, Nat.reduceEqDiff, Nat.reduceLeDiff, Nat.reduceMul, Nat.reduceLT, reduceIte, Int.reduceToNat, w64_id, cast_succ])
      refine SLoop.next post.length (by simp) ⟨pre ++ [x], post, by simp [hpp], rfl, by simp [go_sem], rfl, hasc2, hfin hasc2⟩
    · have d0 : decide ((0 : Int) < (pre.length : Int)) = true := decide_eq_true (by omega)
      have e1 : (pre.length : Int) - 1 = ((pre.length - 1 : Nat) : Int) := by omega
      have hlast : pre.getLast? = some (els.getD (pre.length - 1) []) := by
        rw [List.getLast?_eq_getElem?, List.getD_eq_getElem?_getD, hpp, List.getElem?_append_left (by omega), List.getElem?_eq_getElem (by omega)]; rfl
      have hcf := CompareLists_fn (els.getD (pre.length - 1) []) x
      have hpl1 : pre.length - 1 < els.length := by omega
      by_cases hc : cmpL (els.getD (pre.length - 1) []) x < 0
      · have dd : decide (0 ≤ cmpL (els.getD (pre.length - 1) []) x) = false := decide_eq_false (by omega)
        have hasc2 : Asc cmpL (pre ++ [x]) := (ascL_snoc cmpL_tot hasc).2 fun y hy => by rw [hlast] at hy; cases hy; exact hc
        repeat (first | (with_reducible first | refine SW.seq ?_ | refine SW.block ?_ | refine SW.rowC ?_ | refine SW.skip ?_ | refine SW.exit ?_ | refine PFn.use (hl4) ?_ | refine PFn.useq (hl4) ?_ | refine PFn.use (hcf) ?_ | refine PFn.useq (hcf) ?_ | intro _ | refine And.intro (by omega) ?_) | simp (config := { maxSteps := 1000000 }) (disch := (first | omega | (simp only [go_sem]; try omega))) only [go_sem, Nat.reduceAdd, Nat.reduceEqDiff, Nat.reduceLeDiff, Nat.reduceMul, Nat.reduceLT, reduceIte, Int.reduceToNat, w64_id, cast_succ, hpa, hpl, hgx, dl, d0, e1, dd])
        refine SW.condF rfl ?_
        repeat (first | (with_reducible first | refine SW.seq ?_ | refine SW.block ?_ | refine SW.rowC ?_ | refine SW.skip ?_ | refine SW.exit ?_ | intro _ | refine And.intro (by omega) ?_) | simp (config := { maxSteps := 1000000 }) (disch := (first | omega | (simp only [go_sem]; try omega))) only [go_sem, Nat.reduceAdd, Nat.reduceEqDiff, Nat.reduceLeDiff, Nat.reduceMul, Nat.reduceLT, reduceIte, Int.reduceToNat, w64_id, cast_succ])
        refine SLoop.next post.length (by simp) ⟨pre ++ [x], post, by simp [hpp], rfl, by simp [go_sem], rfl, hasc2, hfin hasc2⟩
      · have dd : decide (0 ≤ cmpL (els.getD (pre.length - 1) []) x) = true := decide_eq_true (by omega)
        have hF : grpB n els = false := grpB_f.2 fun h => by
          have h4 := h.2.2.2.1
          rw [hpp] at h4
          have e5 : pre ++ x :: post = (pre ++ [x]) ++ post := by simp
          rw [e5] at h4
          exact hc ((ascL_snoc cmpL_tot hasc).1 (List.pairwise_append.1 h4).1 _ hlast)
        repeat (first | (with_reducible first | refine SW.seq ?_ | refine SW.block ?_ | refine SW.rowC ?_ | refine SW.skip ?_ | refine SW.exit ?_ | refine PFn.use (hl4) ?_ | refine PFn.useq (hl4) ?_ | refine PFn.use (hcf) ?_ | refine PFn.useq (hcf) ?_ | intro _ | refine And.intro (by omega) ?_) | simp (config := { maxSteps := 1000000 }) (disch := (first | omega | (simp only [go_sem]; try omega))) only [go_sem, Nat.reduceAdd, Nat.reduceEqDiff, Nat.reduceLeDiff, Nat.reduceMul, Nat.reduceLT, reduceIte, Int.reduceToNat, w64_id, cast_succ, hpa, hpl, hgx, dl, d0, e1, dd])
        refine SW.condT rfl ?_
        repeat (first | (with_reducible first | refine SW.seq ?_ | refine SW.block ?_ | refine SW.rowC ?_ | refine SW.skip ?_ | refine SW.exit ?_ | intro _ | refine And.intro (by omega) ?_) | simp (config := { maxSteps := 1000000 }) (disch := (first | omega | (simp only [go_sem]; try omega))) only [go_sem, Nat.reduceAdd, Nat.reduceEqDiff, Nat.reduceLeDiff, Nat.reduceMul, Nat.reduceLT, reduceIte, Int.reduceToNat, w64_id, cast_succ])
        refine SW.ret ?_; (try simp only [go_sem]); (first | refine FunPost.one ?_ | refine FunPost.two ?_ | refine FunPost.three ?_); (try simp (config := { maxSteps := 1000000 }) (disch := (first | omega | (simp only [go_sem]; try omega))) only [go_sem, Nat.reduceAdd, Nat.reduceEqDiff, Nat.reduceLeDiff, Nat.reduceMul, Nat.reduceLT, reduceIte, Int.reduceToNat, w64_id, cast_succ]); (first | (with_reducible refine GR.drop ?_ ?_; (simp only [go_sem, and_self, and_true, true_and, implies_true, List.take_succ_cons, List.take_zero])) | refine GR.of ?_); refine ⟨?_, rfl⟩; (try with_reducible rfl)
        rw [hF]
  · obtain ⟨rfl, rfl⟩ := nilOf hpp (by omega)
    have en : n = ((n.toNat : Nat) : Int) := by omega
    have hgn := l05Generators_fn n.toNat pre (by omega) (by omega) hok c2 c3 hasc
    rw [← en] at hgn
    rw [grpB_clos c1 ⟨c2, c3⟩ hok hasc]
    repeat (first | (with_reducible first | refine SW.seq ?_ | refine SW.block ?_ | refine SW.rowC ?_ | refine SW.skip ?_ | refine SW.exit ?_ | refine PFn.use (hgn) ?_ | refine PFn.useq (hgn) ?_ | intro _ | refine And.intro (by omega) ?_) | simp (config := { maxSteps := 1000000 }) (disch := (first | omega | (simp only [go_sem]; try omega))) only [go_sem, Nat.reduceAdd, Nat.reduceEqDiff, Nat.reduceLeDiff, Nat.reduceMul, Nat.reduceLT, reduceIte, Int.reduceToNat, w64_id, cast_succ, hpa, hpl])
    refine SW.ret ?_; (try simp only [go_sem]); (first | refine FunPost.one ?_ | refine FunPost.two ?_ | refine FunPost.three ?_); (try simp (config := { maxSteps := 1000000 }) (disch := (first | omega | (simp only [go_sem]; try omega))) only [go_sem, Nat.reduceAdd, Nat.reduceEqDiff, Nat.reduceLeDiff, Nat.reduceMul, Nat.reduceLT, reduceIte, Int.reduceToNat, w64_id, cast_succ]); (first | (with_reducible refine GR.drop ?_ ?_; (simp only [go_sem, and_self, and_true, true_and, implies_true, List.take_succ_cons, List.take_zero])) | refine GR.of ?_); refine ⟨?_, rfl⟩; (try with_reducible rfl)
end Go.Proofs.Ytkifdjjnbplghaa
