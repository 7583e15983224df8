/- Permutations and squares that are valid: the reference, the program. -/
import Derived.Test.YtflnjgeoegofdaaProg
import Derived.KernelRfl
import Derived.Test.YtflnjgeoegofdaazK18
import Derived.Test.YtflnjgeoegofdaazK19
import Derived.Test.YtflnjgeoegofdaazU1
set_option linter.unusedSimpArgs false
set_option linter.unusedVariables false
set_option maxHeartbeats 4000000
set_option maxRecDepth 100000
namespace Go.Proofs.Ytflnjgeoegofdaa
open Go.Av
abbrev f_spec_l06Ok : Nat := 12
def c_spec_l06Ok : SC :=
 .seq (.reg [
     ⟨(some 2), .mv (.const (.bool false)), none⟩] [0])
 (.seq (.reg [
     ⟨(some 8), .mv (.tmp 0), none⟩,
     ⟨(some 9), .len (.tmp 8), none⟩,
     ⟨(some 3), .mv (.tmp 9), none⟩] [0, 3])
 (.seq (.seq (.reg [
     ⟨(some 10), .mv (.tmp 3), none⟩,
     ⟨(some 11), .bin .lss (.tmp 10) (.const (.int .i64 1)), none⟩,
     ⟨(some 12), .mv (.tmp 11), none⟩,
     ⟨(some 13), .mv (.tmp 3), (some (12, false))⟩,
     ⟨(some 14), .bin .gtr (.tmp 13) (.const (.int .i64 10)), (some (12, false))⟩,
     ⟨(some 15), .pick (.tmp 12) (.const (.bool true)) (.tmp 14), none⟩] [0, 3, 15])
 (.cond (.tmp 15)
  (.seq (.reg [
      ⟨(some 2), .mv (.const (.bool false)), none⟩] [2])
  (.ret))
  (.skip)))
 (.seq (.seq (.reg [
     ⟨(some 4), .mv (.const (.int .i64 0)), none⟩] [0, 3, 4])
 (.block 0 (.loop [0, 3, 4]
   (.seq (.seq (.reg [
       ⟨(some 16), .mv (.tmp 4), none⟩,
       ⟨(some 17), .mv (.tmp 3), none⟩,
       ⟨(some 18), .bin .lss (.tmp 16) (.tmp 17), none⟩] [0, 3, 4, 18])
   (.cond (.tmp 18)
    (.skip)
    (.exit 0)))
   (.seq (.block 1 (.seq (.reg [
        ⟨(some 21), .mv (.tmp 0), none⟩,
        ⟨(some 22), .mv (.tmp 4), none⟩,
        ⟨(some 23), .iaddr 1 (.tmp 21) (.tmp 22), none⟩,
        ⟨(some 24), .load 1 false (.tmp 23), none⟩,
        ⟨(some 25), .len (.tmp 24), none⟩,
        ⟨(some 26), .mv (.tmp 3), none⟩,
        ⟨(some 27), .bin .neq (.tmp 25) (.tmp 26), none⟩,
        ⟨(some 28), .mv (.tmp 27), none⟩,
        ⟨(some 29), .mv (.tmp 0), (some (28, false))⟩,
        ⟨(some 30), .mv (.tmp 4), (some (28, false))⟩,
        ⟨(some 31), .iaddr 1 (.tmp 29) (.tmp 30), (some (28, false))⟩,
        ⟨(some 32), .load 1 false (.tmp 31), (some (28, false))⟩,
        ⟨(some 33), .call 27 [(.tmp 32)], (some (28, false))⟩,
        ⟨(some 34), .un .not (.tmp 33), (some (28, false))⟩,
        ⟨(some 35), .pick (.tmp 28) (.const (.bool true)) (.tmp 34), none⟩] [0, 3, 4, 35])
    (.cond (.tmp 35)
     (.seq (.reg [
         ⟨(some 2), .mv (.const (.bool false)), none⟩] [2])
     (.ret))
     (.skip))))
   (.reg [
       ⟨(some 19), .mv (.tmp 4), none⟩,
       ⟨(some 20), .bin .add (.tmp 19) (.const (.int .i64 1)), none⟩,
       ⟨(some 4), .mv (.tmp 20), none⟩] [0, 3, 4]))))))
 (.seq (.seq (.reg [
     ⟨(some 5), .mv (.const (.int .i64 0)), none⟩] [0, 3, 5])
 (.block 2 (.loop [0, 3, 5]
   (.seq (.seq (.reg [
       ⟨(some 36), .mv (.tmp 5), none⟩,
       ⟨(some 37), .mv (.tmp 3), none⟩,
       ⟨(some 38), .bin .lss (.tmp 36) (.tmp 37), none⟩] [0, 3, 5, 38])
   (.cond (.tmp 38)
    (.skip)
    (.exit 2)))
   (.seq (.block 3 (.seq (.reg [
        ⟨(some 41), .bslice 2 1 0 [] [], none⟩,
        ⟨(some 6), .mv (.tmp 41), none⟩] [0, 3, 5, 6])
    (.seq (.seq (.reg [
        ⟨(some 7), .mv (.const (.int .i64 0)), none⟩] [0, 3, 5, 6, 7])
    (.block 4 (.loop [0, 3, 5, 6, 7]
      (.seq (.seq (.reg [
          ⟨(some 42), .mv (.tmp 7), none⟩,
          ⟨(some 43), .mv (.tmp 3), none⟩,
          ⟨(some 44), .bin .lss (.tmp 42) (.tmp 43), none⟩] [0, 3, 5, 6, 7, 44])
      (.cond (.tmp 44)
       (.skip)
       (.exit 4)))
      (.seq (.block 5 (.reg [
           ⟨(some 47), .mv (.tmp 6), none⟩,
           ⟨(some 48), .mv (.tmp 0), none⟩,
           ⟨(some 49), .mv (.tmp 7), none⟩,
           ⟨(some 50), .iaddr 1 (.tmp 48) (.tmp 49), none⟩,
           ⟨(some 51), .load 1 false (.tmp 50), none⟩,
           ⟨(some 52), .mv (.tmp 5), none⟩,
           ⟨(some 53), .iaddr 1 (.tmp 51) (.tmp 52), none⟩,
           ⟨(some 54), .load 1 false (.tmp 53), none⟩,
           ⟨(some 55), .bslice 2 1 1 [(.int .i64 0)] [(0, (.tmp 54))], none⟩,
           ⟨(some 56), .app 2 1 8 (.tmp 47) (.tmp 55), none⟩,
           ⟨(some 6), .mv (.tmp 56), none⟩] [0, 3, 5, 6, 7]))
      (.reg [
          ⟨(some 45), .mv (.tmp 7), none⟩,
          ⟨(some 46), .bin .add (.tmp 45) (.const (.int .i64 1)), none⟩,
          ⟨(some 7), .mv (.tmp 46), none⟩] [0, 3, 5, 6, 7]))))))
    (.seq (.reg [
        ⟨(some 57), .mv (.tmp 6), none⟩,
        ⟨(some 58), .call 27 [(.tmp 57)], none⟩,
        ⟨(some 59), .un .not (.tmp 58), none⟩] [0, 3, 5, 59])
    (.cond (.tmp 59)
     (.seq (.reg [
         ⟨(some 2), .mv (.const (.bool false)), none⟩] [2])
     (.ret))
     (.skip))))))
   (.reg [
       ⟨(some 39), .mv (.tmp 5), none⟩,
       ⟨(some 40), .bin .add (.tmp 39) (.const (.int .i64 1)), none⟩,
       ⟨(some 5), .mv (.tmp 40), none⟩] [0, 3, 5]))))))
 (.seq (.reg [
     ⟨(some 2), .mv (.const (.bool true)), none⟩] [2])
 (.ret))))))
theorem s_spec_l06Ok : stripF Try.prog 12 [[0], [0, 3], [0, 3, 15], [2], [0, 3, 4], [0, 3, 4], [0, 3, 4, 18], [0, 3, 4, 35], [2], [0, 3, 4], [0, 3, 5], [0, 3, 5], [0, 3, 5, 38], [0, 3, 5, 6], [0, 3, 5, 6, 7], [0, 3, 5, 6, 7], [0, 3, 5, 6, 7, 44], [0, 3, 5, 6, 7], [0, 3, 5, 6, 7], [0, 3, 5, 59], [2], [0, 3, 5], [2]] = some (c_spec_l06Ok, [.tmp 2], 60) := by kernel_rfl
abbrev f_spec_l04Ok : Nat := 27
def c_spec_l04Ok : SC :=
 .seq (.reg [
     ⟨(some 2), .mv (.const (.bool false)), none⟩] [0])
 (.seq (.seq (.reg [
     ⟨(some 4), .mv (.tmp 0), none⟩,
     ⟨(some 5), .len (.tmp 4), none⟩,
     ⟨(some 6), .bin .gtr (.tmp 5) (.const (.int .i64 32)), none⟩] [0, 6])
 (.cond (.tmp 6)
  (.seq (.reg [
      ⟨(some 2), .mv (.const (.bool false)), none⟩] [2])
  (.ret))
  (.skip)))
 (.seq (.seq (.reg [
     ⟨(some 3), .mv (.const (.int .i64 0)), none⟩] [0, 3])
 (.block 0 (.loop [0, 3]
   (.seq (.seq (.reg [
       ⟨(some 7), .mv (.tmp 3), none⟩,
       ⟨(some 8), .mv (.tmp 0), none⟩,
       ⟨(some 9), .len (.tmp 8), none⟩,
       ⟨(some 10), .bin .lss (.tmp 7) (.tmp 9), none⟩] [0, 3, 10])
   (.cond (.tmp 10)
    (.skip)
    (.exit 0)))
   (.seq (.block 1 (.seq (.reg [
        ⟨(some 13), .mv (.tmp 0), none⟩,
        ⟨(some 14), .mv (.tmp 3), none⟩,
        ⟨(some 15), .iaddr 1 (.tmp 13) (.tmp 14), none⟩,
        ⟨(some 16), .load 1 false (.tmp 15), none⟩,
        ⟨(some 17), .mv (.tmp 0), none⟩,
        ⟨(some 18), .qlen (.tmp 17), none⟩,
        ⟨(some 19), .bin .sub (.tmp 18) (.const (.int .i64 1)), none⟩,
        ⟨(some 20), .qcall 28 [(.tmp 16), (.const (.int .i64 0)), (.tmp 19)], none⟩,
        ⟨(some 21), .un .not (.tmp 20), none⟩,
        ⟨(some 22), .mv (.tmp 21), none⟩,
        ⟨(some 23), .mv (.tmp 0), (some (22, false))⟩,
        ⟨(some 24), .mv (.tmp 3), (some (22, false))⟩,
        ⟨(some 25), .slc 1 (.tmp 23) none (some (.tmp 24)), (some (22, false))⟩,
        ⟨(some 26), .mv (.tmp 0), (some (22, false))⟩,
        ⟨(some 27), .mv (.tmp 3), (some (22, false))⟩,
        ⟨(some 28), .iaddr 1 (.tmp 26) (.tmp 27), (some (22, false))⟩,
        ⟨(some 29), .load 1 false (.tmp 28), (some (22, false))⟩,
        ⟨(some 30), .qcall 34 [(.tmp 25), (.tmp 29)], (some (22, false))⟩,
        ⟨(some 31), .pick (.tmp 22) (.const (.bool true)) (.tmp 30), none⟩] [0, 3, 31])
    (.cond (.tmp 31)
     (.seq (.reg [
         ⟨(some 2), .mv (.const (.bool false)), none⟩] [2])
     (.ret))
     (.skip))))
   (.reg [
       ⟨(some 11), .mv (.tmp 3), none⟩,
       ⟨(some 12), .bin .add (.tmp 11) (.const (.int .i64 1)), none⟩,
       ⟨(some 3), .mv (.tmp 12), none⟩] [0, 3]))))))
 (.seq (.reg [
     ⟨(some 2), .mv (.const (.bool true)), none⟩] [2])
 (.ret))))
theorem s_spec_l04Ok : stripF Try.prog 27 [[0], [0, 6], [2], [0, 3], [0, 3], [0, 3, 10], [0, 3, 31], [2], [0, 3], [2]] = some (c_spec_l04Ok, [.tmp 2], 32) := by kernel_rfl
theorem slcQ {H : List Blk} (K : AV → Prop) (xs : List Int) (z y : Int) (h0 : 0 ≤ z) (h1 : z ≤ y) (h2 : y ≤ xs.length) : SlcG 1 (ilS xs) z y H K (some (xs.length, xs.map I)) = K (ilS ((xs.drop z.toNat).take (y.toNat - z.toNat))) := slc_ilS 1 K xs z y h0 h1 h2
def permB (p : List Int) : Bool := decide (p.length ≤ 32) && decide ((∀ x ∈ p, 0 ≤ x ∧ x < (p.length : Int)) ∧ p.Nodup)
theorem l04Ok_fn (p : List Int) : PFn Try.prog f_spec_l04Ok [ilS p] (Bv (permB p)) := by
  intro H; refine ACalls.introB s_spec_l04Ok (by simp) ?_; intro hB hA; unfold c_spec_l04Ok; simp (config := { maxSteps := 1000000 }) (disch := (first | omega | (simp only [go_sem]; try omega))) only [go_sem, Nat.reduceAdd, Nat.reduceEqDiff, Nat.reduceLeDiff, Nat.reduceMul, Nat.reduceLT, reduceIte, Int.reduceToNat, w64_id, cast_succ]
  repeat (first | (with_reducible first | refine SW.seq ?_ | refine SW.block ?_ | refine SW.rowC ?_ | refine SW.skip ?_ | refine SW.exit ?_ | intro _ | refine And.intro (by omega) ?_) | simp (config := { maxSteps := 1000000 }) (disch := (first | omega | (simp only [go_sem]; try omega))) only [go_sem, Nat.reduceAdd, Nat.reduceEqDiff, Nat.reduceLeDiff, Nat.reduceMul, Nat.reduceLT, reduceIte, Int.reduceToNat, w64_id, cast_succ])
  (first | refine SW.condD rfl (fun h => ?_) (fun h => ?_) | refine SW.condN rfl (fun h => ?_) (fun h => ?_) | refine SW.condNB rfl (fun h => ?_) (fun h => ?_) | refine SW.condB rfl (fun h => ?_) (fun h => ?_))
  · repeat (first | (with_reducible first | refine SW.seq ?_ | refine SW.block ?_ | refine SW.rowC ?_ | refine SW.skip ?_ | refine SW.exit ?_ | intro _ | refine And.intro (by omega) ?_) | simp (config := { maxSteps := 1000000 }) (disch := (first | omega | (simp only [go_sem]; try omega))) only [go_sem, Nat.reduceAdd, Nat.reduceEqDiff, Nat.reduceLeDiff, Nat.reduceMul, Nat.reduceLT, reduceIte, Int.reduceToNat, w64_id, cast_succ])
    refine SW.ret ?_; (try simp only [go_sem]); (first | refine FunPost.one ?_ | refine FunPost.two ?_ | refine FunPost.three ?_); (try simp (config := { maxSteps := 1000000 }) (disch := (first | omega | (simp only [go_sem]; try omega))) only [go_sem, Nat.reduceAdd, Nat.reduceEqDiff, Nat.reduceLeDiff, Nat.reduceMul, Nat.reduceLT, reduceIte, Int.reduceToNat, w64_id, cast_succ]); (first | (with_reducible refine GR.drop ?_ ?_; (simp only [go_sem, and_self, and_true, true_and, implies_true, List.take_succ_cons, List.take_zero])) | refine GR.of ?_); refine ⟨?_, rfl⟩; (try with_reducible rfl)
    have : permB p = false := by unfold permB; rw [decide_eq_false (by omega)]; rfl
    rw [this]
  · repeat (first | (with_reducible first | refine SW.seq ?_ | refine SW.block ?_ | refine SW.rowC ?_ | refine SW.skip ?_ | refine SW.exit ?_ | intro _ | refine And.intro (by omega) ?_) | simp (config := { maxSteps := 1000000 }) (disch := (first | omega | (simp only [go_sem]; try omega))) only [go_sem, Nat.reduceAdd, Nat.reduceEqDiff, Nat.reduceLeDiff, Nat.reduceMul, Nat.reduceLT, reduceIte, Int.reduceToNat, w64_id, cast_succ])
    refine SW.loopE (fun E0 H0 q E' H' => ∃ (pre post : List Int), p = pre ++ post ∧ q = post.length ∧ E' = aput E0 3 (I pre.length) ∧ H' = H0 ∧ (∀ x ∈ pre, 0 ≤ x ∧ x < (p.length : Int)) ∧ pre.Nodup) p.length ⟨[], p, rfl, rfl, rfl, rfl, by simp, by simp⟩ ?_
    rintro q E' H' ⟨pre, post, hq, rfl, rfl, rfl, ha, hb⟩
    simp (config := { maxSteps := 1000000 }) (disch := (first | omega | (simp only [go_sem]; try omega))) only [go_sem, Nat.reduceAdd, Nat.reduceEqDiff, Nat.reduceLeDiff, Nat.reduceMul, Nat.reduceLT, reduceIte, Int.reduceToNat, w64_id, cast_succ]
    repeat (first | (with_reducible first | refine SW.seq ?_ | refine SW.block ?_ | refine SW.rowC ?_ | refine SW.skip ?_ | refine SW.exit ?_ | intro _ | refine And.intro (by omega) ?_) | simp (config := { maxSteps := 1000000 }) (disch := (first | omega | (simp only [go_sem]; try omega))) only [go_sem, Nat.reduceAdd, Nat.reduceEqDiff, Nat.reduceLeDiff, Nat.reduceMul, Nat.reduceLT, reduceIte, Int.reduceToNat, w64_id, cast_succ])
    (first | refine SW.condD rfl (fun h2 => ?_) (fun h2 => ?_) | refine SW.condN rfl (fun h2 => ?_) (fun h2 => ?_) | refine SW.condNB rfl (fun h2 => ?_) (fun h2 => ?_) | refine SW.condB rfl (fun h2 => ?_) (fun h2 => ?_))
    · obtain ⟨x, post, rfl, hg, -⟩ := consOf (d := 0) hq (by omega)
      repeat (first | (with_reducible first | refine SW.seq ?_ | refine SW.block ?_ | refine SW.rowC ?_ | refine SW.skip ?_ | refine SW.exit ?_ | refine PFn.use (l00In_fn _ _ _) ?_ | refine PFn.useq (l00In_fn _ _ _) ?_ | intro _ | refine And.intro (by omega) ?_) | simp (config := { maxSteps := 1000000 }) (disch := (first | omega | (simp only [go_sem]; try omega))) only [go_sem, Nat.reduceAdd, Nat.reduceEqDiff, Nat.reduceLeDiff, Nat.reduceMul, Nat.reduceLT, reduceIte, Int.reduceToNat, w64_id, cast_succ, hg])
      have hpt : p.take pre.length = pre := by rw [hq]; simp
      have hF : x ∈ p := by rw [hq]; simp
      (first | refine GSplit.df (fun h3 => ?_) (fun h3 => ?_) | refine GSplit.dt (fun h3 => ?_) (fun h3 => ?_) | refine GSplit.ndf (fun h3 => ?_) (fun h3 => ?_) | refine GSplit.ndt (fun h3 => ?_) (fun h3 => ?_) | refine GSplit.nbf (fun h3 => ?_) (fun h3 => ?_) | refine GSplit.nbt (fun h3 => ?_) (fun h3 => ?_) | refine GSplit.bf (fun h3 => ?_) (fun h3 => ?_) | refine GSplit.bt (fun h3 => ?_) (fun h3 => ?_))
      · repeat (first | (with_reducible first | refine SW.seq ?_ | refine SW.block ?_ | refine SW.rowC ?_ | refine SW.skip ?_ | refine SW.exit ?_ | refine PFn.use (l00Has_fn pre x) ?_ | refine PFn.useq (l00Has_fn pre x) ?_ | intro _ | refine And.intro (by omega) ?_) | simp (config := { maxSteps := 1000000 }) (disch := (first | omega | (simp only [go_sem]; try omega))) only [go_sem, Nat.reduceAdd, Nat.reduceEqDiff, Nat.reduceLeDiff, Nat.reduceMul, Nat.reduceLT, reduceIte, Int.reduceToNat, w64_id, cast_succ, Option.map_some, Option.map_none, slcQ, hg, hpt, List.drop_zero, Int.toNat_natCast, Nat.sub_zero, Int.toNat_zero])
        by_cases hc : pre.contains x = true
        · have hB : permB p = false := by
            unfold permB
            simp only [Bool.and_eq_false_iff, decide_eq_false_iff_not]
            refine .inr fun hh => ?_
            have h5 := hh.2
            rw [hq, List.nodup_append] at h5
            exact h5.2.2 x (by simpa using hc) x (by simp) rfl
          rw [hc]
          repeat (first | (with_reducible first | refine SW.seq ?_ | refine SW.block ?_ | refine SW.rowC ?_ | refine SW.skip ?_ | refine SW.exit ?_ | intro _ | refine And.intro (by omega) ?_) | simp (config := { maxSteps := 1000000 }) (disch := (first | omega | (simp only [go_sem]; try omega))) only [go_sem, Nat.reduceAdd, Nat.reduceEqDiff, Nat.reduceLeDiff, Nat.reduceMul, Nat.reduceLT, reduceIte, Int.reduceToNat, w64_id, cast_succ])
          refine SW.condT rfl ?_
          repeat (first | (with_reducible first | refine SW.seq ?_ | refine SW.block ?_ | refine SW.rowC ?_ | refine SW.skip ?_ | refine SW.exit ?_ | intro _ | refine And.intro (by omega) ?_) | simp (config := { maxSteps := 1000000 }) (disch := (first | omega | (simp only [go_sem]; try omega))) only [go_sem, Nat.reduceAdd, Nat.reduceEqDiff, Nat.reduceLeDiff, Nat.reduceMul, Nat.reduceLT, reduceIte, Int.reduceToNat, w64_id, cast_succ])
          refine SW.ret ?_; (try simp only [go_sem]); (first | refine FunPost.one ?_ | refine FunPost.two ?_ | refine FunPost.three ?_); (try simp (config := { maxSteps := 1000000 }) (disch := (first | omega | (simp only [go_sem]; try omega))) only [go_sem, Nat.reduceAdd, Nat.reduceEqDiff, Nat.reduceLeDiff, Nat.reduceMul, Nat.reduceLT, reduceIte, Int.reduceToNat, w64_id, cast_succ]); (first | (with_reducible refine GR.drop ?_ ?_; (simp only [go_sem, and_self, and_true, true_and, implies_true, List.take_succ_cons, List.take_zero])) | refine GR.of ?_); refine ⟨?_, rfl⟩; (try with_reducible rfl)
          rw [hB]
        · rw [Bool.not_eq_true] at hc
          rw [hc]
          repeat (first | (with_reducible first | refine SW.seq ?_ | refine SW.block ?_ | refine SW.rowC ?_ | refine SW.skip ?_ | refine SW.exit ?_ | intro _ | refine And.intro (by omega) ?_) | simp (config := { maxSteps := 1000000 }) (disch := (first | omega | (simp only [go_sem]; try omega))) only [go_sem, Nat.reduceAdd, Nat.reduceEqDiff, Nat.reduceLeDiff, Nat.reduceMul, Nat.reduceLT, reduceIte, Int.reduceToNat, w64_id, cast_succ])
          refine SW.condF rfl ?_
          repeat (first | (with_reducible first | refine SW.seq ?_ | refine SW.block ?_ | refine SW.rowC ?_ | refine SW.skip ?_ | refine SW.exit ?_ | intro _ | refine And.intro (by omega) ?_) | simp (config := { maxSteps := 1000000 }) (disch := (first | omega | (simp only [go_sem]; try omega))) only [go_sem, Nat.reduceAdd, Nat.reduceEqDiff, Nat.reduceLeDiff, Nat.reduceMul, Nat.reduceLT, reduceIte, Int.reduceToNat, w64_id, cast_succ])
          refine SLoop.next post.length (by simp) ⟨pre ++ [x], post, by simp [hq], rfl, by simp [go_sem], rfl, ?_, ?_⟩
          · intro y hy
            rcases List.mem_append.1 hy with h | h
            · exact ha y h
            · simp at h h3; subst h; omega
          · rw [List.nodup_append]
            refine ⟨hb, by simp, fun a h1 b h2 => ?_⟩
            simp at h2 hc; subst h2
            rintro rfl
            exact hc h1
      · have hB : permB p = false := by
          unfold permB
          simp only [Bool.and_eq_false_iff, decide_eq_false_iff_not]
          refine .inr fun hh => ?_
          have := hh.1 x hF
          simp at h3; omega
        repeat (first | (with_reducible first | refine SW.seq ?_ | refine SW.block ?_ | refine SW.rowC ?_ | refine SW.skip ?_ | refine SW.exit ?_ | intro _ | refine And.intro (by omega) ?_) | simp (config := { maxSteps := 1000000 }) (disch := (first | omega | (simp only [go_sem]; try omega))) only [go_sem, Nat.reduceAdd, Nat.reduceEqDiff, Nat.reduceLeDiff, Nat.reduceMul, Nat.reduceLT, reduceIte, Int.reduceToNat, w64_id, cast_succ])
        refine SW.condT rfl ?_
        repeat (first | (with_reducible first | refine SW.seq ?_ | refine SW.block ?_ | refine SW.rowC ?_ | refine SW.skip ?_ | refine SW.exit ?_ | intro _ | refine And.intro (by omega) ?_) | simp (config := { maxSteps := 1000000 }) (disch := (first | omega | (simp only [go_sem]; try omega))) only [go_sem, Nat.reduceAdd, Nat.reduceEqDiff, Nat.reduceLeDiff, Nat.reduceMul, Nat.reduceLT, reduceIte, Int.reduceToNat, w64_id, cast_succ])
        refine SW.ret ?_; (try simp only [go_sem]); (first | refine FunPost.one ?_ | refine FunPost.two ?_ | refine FunPost.three ?_); (try simp (config := { maxSteps := 1000000 }) (disch := (first | omega | (simp only [go_sem]; try omega))) only [go_sem, Nat.reduceAdd, Nat.reduceEqDiff, Nat.reduceLeDiff, Nat.reduceMul, Nat.reduceLT, reduceIte, Int.reduceToNat, w64_id, cast_succ]); (first | (with_reducible refine GR.drop ?_ ?_; (simp only [go_sem, and_self, and_true, true_and, implies_true, List.take_succ_cons, List.take_zero])) | refine GR.of ?_); refine ⟨?_, rfl⟩; (try with_reducible rfl)
        rw [hB]
    · obtain ⟨rfl, rfl⟩ := nilOf hq (by omega)
      repeat (first | (with_reducible first | refine SW.seq ?_ | refine SW.block ?_ | refine SW.rowC ?_ | refine SW.skip ?_ | refine SW.exit ?_ | intro _ | refine And.intro (by omega) ?_) | simp (config := { maxSteps := 1000000 }) (disch := (first | omega | (simp only [go_sem]; try omega))) only [go_sem, Nat.reduceAdd, Nat.reduceEqDiff, Nat.reduceLeDiff, Nat.reduceMul, Nat.reduceLT, reduceIte, Int.reduceToNat, w64_id, cast_succ])
      refine SW.ret ?_; (try simp only [go_sem]); (first | refine FunPost.one ?_ | refine FunPost.two ?_ | refine FunPost.three ?_); (try simp (config := { maxSteps := 1000000 }) (disch := (first | omega | (simp only [go_sem]; try omega))) only [go_sem, Nat.reduceAdd, Nat.reduceEqDiff, Nat.reduceLeDiff, Nat.reduceMul, Nat.reduceLT, reduceIte, Int.reduceToNat, w64_id, cast_succ]); (first | (with_reducible refine GR.drop ?_ ?_; (simp only [go_sem, and_self, and_true, true_and, implies_true, List.take_succ_cons, List.take_zero])) | refine GR.of ?_); refine ⟨?_, rfl⟩; (try with_reducible rfl)
      have : permB pre = true := by unfold permB; rw [decide_eq_true (by omega), decide_eq_true ⟨ha, hb⟩]; rfl
      rw [this]
def colV (xss : List (List Int)) (y : Nat) : List Int := xss.map fun r => r.getD y 0
def latB (xss : List (List Int)) : Bool := decide (1 ≤ xss.length ∧ xss.length ≤ 10) && xss.all (fun r => decide (r.length = xss.length) && permB r) && (List.range xss.length).all (fun y => permB (colV xss y))
theorem l06Ok_fn (xss : List (List Int)) : PFn Try.prog f_spec_l06Ok [ilSS xss] (Bv (latB xss)) := by
  by_cases hs : ¬ (1 ≤ xss.length ∧ xss.length ≤ 10)
  · have hF : latB xss = false := by unfold latB; rw [decide_eq_false hs]; rfl
    intro H; refine ACalls.introB s_spec_l06Ok (by simp) ?_; intro hB hA; unfold c_spec_l06Ok; simp (config := { maxSteps := 1000000 }) (disch := (first | omega | (simp only [go_sem]; try omega))) only [go_sem, Nat.reduceAdd, Nat.reduceEqDiff, Nat.reduceLeDiff, Nat.reduceMul, Nat.reduceLT, reduceIte, Int.reduceToNat, w64_id, cast_succ]
    repeat (first | (with_reducible first | refine SW.seq ?_ | refine SW.block ?_ | refine SW.rowC ?_ | refine SW.skip ?_ | refine SW.exit ?_ | intro _ | refine And.intro (by omega) ?_) | simp (config := { maxSteps := 1000000 }) (disch := (first | omega | (simp only [go_sem]; try omega))) only [go_sem, Nat.reduceAdd, Nat.reduceEqDiff, Nat.reduceLeDiff, Nat.reduceMul, Nat.reduceLT, reduceIte, Int.reduceToNat, w64_id, cast_succ])
    (first | refine GSplit.df (fun h => ?_) (fun h => ?_) | refine GSplit.dt (fun h => ?_) (fun h => ?_) | refine GSplit.ndf (fun h => ?_) (fun h => ?_) | refine GSplit.ndt (fun h => ?_) (fun h => ?_) | refine GSplit.nbf (fun h => ?_) (fun h => ?_) | refine GSplit.nbt (fun h => ?_) (fun h => ?_) | refine GSplit.bf (fun h => ?_) (fun h => ?_) | refine GSplit.bt (fun h => ?_) (fun h => ?_))
    · have h5 := h
      have d2 : decide ((10 : Int) < (xss.length : Int)) = true := decide_eq_true (by omega)
      repeat (first | (with_reducible first | refine SW.seq ?_ | refine SW.block ?_ | refine SW.rowC ?_ | refine SW.skip ?_ | refine SW.exit ?_ | intro _ | refine And.intro (by omega) ?_) | simp (config := { maxSteps := 1000000 }) (disch := (first | omega | (simp only [go_sem]; try omega))) only [go_sem, Nat.reduceAdd, Nat.reduceEqDiff, Nat.reduceLeDiff, Nat.reduceMul, Nat.reduceLT, reduceIte, Int.reduceToNat, w64_id, cast_succ, d2])
      refine SW.condT rfl ?_
      repeat (first | (with_reducible first | refine SW.seq ?_ | refine SW.block ?_ | refine SW.rowC ?_ | refine SW.skip ?_ | refine SW.exit ?_ | intro _ | refine And.intro (by omega) ?_) | simp (config := { maxSteps := 1000000 }) (disch := (first | omega | (simp only [go_sem]; try omega))) only [go_sem, Nat.reduceAdd, Nat.reduceEqDiff, Nat.reduceLeDiff, Nat.reduceMul, Nat.reduceLT, reduceIte, Int.reduceToNat, w64_id, cast_succ])
      refine SW.ret ?_; (try simp only [go_sem]); (first | refine FunPost.one ?_ | refine FunPost.two ?_ | refine FunPost.three ?_); (try simp (config := { maxSteps := 1000000 }) (disch := (first | omega | (simp only [go_sem]; try omega))) only [go_sem, Nat.reduceAdd, Nat.reduceEqDiff, Nat.reduceLeDiff, Nat.reduceMul, Nat.reduceLT, reduceIte, Int.reduceToNat, w64_id, cast_succ]); (first | (with_reducible refine GR.drop ?_ ?_; (simp only [go_sem, and_self, and_true, true_and, implies_true, List.take_succ_cons, List.take_zero])) | refine GR.of ?_); refine ⟨?_, rfl⟩; (try with_reducible rfl)
      rw [hF]
    · repeat (first | (with_reducible first | refine SW.seq ?_ | refine SW.block ?_ | refine SW.rowC ?_ | refine SW.skip ?_ | refine SW.exit ?_ | intro _ | refine And.intro (by omega) ?_) | simp (config := { maxSteps := 1000000 }) (disch := (first | omega | (simp only [go_sem]; try omega))) only [go_sem, Nat.reduceAdd, Nat.reduceEqDiff, Nat.reduceLeDiff, Nat.reduceMul, Nat.reduceLT, reduceIte, Int.reduceToNat, w64_id, cast_succ])
      refine SW.condT rfl ?_
      repeat (first | (with_reducible first | refine SW.seq ?_ | refine SW.block ?_ | refine SW.rowC ?_ | refine SW.skip ?_ | refine SW.exit ?_ | intro _ | refine And.intro (by omega) ?_) | simp (config := { maxSteps := 1000000 }) (disch := (first | omega | (simp only [go_sem]; try omega))) only [go_sem, Nat.reduceAdd, Nat.reduceEqDiff, Nat.reduceLeDiff, Nat.reduceMul, Nat.reduceLT, reduceIte, Int.reduceToNat, w64_id, cast_succ])
      refine SW.ret ?_; (try simp only [go_sem]); (first | refine FunPost.one ?_ | refine FunPost.two ?_ | refine FunPost.three ?_); (try simp (config := { maxSteps := 1000000 }) (disch := (first | omega | (simp only [go_sem]; try omega))) only [go_sem, Nat.reduceAdd, Nat.reduceEqDiff, Nat.reduceLeDiff, Nat.reduceMul, Nat.reduceLT, reduceIte, Int.reduceToNat, w64_id, cast_succ]); (first | (with_reducible refine GR.drop ?_ ?_; (simp only [go_sem, and_self, and_true, true_and, implies_true, List.take_succ_cons, List.take_zero])) | refine GR.of ?_); refine ⟨?_, rfl⟩; (try with_reducible rfl)
      rw [hF]
  replace hs := Decidable.not_not.1 hs
  have d1 : decide ((xss.length : Int) < 1) = false := decide_eq_false (by omega)
  have d2 : decide ((10 : Int) < (xss.length : Int)) = false := decide_eq_false (by omega)
  intro H; refine ACalls.introB s_spec_l06Ok (by simp) ?_; intro hB hA; unfold c_spec_l06Ok; simp (config := { maxSteps := 1000000 }) (disch := (first | omega | (simp only [go_sem]; try omega))) only [go_sem, Nat.reduceAdd, Nat.reduceEqDiff, Nat.reduceLeDiff, Nat.reduceMul, Nat.reduceLT, reduceIte, Int.reduceToNat, w64_id, cast_succ]
  repeat (first | (with_reducible first | refine SW.seq ?_ | refine SW.block ?_ | refine SW.rowC ?_ | refine SW.skip ?_ | refine SW.exit ?_ | intro _ | refine And.intro (by omega) ?_) | simp (config := { maxSteps := 1000000 }) (disch := (first | omega | (simp only [go_sem]; try omega))) only [go_sem, Nat.reduceAdd, Nat.reduceEqDiff, Nat.reduceLeDiff, Nat.reduceMul, Nat.reduceLT, reduceIte, Int.reduceToNat, w64_id, cast_succ, d1, d2])
  refine SW.condF rfl ?_
  repeat (first | (with_reducible first | refine SW.seq ?_ | refine SW.block ?_ | refine SW.rowC ?_ | refine SW.skip ?_ | refine SW.exit ?_ | intro _ | refine And.intro (by omega) ?_) | simp (config := { maxSteps := 1000000 }) (disch := (first | omega | (simp only [go_sem]; try omega))) only [go_sem, Nat.reduceAdd, Nat.reduceEqDiff, Nat.reduceLeDiff, Nat.reduceMul, Nat.reduceLT, reduceIte, Int.reduceToNat, w64_id, cast_succ])
  refine SW.loopE (fun E0 H0 q E' H' => ∃ (pre post : List (List Int)), xss = pre ++ post ∧ q = post.length ∧ E' = aput E0 4 (I pre.length) ∧ H' = H0 ∧ pre.all (fun r => decide (r.length = xss.length) && permB r) = true) xss.length ⟨[], xss, rfl, rfl, rfl, rfl, rfl⟩ ?_
  rintro q E' H' ⟨pre, post, hq, rfl, rfl, rfl, ha⟩
  simp (config := { maxSteps := 1000000 }) (disch := (first | omega | (simp only [go_sem]; try omega))) only [go_sem, Nat.reduceAdd, Nat.reduceEqDiff, Nat.reduceLeDiff, Nat.reduceMul, Nat.reduceLT, reduceIte, Int.reduceToNat, w64_id, cast_succ]
  repeat (first | (with_reducible first | refine SW.seq ?_ | refine SW.block ?_ | refine SW.rowC ?_ | refine SW.skip ?_ | refine SW.exit ?_ | intro _ | refine And.intro (by omega) ?_) | simp (config := { maxSteps := 1000000 }) (disch := (first | omega | (simp only [go_sem]; try omega))) only [go_sem, Nat.reduceAdd, Nat.reduceEqDiff, Nat.reduceLeDiff, Nat.reduceMul, Nat.reduceLT, reduceIte, Int.reduceToNat, w64_id, cast_succ])
  (first | refine SW.condD rfl (fun h2 => ?_) (fun h2 => ?_) | refine SW.condN rfl (fun h2 => ?_) (fun h2 => ?_) | refine SW.condNB rfl (fun h2 => ?_) (fun h2 => ?_) | refine SW.condB rfl (fun h2 => ?_) (fun h2 => ?_))
  · obtain ⟨r, post, rfl, hg, -⟩ := consOf (d := []) hq (by omega)
    by_cases hr : r.length = xss.length ∧ permB r = true
    · have d3 : decide (((r.length : Int) : Int) = (xss.length : Int)) = true := decide_eq_true (by omega)
      have h4 := l04Ok_fn r
      rw [hr.2] at h4
      repeat (first | (with_reducible first | refine SW.seq ?_ | refine SW.block ?_ | refine SW.rowC ?_ | refine SW.skip ?_ | refine SW.exit ?_ | refine PFn.use (h4) ?_ | refine PFn.useq (h4) ?_ | intro _ | refine And.intro (by omega) ?_) | simp (config := { maxSteps := 1000000 }) (disch := (first | omega | (simp only [go_sem]; try omega))) only [go_sem, Nat.reduceAdd, Nat.reduceEqDiff, Nat.reduceLeDiff, Nat.reduceMul, Nat.reduceLT, reduceIte, Int.reduceToNat, w64_id, cast_succ, hg, d3])
      refine SW.condF rfl ?_
      repeat (first | (with_reducible first | refine SW.seq ?_ | refine SW.block ?_ | refine SW.rowC ?_ | refine SW.skip ?_ | refine SW.exit ?_ | intro _ | refine And.intro (by omega) ?_) | simp (config := { maxSteps := 1000000 }) (disch := (first | omega | (simp only [go_sem]; try omega))) only [go_sem, Nat.reduceAdd, Nat.reduceEqDiff, Nat.reduceLeDiff, Nat.reduceMul, Nat.reduceLT, reduceIte, Int.reduceToNat, w64_id, cast_succ])
      refine SLoop.next post.length (by simp) ⟨pre ++ [r], post, by simp [hq], rfl, by simp [go_sem], rfl, ?_⟩
      rw [List.all_append, ha]; simp [hr.1, hr.2]
    · have hF : latB xss = false := by
        have : xss.all (fun r => decide (r.length = xss.length) && permB r) = false := by
          rw [List.all_eq_false]
          exact ⟨r, by rw [hq]; simp, by simpa using hr⟩
        unfold latB; rw [this]; simp
      by_cases hl : r.length = xss.length
      · have d3 : decide (((r.length : Int) : Int) = (xss.length : Int)) = true := decide_eq_true (by omega)
        have h4 := l04Ok_fn r
        rw [show permB r = false by simpa using fun h => hr ⟨hl, h⟩] at h4
        repeat (first | (with_reducible first | refine SW.seq ?_ | refine SW.block ?_ | refine SW.rowC ?_ | refine SW.skip ?_ | refine SW.exit ?_ | refine PFn.use (h4) ?_ | refine PFn.useq (h4) ?_ | intro _ | refine And.intro (by omega) ?_) | simp (config := { maxSteps := 1000000 }) (disch := (first | omega | (simp only [go_sem]; try omega))) only [go_sem, Nat.reduceAdd, Nat.reduceEqDiff, Nat.reduceLeDiff, Nat.reduceMul, Nat.reduceLT, reduceIte, Int.reduceToNat, w64_id, cast_succ, hg, d3])
        refine SW.condT rfl ?_
        repeat (first | (with_reducible first | refine SW.seq ?_ | refine SW.block ?_ | refine SW.rowC ?_ | refine SW.skip ?_ | refine SW.exit ?_ | intro _ | refine And.intro (by omega) ?_) | simp (config := { maxSteps := 1000000 }) (disch := (first | omega | (simp only [go_sem]; try omega))) only [go_sem, Nat.reduceAdd, Nat.reduceEqDiff, Nat.reduceLeDiff, Nat.reduceMul, Nat.reduceLT, reduceIte, Int.reduceToNat, w64_id, cast_succ])
        refine SW.ret ?_; (try simp only [go_sem]); (first | refine FunPost.one ?_ | refine FunPost.two ?_ | refine FunPost.three ?_); (try simp (config := { maxSteps := 1000000 }) (disch := (first | omega | (simp only [go_sem]; try omega))) only [go_sem, Nat.reduceAdd, Nat.reduceEqDiff, Nat.reduceLeDiff, Nat.reduceMul, Nat.reduceLT, reduceIte, Int.reduceToNat, w64_id, cast_succ]); (first | (with_reducible refine GR.drop ?_ ?_; (simp only [go_sem, and_self, and_true, true_and, implies_true, List.take_succ_cons, List.take_zero])) | refine GR.of ?_); refine ⟨?_, rfl⟩; (try with_reducible rfl)
        rw [hF]
      · have d3 : decide (((r.length : Int) : Int) = (xss.length : Int)) = false := decide_eq_false (by omega)
        repeat (first | (with_reducible first | refine SW.seq ?_ | refine SW.block ?_ | refine SW.rowC ?_ | refine SW.skip ?_ | refine SW.exit ?_ | intro _ | refine And.intro (by omega) ?_) | simp (config := { maxSteps := 1000000 }) (disch := (first | omega | (simp only [go_sem]; try omega))) only [go_sem, Nat.reduceAdd, Nat.reduceEqDiff, Nat.reduceLeDiff, Nat.reduceMul, Nat.reduceLT, reduceIte, Int.reduceToNat, w64_id, cast_succ, hg, d3])
        refine SW.condT rfl ?_
        repeat (first | (with_reducible first | refine SW.seq ?_ | refine SW.block ?_ | refine SW.rowC ?_ | refine SW.skip ?_ | refine SW.exit ?_ | intro _ | refine And.intro (by omega) ?_) | simp (config := { maxSteps := 1000000 }) (disch := (first | omega | (simp only [go_sem]; try omega))) only [go_sem, Nat.reduceAdd, Nat.reduceEqDiff, Nat.reduceLeDiff, Nat.reduceMul, Nat.reduceLT, reduceIte, Int.reduceToNat, w64_id, cast_succ])
        refine SW.ret ?_; (try simp only [go_sem]); (first | refine FunPost.one ?_ | refine FunPost.two ?_ | refine FunPost.three ?_); (try simp (config := { maxSteps := 1000000 }) (disch := (first | omega | (simp only [go_sem]; try omega))) only [go_sem, Nat.reduceAdd, Nat.reduceEqDiff, Nat.reduceLeDiff, Nat.reduceMul, Nat.reduceLT, reduceIte, Int.reduceToNat, w64_id, cast_succ]); (first | (with_reducible refine GR.drop ?_ ?_; (simp only [go_sem, and_self, and_true, true_and, implies_true, List.take_succ_cons, List.take_zero])) | refine GR.of ?_); refine ⟨?_, rfl⟩; (try with_reducible rfl)
        rw [hF]
  · obtain ⟨rfl, rfl⟩ := nilOf hq (by omega)
    repeat (first | (with_reducible first | refine SW.seq ?_ | refine SW.block ?_ | refine SW.rowC ?_ | refine SW.skip ?_ | refine SW.exit ?_ | intro _ | refine And.intro (by omega) ?_) | simp (config := { maxSteps := 1000000 }) (disch := (first | omega | (simp only [go_sem]; try omega))) only [go_sem, Nat.reduceAdd, Nat.reduceEqDiff, Nat.reduceLeDiff, Nat.reduceMul, Nat.reduceLT, reduceIte, Int.reduceToNat, w64_id, cast_succ])
    refine SW.loopE (fun E0 H0 q E' H' => ∃ (y : Nat), y ≤ pre.length ∧ q = pre.length - y ∧ E' = aput E0 5 (I y) ∧ H' = H0 ∧ (List.range y).all (fun y => permB (colV pre y)) = true) pre.length ⟨0, by omega, by omega, rfl, rfl, rfl⟩ ?_
    rintro q E' H' ⟨y, hy, rfl, rfl, rfl, hc⟩
    have hrl : ∀ r ∈ pre, r.length = pre.length := fun r hr => by
      have := List.all_eq_true.1 ha r hr
      simp at this; exact this.1
    simp (config := { maxSteps := 1000000 }) (disch := (first | omega | (simp only [go_sem]; try omega))) only [go_sem, Nat.reduceAdd, Nat.reduceEqDiff, Nat.reduceLeDiff, Nat.reduceMul, Nat.reduceLT, reduceIte, Int.reduceToNat, w64_id, cast_succ]
    repeat (first | (with_reducible first | refine SW.seq ?_ | refine SW.block ?_ | refine SW.rowC ?_ | refine SW.skip ?_ | refine SW.exit ?_ | intro _ | refine And.intro (by omega) ?_) | simp (config := { maxSteps := 1000000 }) (disch := (first | omega | (simp only [go_sem]; try omega))) only [go_sem, Nat.reduceAdd, Nat.reduceEqDiff, Nat.reduceLeDiff, Nat.reduceMul, Nat.reduceLT, reduceIte, Int.reduceToNat, w64_id, cast_succ])
    (first | refine SW.condD rfl (fun h3 => ?_) (fun h3 => ?_) | refine SW.condN rfl (fun h3 => ?_) (fun h3 => ?_) | refine SW.condNB rfl (fun h3 => ?_) (fun h3 => ?_) | refine SW.condB rfl (fun h3 => ?_) (fun h3 => ?_))
    · repeat (first | (with_reducible first | refine SW.seq ?_ | refine SW.block ?_ | refine SW.rowC ?_ | refine SW.skip ?_ | refine SW.exit ?_ | intro _ | refine And.intro (by omega) ?_) | simp (config := { maxSteps := 1000000 }) (disch := (first | omega | (simp only [go_sem]; try omega))) only [go_sem, Nat.reduceAdd, Nat.reduceEqDiff, Nat.reduceLeDiff, Nat.reduceMul, Nat.reduceLT, reduceIte, Int.reduceToNat, w64_id, cast_succ])
      refine SW.loopE (fun E0 H0 q E' H2 => ∃ (pr po : List (List Int)) (ver : Nat), pre = pr ++ po ∧ q = po.length ∧ E' = aput (aput E0 7 (I pr.length)) 6 (.nm H'.length ver 0 (colV pr y).length) ∧ H2 = H' ++ [⟨ver, 2, 1, (colV pr y).map I⟩]) pre.length ⟨[], pre, 0, rfl, rfl, rfl, rfl⟩ ?_
      rintro q E' H2 ⟨pr, po, ver, hp, rfl, rfl, rfl⟩
      have hcs : ∀ r, colV (pr ++ [r]) y = colV pr y ++ [r.getD y 0] := fun r => by simp [colV]
      have hcl : (colV pr y).length = pr.length := by simp [colV]
      generalize hM : colV pr y = M at *
      simp (config := { maxSteps := 1000000 }) (disch := (first | omega | (simp only [go_sem]; try omega))) only [go_sem, Nat.reduceAdd, Nat.reduceEqDiff, Nat.reduceLeDiff, Nat.reduceMul, Nat.reduceLT, reduceIte, Int.reduceToNat, w64_id, cast_succ]
      repeat (first | (with_reducible first | refine SW.seq ?_ | refine SW.block ?_ | refine SW.rowC ?_ | refine SW.skip ?_ | refine SW.exit ?_ | intro _ | refine And.intro (by omega) ?_) | simp (config := { maxSteps := 1000000 }) (disch := (first | omega | (simp only [go_sem]; try omega))) only [go_sem, Nat.reduceAdd, Nat.reduceEqDiff, Nat.reduceLeDiff, Nat.reduceMul, Nat.reduceLT, reduceIte, Int.reduceToNat, w64_id, cast_succ])
      (first | refine SW.condD rfl (fun h4 => ?_) (fun h4 => ?_) | refine SW.condN rfl (fun h4 => ?_) (fun h4 => ?_) | refine SW.condNB rfl (fun h4 => ?_) (fun h4 => ?_) | refine SW.condB rfl (fun h4 => ?_) (fun h4 => ?_))
      · obtain ⟨r, po, rfl, hg2, -⟩ := consOf (d := []) hp (by omega)
        have hry := hrl r (by rw [hp]; simp)
        repeat (first | (with_reducible first | refine SW.seq ?_ | refine SW.block ?_ | refine SW.rowC ?_ | refine SW.skip ?_ | refine SW.exit ?_ | intro _ | refine And.intro (by omega) ?_) | simp (config := { maxSteps := 1000000 }) (disch := (first | omega | (simp only [go_sem]; try omega))) only [go_sem, Nat.reduceAdd, Nat.reduceEqDiff, Nat.reduceLeDiff, Nat.reduceMul, Nat.reduceLT, reduceIte, Int.reduceToNat, w64_id, cast_succ, hg2])
        refine SLoop.nextT 1 po.length hB (by omega) (by simp) (by simp) ?_ ?_ ⟨pr ++ [r], po, ver + 1, by simp [hp], rfl, ?_, ?_⟩
        · (simp only [go_sem, Nat.reduceAdd, Nat.reduceEqDiff, reduceIte, go_sem, and_self, and_true, true_and, implies_true, List.take_succ_cons, List.take_zero, and_true, true_and]; try omega)
        · (simp only [go_sem, Nat.reduceAdd, Nat.reduceEqDiff, reduceIte, go_sem, and_self, and_true, true_and, implies_true, List.take_succ_cons, List.take_zero, and_true, true_and]; try omega)
        · simp [go_sem, hcs, hcl]
        · rw [hcs]; simp
      · obtain ⟨rfl, rfl⟩ := nilOf hp (by omega)
        repeat (first | (with_reducible first | refine SW.seq ?_ | refine SW.block ?_ | refine SW.rowC ?_ | refine SW.skip ?_ | refine SW.exit ?_ | intro _ | refine And.intro (by omega) ?_) | simp (config := { maxSteps := 1000000 }) (disch := (first | omega | (simp only [go_sem]; try omega))) only [go_sem, Nat.reduceAdd, Nat.reduceEqDiff, Nat.reduceLeDiff, Nat.reduceMul, Nat.reduceLT, reduceIte, Int.reduceToNat, w64_id, cast_succ])
        refine PFn.usel (l04Ok_fn M) (.cons (froz_rowI (ver := ver) (ty := 2) (Nat.zero_le _) (by simp)) .nil) ?_
        cases hpm : permB M with
        | true =>
          repeat (first | (with_reducible first | refine SW.seq ?_ | refine SW.block ?_ | refine SW.rowC ?_ | refine SW.skip ?_ | refine SW.exit ?_ | intro _ | refine And.intro (by omega) ?_) | simp (config := { maxSteps := 1000000 }) (disch := (first | omega | (simp only [go_sem]; try omega))) only [go_sem, Nat.reduceAdd, Nat.reduceEqDiff, Nat.reduceLeDiff, Nat.reduceMul, Nat.reduceLT, reduceIte, Int.reduceToNat, w64_id, cast_succ])
          refine SW.condF rfl ?_
          repeat (first | (with_reducible first | refine SW.seq ?_ | refine SW.block ?_ | refine SW.rowC ?_ | refine SW.skip ?_ | refine SW.exit ?_ | intro _ | refine And.intro (by omega) ?_) | simp (config := { maxSteps := 1000000 }) (disch := (first | omega | (simp only [go_sem]; try omega))) only [go_sem, Nat.reduceAdd, Nat.reduceEqDiff, Nat.reduceLeDiff, Nat.reduceMul, Nat.reduceLT, reduceIte, Int.reduceToNat, w64_id, cast_succ])
          refine SLoop.nextT 0 (pr.length - (y + 1)) hB (by omega) (by omega) (by simp) ?_ ?_ ⟨y + 1, by omega, rfl, by simp [go_sem], by simp, ?_⟩
          · (simp only [go_sem, Nat.reduceAdd, Nat.reduceEqDiff, reduceIte, go_sem, and_self, and_true, true_and, implies_true, List.take_succ_cons, List.take_zero, and_true, true_and]; try omega)
          · (simp only [go_sem, Nat.reduceAdd, Nat.reduceEqDiff, reduceIte, go_sem, and_self, and_true, true_and, implies_true, List.take_succ_cons, List.take_zero, and_true, true_and]; try omega)
          rw [List.range_succ, List.all_append, hc]; simp [hM, hpm]
        | false =>
          have hF : latB pr = false := by
            have : (List.range pr.length).all (fun y => permB (colV pr y)) = false := by
              rw [List.all_eq_false]
              exact ⟨y, by simp; omega, by rw [hM, hpm]; simp⟩
            unfold latB; rw [this]; simp
          repeat (first | (with_reducible first | refine SW.seq ?_ | refine SW.block ?_ | refine SW.rowC ?_ | refine SW.skip ?_ | refine SW.exit ?_ | intro _ | refine And.intro (by omega) ?_) | simp (config := { maxSteps := 1000000 }) (disch := (first | omega | (simp only [go_sem]; try omega))) only [go_sem, Nat.reduceAdd, Nat.reduceEqDiff, Nat.reduceLeDiff, Nat.reduceMul, Nat.reduceLT, reduceIte, Int.reduceToNat, w64_id, cast_succ])
          refine SW.condT rfl ?_
          repeat (first | (with_reducible first | refine SW.seq ?_ | refine SW.block ?_ | refine SW.rowC ?_ | refine SW.skip ?_ | refine SW.exit ?_ | intro _ | refine And.intro (by omega) ?_) | simp (config := { maxSteps := 1000000 }) (disch := (first | omega | (simp only [go_sem]; try omega))) only [go_sem, Nat.reduceAdd, Nat.reduceEqDiff, Nat.reduceLeDiff, Nat.reduceMul, Nat.reduceLT, reduceIte, Int.reduceToNat, w64_id, cast_succ])
          refine SW.ret ?_; (try simp only [go_sem]); (first | refine FunPost.one ?_ | refine FunPost.two ?_ | refine FunPost.three ?_); (try simp (config := { maxSteps := 1000000 }) (disch := (first | omega | (simp only [go_sem]; try omega))) only [go_sem, Nat.reduceAdd, Nat.reduceEqDiff, Nat.reduceLeDiff, Nat.reduceMul, Nat.reduceLT, reduceIte, Int.reduceToNat, w64_id, cast_succ]); (first | (with_reducible refine GR.drop ?_ ?_; (simp only [go_sem, and_self, and_true, true_and, implies_true, List.take_succ_cons, List.take_zero])) | refine GR.of ?_); refine ⟨?_, rfl⟩; (try with_reducible rfl)
          rw [hF]
    · have : y = pre.length := by omega
      subst this
      repeat (first | (with_reducible first | refine SW.seq ?_ | refine SW.block ?_ | refine SW.rowC ?_ | refine SW.skip ?_ | refine SW.exit ?_ | intro _ | refine And.intro (by omega) ?_) | simp (config := { maxSteps := 1000000 }) (disch := (first | omega | (simp only [go_sem]; try omega))) only [go_sem, Nat.reduceAdd, Nat.reduceEqDiff, Nat.reduceLeDiff, Nat.reduceMul, Nat.reduceLT, reduceIte, Int.reduceToNat, w64_id, cast_succ])
      refine SW.ret ?_; (try simp only [go_sem]); (first | refine FunPost.one ?_ | refine FunPost.two ?_ | refine FunPost.three ?_); (try simp (config := { maxSteps := 1000000 }) (disch := (first | omega | (simp only [go_sem]; try omega))) only [go_sem, Nat.reduceAdd, Nat.reduceEqDiff, Nat.reduceLeDiff, Nat.reduceMul, Nat.reduceLT, reduceIte, Int.reduceToNat, w64_id, cast_succ]); (first | (with_reducible refine GR.drop ?_ ?_; (simp only [go_sem, and_self, and_true, true_and, implies_true, List.take_succ_cons, List.take_zero])) | refine GR.of ?_); refine ⟨?_, rfl⟩; (try with_reducible rfl)
      unfold latB; rw [decide_eq_true hs, ha, hc]; rfl
end Go.Proofs.Ytflnjgeoegofdaa
