/- Permutations and squares that are valid: the reference, the program. -/
import Derived.Test.YtkifdjjnbplghaaGreatProg
import Derived.KernelRfl
import Derived.Test.YtkifdjjnbplghaaGreatzK18
import Derived.Test.YtkifdjjnbplghaaGreatzK19
import Derived.Test.YtkifdjjnbplghaaGreatzU1
set_option linter.unusedSimpArgs false
set_option linter.unusedVariables false
set_option maxHeartbeats 4000000
set_option maxRecDepth 100000
namespace Go.Proofs.YtkifdjjnbplghaaGreat
open Go.Av
abbrev f_spec_l04Ok : Nat := 73
def c_spec_l04Ok : SC :=
 .seq (.reg [
     ⟨(some 2), .mv (.const (.bool false)), none⟩] [0])
 (.seq (.seq (.reg [
     ⟨(some 4), .mv (.tmp 0), none⟩,
     ⟨(some 5), .len (.tmp 4), none⟩,
     ⟨(some 6), .bin .gtr (.tmp 5) (.const (.int .i64 32)), none⟩] [0, 6])
 (.cond (.tmp 6)
  (.seq (.reg [
      ⟨(some 2), .mv (.const (.bool false)), none⟩] [2])
  (.ret))
  (.skip)))
 (.seq (.seq (.reg [
     ⟨(some 3), .mv (.const (.int .i64 0)), none⟩] [0, 3])
 (.block 0 (.loop [0, 3]
   (.seq (.seq (.reg [
       ⟨(some 7), .mv (.tmp 3), none⟩,
       ⟨(some 8), .mv (.tmp 0), none⟩,
       ⟨(some 9), .len (.tmp 8), none⟩,
       ⟨(some 10), .bin .lss (.tmp 7) (.tmp 9), none⟩] [0, 3, 10])
   (.cond (.tmp 10)
    (.skip)
    (.exit 0)))
   (.seq (.block 1 (.seq (.reg [
        ⟨(some 13), .mv (.tmp 0), none⟩,
        ⟨(some 14), .mv (.tmp 3), none⟩,
        ⟨(some 15), .iaddr 1 (.tmp 13) (.tmp 14), none⟩,
        ⟨(some 16), .load 1 false (.tmp 15), none⟩,
        ⟨(some 17), .mv (.tmp 0), none⟩,
        ⟨(some 18), .qlen (.tmp 17), none⟩,
        ⟨(some 19), .bin .sub (.tmp 18) (.const (.int .i64 1)), none⟩,
        ⟨(some 20), .qcall 56 [(.tmp 16), (.const (.int .i64 0)), (.tmp 19)], none⟩,
        ⟨(some 21), .un .not (.tmp 20), none⟩,
        ⟨(some 22), .mv (.tmp 21), none⟩,
        ⟨(some 23), .mv (.tmp 0), (some (22, false))⟩,
        ⟨(some 24), .mv (.tmp 3), (some (22, false))⟩,
        ⟨(some 25), .slc 1 (.tmp 23) none (some (.tmp 24)), (some (22, false))⟩,
        ⟨(some 26), .mv (.tmp 0), (some (22, false))⟩,
        ⟨(some 27), .mv (.tmp 3), (some (22, false))⟩,
        ⟨(some 28), .iaddr 1 (.tmp 26) (.tmp 27), (some (22, false))⟩,
        ⟨(some 29), .load 1 false (.tmp 28), (some (22, false))⟩,
        ⟨(some 30), .qcall 108 [(.tmp 25), (.tmp 29)], (some (22, false))⟩,
        ⟨(some 31), .pick (.tmp 22) (.const (.bool true)) (.tmp 30), none⟩] [0, 3, 31])
    (.cond (.tmp 31)
     (.seq (.reg [
         ⟨(some 2), .mv (.const (.bool false)), none⟩] [2])
     (.ret))
     (.skip))))
   (.reg [
       ⟨(some 11), .mv (.tmp 3), none⟩,
       ⟨(some 12), .bin .add (.tmp 11) (.const (.int .i64 1)), none⟩,
       ⟨(some 3), .mv (.tmp 12), none⟩] [0, 3]))))))
 (.seq (.reg [
     ⟨(some 2), .mv (.const (.bool true)), none⟩] [2])
 (.ret))))
theorem s_spec_l04Ok : stripF Tryz.prog 73 [[0], [0, 6], [2], [0, 3], [0, 3], [0, 3, 10], [0, 3, 31], [2], [0, 3], [2]] = some (c_spec_l04Ok, [.tmp 2], 32) := by kernel_rfl
theorem slcQ {H : List Blk} (K : AV → Prop) (xs : List Int) (z y : Int) (h0 : 0 ≤ z) (h1 : z ≤ y) (h2 : y ≤ xs.length) : SlcG 1 (ilS xs) z y H K (some (xs.length, xs.map I)) = K (ilS ((xs.drop z.toNat).take (y.toNat - z.toNat))) := slc_ilS 1 K xs z y h0 h1 h2
def permB (p : List Int) : Bool := decide (p.length ≤ 32) && decide ((∀ x ∈ p, 0 ≤ x ∧ x < (p.length : Int)) ∧ p.Nodup)
theorem l04Ok_fn (p : List Int) : PFn Tryz.prog f_spec_l04Ok [ilS p] (Bv (permB p)) := by
  intro H; refine ACalls.introB s_spec_l04Ok (by simp) ?_; intro hB hA; unfold c_spec_l04Ok; simp (config := { maxSteps := 1000000 }) (disch := (first | omega | (simp only [go_sem]; try omega))) only [go_sem, Nat.reduceAdd, Nat.reduceEqDiff, Nat.reduceLeDiff, Nat.reduceMul, Nat.reduceLT, reduceIte, Int.reduceToNat, w64_id, cast_succ]
  repeat (first | (with_reducible first | refine SW.seq ?_ | refine SW.block ?_ | refine SW.rowC ?_ | refine SW.skip ?_ | refine SW.exit ?_ | intro _ | refine And.intro (by omega) ?_) | simp (config := { maxSteps := 1000000 }) (disch := (first | omega | (simp only [go_sem]; try omega))) only [go_sem, Nat.reduceAdd, Nat.reduceEqDiff, Nat.reduceLeDiff, Nat.reduceMul, Nat.reduceLT, reduceIte, Int.reduceToNat, w64_id, cast_succ])
  (first | refine SW.condD rfl (fun h => ?_) (fun h => ?_) | refine SW.condN rfl (fun h => ?_) (fun h => ?_) | refine SW.condNB rfl (fun h => ?_) (fun h => ?_) | refine SW.condB rfl (fun h => ?_) (fun h => ?_))
  · repeat (first | (with_reducible first | refine SW.seq ?_ | refine SW.block ?_ | refine SW.rowC ?_ | refine SW.skip ?_ | refine SW.exit ?_ | intro _ | refine And.intro (by omega) ?_) | simp (config := { maxSteps := 1000000 }) (disch := (first | omega | (simp only [go_sem]; try omega))) only [go_sem, Nat.reduceAdd, Nat.reduceEqDiff, Nat.reduceLeDiff, Nat.reduceMul, Nat.reduceLT, reduceIte, Int.reduceToNat, w64_id, cast_succ])
    refine SW.ret ?_; (try simp only [go_sem]); (first | refine FunPost.one ?_ | refine FunPost.two ?_ | refine FunPost.three ?_); (try simp (config := { maxSteps := 1000000 }) (disch := (first | omega | (simp only [go_sem]; try omega))) only [go_sem, Nat.reduceAdd, Nat.reduceEqDiff, Nat.reduceLeDiff, Nat.reduceMul, Nat.reduceLT, reduceIte, Int.reduceToNat, w64_id, cast_succ]); (first | (with_reducible refine GR.drop ?_ ?_; (simp only [go_sem, and_self, and_true, true_and, implies_true, List.take_succ_cons, List.take_zero])) | refine GR.of ?_); refine ⟨?_, rfl⟩; (try with_reducible rfl)
    have : permB p = false := by unfold permB; rw [decide_eq_false (by omega)]; rfl
    rw [this]
  · repeat (first | (with_reducible first | refine SW.seq ?_ | refine SW.block ?_ | refine SW.rowC ?_ | refine SW.skip ?_ | refine SW.exit ?_ | intro _ | refine And.intro (by omega) ?_) | simp (config := { maxSteps := 1000000 }) (disch := (first | omega | (simp only [go_sem]; try omega))) only [go_sem, Nat.reduceAdd, Nat.reduceEqDiff, Nat.reduceLeDiff, Nat.reduceMul, Nat.reduceLT, reduceIte, Int.reduceToNat, w64_id, cast_succ])
    refine SW.loopE (fun E0 H0 q E' H' => ∃ (pre post : List Int), p = pre ++ post ∧ q = post.length ∧ E' = aput E0 3 (I pre.length) ∧ H' = H0 ∧ (∀ x ∈ pre, 0 ≤ x ∧ x < (p.length : Int)) ∧ pre.Nodup) p.length ⟨[], p, rfl, rfl, rfl, rfl, by simp, by simp⟩ ?_
    rintro q E' H' ⟨pre, post, hq, rfl, rfl, rfl, ha, hb⟩
    simp (config := { maxSteps := 1000000 }) (disch := (first | omega | (simp only [go_sem]; try omega))) only [go_sem, Nat.reduceAdd, Nat.reduceEqDiff, Nat.reduceLeDiff, Nat.reduceMul, Nat.reduceLT, reduceIte, Int.reduceToNat, w64_id, cast_succ]
    repeat (first | (with_reducible first | refine SW.seq ?_ | refine SW.block ?_ | refine SW.rowC ?_ | refine SW.skip ?_ | refine SW.exit ?_ | intro _ | refine And.intro (by omega) ?_) | simp (config := { maxSteps := 1000000 }) (disch := (first | omega | (simp only [go_sem]; try omega))) only [go_sem, Nat.reduceAdd, Nat.reduceEqDiff, Nat.reduceLeDiff, Nat.reduceMul, Nat.reduceLT, reduceIte, Int.reduceToNat, w64_id, cast_succ])
    (first | refine SW.condD rfl (fun h2 => ?_) (fun h2 => ?_) | refine SW.condN rfl (fun h2 => ?_) (fun h2 => ?_) | refine SW.condNB rfl (fun h2 => ?_) (fun h2 => ?_) | refine SW.condB rfl (fun h2 => ?_) (fun h2 => ?_))
    · obtain ⟨x, post, rfl, hg, -⟩ := consOf (d := 0) hq (by omega)
      repeat (first | (with_reducible first | refine SW.seq ?_ | refine SW.block ?_ | refine SW.rowC ?_ | refine SW.skip ?_ | refine SW.exit ?_ | refine PFn.use (l00In_fn _ _ _) ?_ | refine PFn.useq (l00In_fn _ _ _) ?_ | intro _ | refine And.intro (by omega) ?_) | simp (config := { maxSteps := 1000000 }) (disch := (first | omega | (simp only [go_sem]; try omega))) only [go_sem, Nat.reduceAdd, Nat.reduceEqDiff, Nat.reduceLeDiff, Nat.reduceMul, Nat.reduceLT, reduceIte, Int.reduceToNat, w64_id, cast_succ, hg])
      have hpt : p.take pre.length = pre := by rw [hq]; simp
      have hF : x ∈ p := by rw [hq]; simp
      (first | refine GSplit.df (fun h3 => ?_) (fun h3 => ?_) | refine GSplit.dt (fun h3 => ?_) (fun h3 => ?_) | refine GSplit.ndf (fun h3 => ?_) (fun h3 => ?_) | refine GSplit.ndt (fun h3 => ?_) (fun h3 => ?_) | refine GSplit.nbf (fun h3 => ?_) (fun h3 => ?_) | refine GSplit.nbt (fun h3 => ?_) (fun h3 => ?_) | refine GSplit.bf (fun h3 => ?_) (fun h3 => ?_) | refine GSplit.bt (fun h3 => ?_) (fun h3 => ?_))
      · repeat (first | (with_reducible first | refine SW.seq ?_ | refine SW.block ?_ | refine SW.rowC ?_ | refine SW.skip ?_ | refine SW.exit ?_ | refine PFn.use (l00Has_fn pre x) ?_ | refine PFn.useq (l00Has_fn pre x) ?_ | intro _ | refine And.intro (by omega) ?_) | simp (config := { maxSteps := 1000000 }) (disch := (first | omega | (simp only [go_sem]; try omega))) only [go_sem, Nat.reduceAdd, Nat.reduceEqDiff, Nat.reduceLeDiff, Nat.reduceMul, Nat.reduceLT, reduceIte, Int.reduceToNat, w64_id, cast_succ, Option.map_some, Option.map_none, slcQ, hg, hpt, List.drop_zero, Int.toNat_natCast, Nat.sub_zero, Int.toNat_zero])
        by_cases hc : pre.contains x = true
        · have hB : permB p = false := by
            unfold permB
            simp only [Bool.and_eq_false_iff, decide_eq_false_iff_not]
            refine .inr fun hh => ?_
            have h5 := hh.2
            rw [hq, List.nodup_append] at h5
            exact h5.2.2 x (by simpa using hc) x (by simp) rfl
          rw [hc]
          repeat (first | (with_reducible first | refine SW.seq ?_ | refine SW.block ?_ | refine SW.rowC ?_ | refine SW.skip ?_ | refine SW.exit ?_ | intro _ | refine And.intro (by omega) ?_) | simp (config := { maxSteps := 1000000 }) (disch := (first | omega | (simp only [go_sem]; try omega))) only [go_sem, Nat.reduceAdd, Nat.reduceEqDiff, Nat.reduceLeDiff, Nat.reduceMul, Nat.reduceLT, reduceIte, Int.reduceToNat, w64_id, cast_succ])
          refine SW.condT rfl ?_
          repeat (first | (with_reducible first | refine SW.seq ?_ | refine SW.block ?_ | refine SW.rowC ?_ | refine SW.skip ?_ | refine SW.exit ?_ | intro _ | refine And.intro (by omega) ?_) | simp (config := { maxSteps := 1000000 }) (disch := (first | omega | (simp only [go_sem]; try omega))) only [go_sem, Nat.reduceAdd, Nat.reduceEqDiff, Nat.reduceLeDiff, Nat.reduceMul, Nat.reduceLT, reduceIte, Int.reduceToNat, w64_id, cast_succ])
          refine SW.ret ?_; (try simp only [go_sem]); (first | refine FunPost.one ?_ | refine FunPost.two ?_ | refine FunPost.three ?_); (try simp (config := { maxSteps := 1000000 }) (disch := (first | omega | (simp only [go_sem]; try omega))) only [go_sem, Nat.reduceAdd, Nat.reduceEqDiff, Nat.reduceLeDiff, Nat.reduceMul, Nat.reduceLT, reduceIte, Int.reduceToNat, w64_id, cast_succ]); (first | (with_reducible refine GR.drop ?_ ?_; (simp only [go_sem, and_self, and_true, true_and, implies_true, List.take_succ_cons, List.take_zero])) | refine GR.of ?_); refine ⟨?_, rfl⟩; (try with_reducible rfl)
          rw [hB]
        · rw [Bool.not_eq_true] at hc
          rw [hc]
          repeat (first | (with_reducible first | refine SW.seq ?_ | refine SW.block ?_ | refine SW.rowC ?_ | refine SW.skip ?_ | refine SW.exit ?_ | intro _ | refine And.intro (by omega) ?_) | simp (config := { maxSteps := 1000000 }) (disch := (first | omega | (simp only [go_sem]; try omega))) only [go_sem, Nat.reduceAdd, Nat.reduceEqDiff, Nat.reduceLeDiff, Nat.reduceMul, Nat.reduceLT, reduceIte, Int.reduceToNat, w64_id, cast_succ])
          refine SW.condF rfl ?_
          repeat (first | (with_reducible first | refine SW.seq ?_ | refine SW.block ?_ | refine SW.rowC ?_ | refine SW.skip ?_ | refine SW.exit ?_ | intro _ | refine And.intro (by omega) ?_) | simp (config := { maxSteps := 1000000 }) (disch := (first | omega | (simp only [go_sem]; try omega))) only [go_sem, Nat.reduceAdd, Nat.reduceEqDiff, Nat.reduceLeDiff, Nat.reduceMul, Nat.reduceLT, reduceIte, Int.reduceToNat, w64_id, cast_succ])
          refine SLoop.next post.length (by simp) ⟨pre ++ [x], post, by simp [hq], rfl, by simp [go_sem], rfl, ?_, ?_⟩
          · intro y hy
            rcases List.mem_append.1 hy with h | h
            · exact ha y h
            · simp at h h3; subst h; omega
          · rw [List.nodup_append]
            refine ⟨hb, by simp, fun a h1 b h2 => ?_⟩
            simp at h2 hc; subst h2
            rintro rfl
            exact hc h1
      · have hB : permB p = false := by
          unfold permB
          simp only [Bool.and_eq_false_iff, decide_eq_false_iff_not]
          refine .inr fun hh => ?_
          have := hh.1 x hF
          simp at h3; omega
        repeat (first | (with_reducible first | refine SW.seq ?_ | refine SW.block ?_ | refine SW.rowC ?_ | refine SW.skip ?_ | refine SW.exit ?_ | intro _ | refine And.intro (by omega) ?_) | simp (config := { maxSteps := 1000000 }) (disch := (first | omega | (simp only [go_sem]; try omega))) only [go_sem, Nat.reduceAdd, Nat.reduceEqDiff, Nat.reduceLeDiff, Nat.reduceMul, Nat.reduceLT, reduceIte, Int.reduceToNat, w64_id, cast_succ])
        refine SW.condT rfl ?_
        repeat (first | (with_reducible first | refine SW.seq ?_ | refine SW.block ?_ | refine SW.rowC ?_ | refine SW.skip ?_ | refine SW.exit ?_ | intro _ | refine And.intro (by omega) ?_) | simp (config := { maxSteps := 1000000 }) (disch := (first | omega | (simp only [go_sem]; try omega))) only [go_sem, Nat.reduceAdd, Nat.reduceEqDiff, Nat.reduceLeDiff, Nat.reduceMul, Nat.reduceLT, reduceIte, Int.reduceToNat, w64_id, cast_succ])
        refine SW.ret ?_; (try simp only [go_sem]); (first | refine FunPost.one ?_ | refine FunPost.two ?_ | refine FunPost.three ?_); (try simp (config := { maxSteps := 1000000 }) (disch := (first | omega | (simp only [go_sem]; try omega))) only [go_sem, Nat.reduceAdd, Nat.reduceEqDiff, Nat.reduceLeDiff, Nat.reduceMul, Nat.reduceLT, reduceIte, Int.reduceToNat, w64_id, cast_succ]); (first | (with_reducible refine GR.drop ?_ ?_; (simp only [go_sem, and_self, and_true, true_and, implies_true, List.take_succ_cons, List.take_zero])) | refine GR.of ?_); refine ⟨?_, rfl⟩; (try with_reducible rfl)
        rw [hB]
    · obtain ⟨rfl, rfl⟩ := nilOf hq (by omega)
      repeat (first | (with_reducible first | refine SW.seq ?_ | refine SW.block ?_ | refine SW.rowC ?_ | refine SW.skip ?_ | refine SW.exit ?_ | intro _ | refine And.intro (by omega) ?_) | simp (config := { maxSteps := 1000000 }) (disch := (first | omega | (simp only [go_sem]; try omega))) only [go_sem, Nat.reduceAdd, Nat.reduceEqDiff, Nat.reduceLeDiff, Nat.reduceMul, Nat.reduceLT, reduceIte, Int.reduceToNat, w64_id, cast_succ])
      refine SW.ret ?_; (try simp only [go_sem]); (first | refine FunPost.one ?_ | refine FunPost.two ?_ | refine FunPost.three ?_); (try simp (config := { maxSteps := 1000000 }) (disch := (first | omega | (simp only [go_sem]; try omega))) only [go_sem, Nat.reduceAdd, Nat.reduceEqDiff, Nat.reduceLeDiff, Nat.reduceMul, Nat.reduceLT, reduceIte, Int.reduceToNat, w64_id, cast_succ]); (first | (with_reducible refine GR.drop ?_ ?_; (simp only [go_sem, and_self, and_true, true_and, implies_true, List.take_succ_cons, List.take_zero])) | refine GR.of ?_); refine ⟨?_, rfl⟩; (try with_reducible rfl)
      have : permB pre = true := by unfold permB; rw [decide_eq_true (by omega), decide_eq_true ⟨ha, hb⟩]; rfl
      rw [this]
end Go.Proofs.YtkifdjjnbplghaaGreat
