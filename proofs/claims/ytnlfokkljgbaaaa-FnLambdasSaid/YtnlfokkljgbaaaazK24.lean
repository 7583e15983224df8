/- Indices of designs. -/
import Derived.Test.YtnlfokkljgbaaaaProg
import Derived.KernelRfl
import Derived.Test.YtnlfokkljgbaaaazK23
import Derived.Test.YtnlfokkljgbaaaazK18
import Derived.Test.YtnlfokkljgbaaaazK21
import Derived.Test.YtnlfokkljgbaaaazL7
import Derived.Test.YtnlfokkljgbaaaazL1
set_option linter.unusedSimpArgs false
set_option linter.unusedVariables false
set_option maxHeartbeats 4000000
set_option maxRecDepth 100000
namespace Go.Proofs.Ytnlfokkljgbaaaa
open Go.Av
abbrev f_impl_tIndex : Nat := 24
def c_impl_tIndex : SC :=
 .seq (.reg [
     ⟨(some 2), .box 26 (.tmp 0), none⟩,
     ⟨(some 4), .mv (.const (.int .i64 0)), none⟩] [1, 2])
 (.seq (.reg [
     ⟨(some 5), .mv (.const (.int .i64 (-1))), none⟩] [1, 2, 5])
 (.seq (.seq (.reg [
     ⟨(some 11), .faddr 0 (.tmp 2), none⟩,
     ⟨(some 12), .load 1 false (.tmp 11), none⟩,
     ⟨(some 13), .mv (.tmp 1), none⟩,
     ⟨(some 14), .call 44 [(.tmp 12), (.tmp 13)], none⟩,
     ⟨(some 15), .len (.tmp 14), none⟩,
     ⟨(some 16), .mv (.const (.int .i64 0)), none⟩] [2, 5, 14, 15, 16])
 (.block 0 (.loop [2, 5, 14, 15, 16]
   (.seq (.reg [
       ⟨(some 17), .bin .lss (.tmp 16) (.tmp 15), none⟩] [2, 5, 14, 15, 16, 17])
   (.seq (.cond (.tmp 17)
    (.skip)
    (.exit 0))
   (.seq (.block 1 (.seq (.reg [
        ⟨(some 18), .iaddr 1 (.tmp 14) (.tmp 16), none⟩,
        ⟨(some 19), .load 1 false (.tmp 18), none⟩,
        ⟨(some 7), .mv (.tmp 19), none⟩] [2, 5, 7, 14, 15, 16])
    (.seq (.reg [
        ⟨(some 8), .mv (.const (.int .i64 0)), none⟩] [2, 5, 7, 8, 14, 15, 16])
    (.seq (.seq (.reg [
        ⟨(some 20), .faddr 1 (.tmp 2), none⟩,
        ⟨(some 21), .load 1 false (.tmp 20), none⟩,
        ⟨(some 22), .len (.tmp 21), none⟩,
        ⟨(some 23), .mv (.const (.int .i64 0)), none⟩] [2, 5, 7, 8, 14, 15, 16, 21, 22, 23])
    (.block 2 (.loop [2, 5, 7, 8, 14, 15, 16, 21, 22, 23]
      (.seq (.reg [
          ⟨(some 24), .bin .lss (.tmp 23) (.tmp 22), none⟩] [2, 5, 7, 8, 14, 15, 16, 21, 22, 23, 24])
      (.seq (.cond (.tmp 24)
       (.skip)
       (.exit 2))
      (.seq (.block 3 (.seq (.reg [
           ⟨(some 25), .iaddr 1 (.tmp 21) (.tmp 23), none⟩,
           ⟨(some 26), .load 1 false (.tmp 25), none⟩,
           ⟨(some 10), .mv (.tmp 26), none⟩] [2, 5, 7, 8, 10, 14, 15, 16, 21, 22, 23])
       (.seq (.reg [
           ⟨(some 27), .mv (.tmp 10), none⟩,
           ⟨(some 28), .mv (.tmp 7), none⟩,
           ⟨(some 29), .call 45 [(.tmp 27), (.tmp 28)], none⟩] [2, 5, 7, 8, 14, 15, 16, 21, 22, 23, 29])
       (.cond (.tmp 29)
        (.reg [
            ⟨(some 30), .mv (.tmp 8), none⟩,
            ⟨(some 31), .bin .add (.tmp 30) (.const (.int .i64 1)), none⟩,
            ⟨(some 8), .mv (.tmp 31), none⟩] [2, 5, 7, 8, 14, 15, 16, 21, 22, 23])
        (.skip)))))
      (.reg [
          ⟨(some 32), .bin .add (.tmp 23) (.const (.int .i64 1)), none⟩,
          ⟨(some 23), .mv (.tmp 32), none⟩] [2, 5, 7, 8, 14, 15, 16, 21, 22, 23])))))))
    (.seq (.seq (.reg [
        ⟨(some 33), .mv (.tmp 5), none⟩,
        ⟨(some 34), .bin .geq (.tmp 33) (.const (.int .i64 0)), none⟩,
        ⟨(some 35), .mv (.tmp 34), none⟩,
        ⟨(some 36), .mv (.tmp 8), (some (35, true))⟩,
        ⟨(some 37), .mv (.tmp 5), (some (35, true))⟩,
        ⟨(some 38), .bin .neq (.tmp 36) (.tmp 37), (some (35, true))⟩,
        ⟨(some 39), .pick (.tmp 35) (.tmp 38) (.const (.bool false)), none⟩] [2, 8, 14, 15, 16, 39])
    (.cond (.tmp 39)
     (.seq (.reg [
         ⟨(some 4), .mv (.const (.int .i64 0)), none⟩] [4])
     (.ret))
     (.skip)))
    (.reg [
        ⟨(some 40), .mv (.tmp 8), none⟩,
        ⟨(some 5), .mv (.tmp 40), none⟩] [2, 5, 14, 15, 16]))))))
   (.reg [
       ⟨(some 41), .bin .add (.tmp 16) (.const (.int .i64 1)), none⟩,
       ⟨(some 16), .mv (.tmp 41), none⟩] [2, 5, 14, 15, 16])))))))
 (.seq (.reg [
     ⟨(some 42), .mv (.tmp 5), none⟩,
     ⟨(some 43), .mm true (.tmp 42) (.const (.int .i64 0)), none⟩,
     ⟨(some 4), .mv (.tmp 43), none⟩] [4])
 (.ret))))
theorem s_impl_tIndex : stripF Try.prog 24 [[1, 2], [1, 2, 5], [2, 5, 14, 15, 16], [2, 5, 14, 15, 16], [2, 5, 14, 15, 16, 17], [2, 5, 7, 14, 15, 16], [2, 5, 7, 8, 14, 15, 16], [2, 5, 7, 8, 14, 15, 16, 21, 22, 23], [2, 5, 7, 8, 14, 15, 16, 21, 22, 23], [2, 5, 7, 8, 14, 15, 16, 21, 22, 23, 24], [2, 5, 7, 8, 10, 14, 15, 16, 21, 22, 23], [2, 5, 7, 8, 14, 15, 16, 21, 22, 23, 29], [2, 5, 7, 8, 14, 15, 16, 21, 22, 23], [2, 5, 7, 8, 14, 15, 16, 21, 22, 23], [2, 8, 14, 15, 16, 39], [4], [2, 5, 14, 15, 16], [2, 5, 14, 15, 16], [4]] = some (c_impl_tIndex, [.tmp 4], 44) := by kernel_rfl
abbrev f_impl_contains : Nat := 45
def c_impl_contains : SC :=
 .seq (.reg [
     ⟨(some 2), .box 29 (.tmp 0), none⟩,
     ⟨(some 4), .mv (.const (.bool false)), none⟩] [1, 2])
 (.seq (.reg [
     ⟨(some 5), .mv (.tmp 1), none⟩,
     ⟨(some 6), .mkf 71 [(.tmp 2)], none⟩,
     ⟨(some 7), .call 33 [(.tmp 5), (.tmp 6)], none⟩,
     ⟨(some 8), .un .not (.tmp 7), none⟩,
     ⟨(some 4), .mv (.tmp 8), none⟩] [4])
 (.ret))
theorem s_impl_contains : stripF Try.prog 45 [[1, 2], [4]] = some (c_impl_contains, [.tmp 4], 9) := by kernel_rfl
abbrev f_impl_contains_c1 : Nat := 71
def c_impl_contains_c1 : SC :=
 .seq (.reg [
     ⟨(some 3), .mv (.const (.bool false)), none⟩] [0, 1])
 (.seq (.reg [
     ⟨(some 4), .load 1 false (.tmp 1), none⟩,
     ⟨(some 5), .mv (.tmp 0), none⟩,
     ⟨(some 6), .call 72 [(.tmp 4), (.tmp 5)], none⟩,
     ⟨(some 7), .un .not (.tmp 6), none⟩,
     ⟨(some 3), .mv (.tmp 7), none⟩] [3])
 (.ret))
theorem s_impl_contains_c1 : stripF Try.prog 71 [[0, 1], [3]] = some (c_impl_contains_c1, [.tmp 3], 8) := by kernel_rfl
theorem contains_c1_ok (H : List Blk) (p ty : Nat) (x : Int) (set : List Int) (hp : H[p]? = some ⟨0, ty, 1, [ilS set]⟩) : ACalls Try.prog f_impl_contains_c1 [I x, .pc p 0 0] H (fun r H' => r = Bv (!set.contains x) ∧ H' = H) := by
  refine ACalls.introB s_impl_contains_c1 (by simp) ?_; intro hB hA; unfold c_impl_contains_c1; simp (config := { maxSteps := 1000000 }) (disch := (first | omega | (simp only [go_sem]; try omega))) only [go_sem, Nat.reduceAdd, Nat.reduceEqDiff, Nat.reduceLeDiff, Nat.reduceMul, Nat.reduceLT, reduceIte, Int.reduceToNat, w64_id, cast_succ]
  repeat (first | (with_reducible first | refine SW.seq ?_ | refine SW.block ?_ | refine SW.rowC ?_ | refine SW.skip ?_ | refine SW.exit ?_ | refine PFn.use (ContainsI_fn _ _) ?_ | refine PFn.useq (ContainsI_fn _ _) ?_ | intro _ | refine And.intro (by omega) ?_) | simp (config := { maxSteps := 1000000 }) (disch := (first | omega | (simp only [go_sem]; try omega))) only [go_sem, Nat.reduceAdd, Nat.reduceEqDiff, Nat.reduceLeDiff, Nat.reduceMul, Nat.reduceLT, reduceIte, Int.reduceToNat, w64_id, cast_succ, pc_ld hp, pc_alive hp])
  refine SW.ret ?_; (try simp only [go_sem]); (first | refine FunPost.one ?_ | refine FunPost.two ?_ | refine FunPost.three ?_); (try simp (config := { maxSteps := 1000000 }) (disch := (first | omega | (simp only [go_sem]; try omega))) only [go_sem, Nat.reduceAdd, Nat.reduceEqDiff, Nat.reduceLeDiff, Nat.reduceMul, Nat.reduceLT, reduceIte, Int.reduceToNat, w64_id, cast_succ]); (first | (with_reducible refine GR.drop ?_ ?_; (simp only [go_sem, and_self, and_true, true_and, implies_true, List.take_succ_cons, List.take_zero])) | refine GR.of ?_); refine ⟨?_, rfl⟩; (try with_reducible rfl)
theorem contains_fn (set part : List Int) : PFn Try.prog f_impl_contains [ilS set, ilS part] (Bv (part.all set.contains)) := by
  intro H; refine ACalls.introB s_impl_contains (by simp) ?_; intro hB hA; unfold c_impl_contains; simp (config := { maxSteps := 1000000 }) (disch := (first | omega | (simp only [go_sem]; try omega))) only [go_sem, Nat.reduceAdd, Nat.reduceEqDiff, Nat.reduceLeDiff, Nat.reduceMul, Nat.reduceLT, reduceIte, Int.reduceToNat, w64_id, cast_succ]
  repeat (first | (with_reducible first | refine SW.seq ?_ | refine SW.block ?_ | refine SW.rowC ?_ | refine SW.skip ?_ | refine SW.exit ?_ | intro _ | refine And.intro (by omega) ?_) | simp (config := { maxSteps := 1000000 }) (disch := (first | omega | (simp only [go_sem]; try omega))) only [go_sem, Nat.reduceAdd, Nat.reduceEqDiff, Nat.reduceLeDiff, Nat.reduceMul, Nat.reduceLT, reduceIte, Int.reduceToNat, w64_id, cast_succ])
  refine (conS_ok I _ _ part rfl _ _ (by kernel_rfl) (fun x => !set.contains x) (fun x _ => contains_c1_ok _ H.length 29 x set (by simp))).mono ?_
  rintro r H' ⟨rfl, rfl⟩
  repeat (first | (with_reducible first | refine SW.seq ?_ | refine SW.block ?_ | refine SW.rowC ?_ | refine SW.skip ?_ | refine SW.exit ?_ | intro _ | refine And.intro (by omega) ?_) | simp (config := { maxSteps := 1000000 }) (disch := (first | omega | (simp only [go_sem]; try omega))) only [go_sem, Nat.reduceAdd, Nat.reduceEqDiff, Nat.reduceLeDiff, Nat.reduceMul, Nat.reduceLT, reduceIte, Int.reduceToNat, w64_id, cast_succ])
  refine SW.ret ?_; (try simp only [go_sem]); (first | refine FunPost.one ?_ | refine FunPost.two ?_ | refine FunPost.three ?_); (try simp (config := { maxSteps := 1000000 }) (disch := (first | omega | (simp only [go_sem]; try omega))) only [go_sem, Nat.reduceAdd, Nat.reduceEqDiff, Nat.reduceLeDiff, Nat.reduceMul, Nat.reduceLT, reduceIte, Int.reduceToNat, w64_id, cast_succ]); (first | (with_reducible refine GR.drop ?_ ?_; (simp only [go_sem, and_self, and_true, true_and, implies_true, List.take_succ_cons, List.take_zero])) | refine GR.of ?_); refine ⟨?_, rfl⟩; (try with_reducible rfl)
  rw [List.any_eq_not_all_not]
  simp only [Bool.not_not]
def cntB (xss : List (List Int)) (set : List Int) : Int := (xss.countP fun b => set.all b.contains : Nat)
def sameV : List Int → Int
  | [] => 0
  | c :: r => if r.all (fun d => decide (d = c)) then c else 0
def firstV1 : List Int → Int
  | [] => -1
  | c :: _ => c
theorem sameV_bad {l r : List Int} {c : Int} (h : l ≠ []) (hc : c ≠ firstV1 l) : sameV (l ++ c :: r) = 0 := by
  cases l with
  | nil => exact absurd rfl h
  | cons a l => simp only [List.cons_append, sameV]; rw [if_neg]; simp; intro _ h2; exact absurd h2 hc
theorem sameV_good {l : List Int} (h : ∀ c ∈ l, c = firstV1 l) : sameV l = if l = [] then 0 else firstV1 l := by
  cases l with
  | nil => rfl
  | cons a l => simp only [sameV]; rw [if_pos (by simp; intro x hx; exact h x (by simp [hx])), if_neg (by simp)]; rfl
def tIdx (n : Nat) (xss : List (List Int)) (t : Nat) : Int := sameV ((subsN n t).map (cntB xss))
theorem cntB_snoc (pre : List (List Int)) (b set : List Int) : cntB (pre ++ [b]) set = cntB pre set + (if set.all b.contains then 1 else 0) := by
  simp only [cntB, List.countP_append, List.countP_singleton]; split <;> simp
theorem cntB_range (pre : List (List Int)) (set : List Int) (h : pre.length ≤ 128) : 0 ≤ cntB pre set ∧ cntB pre set ≤ 128 := by
  have := List.countP_le_length (p := fun b : List Int => set.all b.contains) (l := pre)
  unfold cntB; omega
theorem implTIdx_fn (n : Nat) (xss : List (List Int)) (t : Nat) (hn : n ≤ 32) (hl : xss.length ≤ 128) (ht : t ≤ 1000) : PFn Try.prog f_impl_tIndex [.agg [I n, ilSS xss], I t] (I (tIdx n xss t)) := by
  have hsub := subs_fn n t hn (by omega)
  have hsl : (subsN n t).length ≤ 4294967296 := by
    have h1 := ch_le n t
    have h2 : 2 ^ n ≤ 2 ^ 32 := Nat.pow_le_pow_right (by omega) hn
    unfold subsN; rw [subsL_len]; omega
  unfold tIdx
  generalize subsN n t = S at *
  intro H; refine ACalls.introB s_impl_tIndex (by simp) ?_; intro hB hA; unfold c_impl_tIndex; simp (config := { maxSteps := 1000000 }) (disch := (first | omega | (simp only [go_sem]; try omega))) only [go_sem, Nat.reduceAdd, Nat.reduceEqDiff, Nat.reduceLeDiff, Nat.reduceMul, Nat.reduceLT, reduceIte, Int.reduceToNat, w64_id, cast_succ]
  repeat (first | (with_reducible first | refine SW.seq ?_ | refine SW.block ?_ | refine SW.rowC ?_ | refine SW.skip ?_ | refine SW.exit ?_ | refine PFn.use (hsub) ?_ | refine PFn.useq (hsub) ?_ | intro _ | refine And.intro (by omega) ?_) | simp (config := { maxSteps := 1000000 }) (disch := (first | omega | (simp only [go_sem]; try omega))) only [go_sem, Nat.reduceAdd, Nat.reduceEqDiff, Nat.reduceLeDiff, Nat.reduceMul, Nat.reduceLT, reduceIte, Int.reduceToNat, w64_id, cast_succ])
  refine SW.loopE (fun E0 H0 q E' H' => ∃ (pre post : List (List Int)), S = pre ++ post ∧ q = post.length ∧ E' = aput (aput E0 16 (I pre.length)) 5 (I (firstV1 (pre.map (cntB xss)))) ∧ H' = H0 ∧ ∀ c ∈ pre.map (cntB xss), c = firstV1 (pre.map (cntB xss))) S.length ⟨[], S, rfl, rfl, rfl, rfl, by simp⟩ ?_
  rintro q E' H' ⟨pre, post, hq, rfl, rfl, rfl, hall⟩
  simp (config := { maxSteps := 1000000 }) (disch := (first | omega | (simp only [go_sem]; try omega))) only [go_sem, Nat.reduceAdd, Nat.reduceEqDiff, Nat.reduceLeDiff, Nat.reduceMul, Nat.reduceLT, reduceIte, Int.reduceToNat, w64_id, cast_succ]
  repeat (first | (with_reducible first | refine SW.seq ?_ | refine SW.block ?_ | refine SW.rowC ?_ | refine SW.skip ?_ | refine SW.exit ?_ | intro _ | refine And.intro (by omega) ?_) | simp (config := { maxSteps := 1000000 }) (disch := (first | omega | (simp only [go_sem]; try omega))) only [go_sem, Nat.reduceAdd, Nat.reduceEqDiff, Nat.reduceLeDiff, Nat.reduceMul, Nat.reduceLT, reduceIte, Int.reduceToNat, w64_id, cast_succ])
  (first | refine SW.condD rfl (fun h => ?_) (fun h => ?_) | refine SW.condN rfl (fun h => ?_) (fun h => ?_) | refine SW.condNB rfl (fun h => ?_) (fun h => ?_) | refine SW.condB rfl (fun h => ?_) (fun h => ?_))
  · obtain ⟨set, post, rfl, hg, -⟩ := consOf (d := []) hq (by omega)
    repeat (first | (with_reducible first | refine SW.seq ?_ | refine SW.block ?_ | refine SW.rowC ?_ | refine SW.skip ?_ | refine SW.exit ?_ | intro _ | refine And.intro (by omega) ?_) | simp (config := { maxSteps := 1000000 }) (disch := (first | omega | (simp only [go_sem]; try omega))) only [go_sem, Nat.reduceAdd, Nat.reduceEqDiff, Nat.reduceLeDiff, Nat.reduceMul, Nat.reduceLT, reduceIte, Int.reduceToNat, w64_id, cast_succ, hg])
    refine SW.loopE (fun E0 H0 q E' H' => ∃ (p1 p2 : List (List Int)), xss = p1 ++ p2 ∧ q = p2.length ∧ E' = aput (aput E0 23 (I p1.length)) 8 (I (cntB p1 set)) ∧ H' = H0) xss.length ⟨[], xss, rfl, rfl, rfl, rfl⟩ ?_
    rintro q E' H' ⟨p1, p2, hq2, rfl, rfl, rfl⟩
    have hcr := cntB_range p1 set (by rw [hq2] at hl; simp at hl; omega)
    have hsn := fun b => cntB_snoc p1 b set
    generalize hc0 : cntB p1 set = c at *
    simp (config := { maxSteps := 1000000 }) (disch := (first | omega | (simp only [go_sem]; try omega))) only [go_sem, Nat.reduceAdd, Nat.reduceEqDiff, Nat.reduceLeDiff, Nat.reduceMul, Nat.reduceLT, reduceIte, Int.reduceToNat, w64_id, cast_succ]
    repeat (first | (with_reducible first | refine SW.seq ?_ | refine SW.block ?_ | refine SW.rowC ?_ | refine SW.skip ?_ | refine SW.exit ?_ | intro _ | refine And.intro (by omega) ?_) | simp (config := { maxSteps := 1000000 }) (disch := (first | omega | (simp only [go_sem]; try omega))) only [go_sem, Nat.reduceAdd, Nat.reduceEqDiff, Nat.reduceLeDiff, Nat.reduceMul, Nat.reduceLT, reduceIte, Int.reduceToNat, w64_id, cast_succ])
    (first | refine SW.condD rfl (fun h2 => ?_) (fun h2 => ?_) | refine SW.condN rfl (fun h2 => ?_) (fun h2 => ?_) | refine SW.condNB rfl (fun h2 => ?_) (fun h2 => ?_) | refine SW.condB rfl (fun h2 => ?_) (fun h2 => ?_))
    · obtain ⟨b, p2, rfl, hgb, -⟩ := consOf (d := []) hq2 (by omega)
      repeat (first | (with_reducible first | refine SW.seq ?_ | refine SW.block ?_ | refine SW.rowC ?_ | refine SW.skip ?_ | refine SW.exit ?_ | refine PFn.use (contains_fn _ _) ?_ | refine PFn.useq (contains_fn _ _) ?_ | intro _ | refine And.intro (by omega) ?_) | simp (config := { maxSteps := 1000000 }) (disch := (first | omega | (simp only [go_sem]; try omega))) only [go_sem, Nat.reduceAdd, Nat.reduceEqDiff, Nat.reduceLeDiff, Nat.reduceMul, Nat.reduceLT, reduceIte, Int.reduceToNat, w64_id, cast_succ, hgb])
      (first | refine SW.condD rfl (fun h3 => ?_) (fun h3 => ?_) | refine SW.condN rfl (fun h3 => ?_) (fun h3 => ?_) | refine SW.condNB rfl (fun h3 => ?_) (fun h3 => ?_) | refine SW.condB rfl (fun h3 => ?_) (fun h3 => ?_))
      · repeat (first | (with_reducible first | refine SW.seq ?_ | refine SW.block ?_ | refine SW.rowC ?_ | refine SW.skip ?_ | refine SW.exit ?_ | intro _ | refine And.intro (by omega) ?_) | simp (config := { maxSteps := 1000000 }) (disch := (first | omega | (simp only [go_sem]; try omega))) only [go_sem, Nat.reduceAdd, Nat.reduceEqDiff, Nat.reduceLeDiff, Nat.reduceMul, Nat.reduceLT, reduceIte, Int.reduceToNat, w64_id, cast_succ])
        refine SLoop.next p2.length (by simp) ⟨p1 ++ [b], p2, by simp [hq2], rfl, ?_, rfl⟩
        rw [hsn, if_pos h3]; simp [go_sem]
      · repeat (first | (with_reducible first | refine SW.seq ?_ | refine SW.block ?_ | refine SW.rowC ?_ | refine SW.skip ?_ | refine SW.exit ?_ | intro _ | refine And.intro (by omega) ?_) | simp (config := { maxSteps := 1000000 }) (disch := (first | omega | (simp only [go_sem]; try omega))) only [go_sem, Nat.reduceAdd, Nat.reduceEqDiff, Nat.reduceLeDiff, Nat.reduceMul, Nat.reduceLT, reduceIte, Int.reduceToNat, w64_id, cast_succ])
        refine SLoop.next p2.length (by simp) ⟨p1 ++ [b], p2, by simp [hq2], rfl, ?_, rfl⟩
        rw [hsn, if_neg (by simpa using h3)]; simp [go_sem]
    · obtain ⟨rfl, rfl⟩ := nilOf hq2 (by omega)
      repeat (first | (with_reducible first | refine SW.seq ?_ | refine SW.block ?_ | refine SW.rowC ?_ | refine SW.skip ?_ | refine SW.exit ?_ | intro _ | refine And.intro (by omega) ?_) | simp (config := { maxSteps := 1000000 }) (disch := (first | omega | (simp only [go_sem]; try omega))) only [go_sem, Nat.reduceAdd, Nat.reduceEqDiff, Nat.reduceLeDiff, Nat.reduceMul, Nat.reduceLT, reduceIte, Int.reduceToNat, w64_id, cast_succ])
      have hP : (pre ++ [set]).map (cntB p1) = pre.map (cntB p1) ++ [c] := by simp [hc0]
      have hT : S.map (cntB p1) = pre.map (cntB p1) ++ c :: post.map (cntB p1) := by rw [hq]; simp [hc0]
      have hnil : pre.map (cntB p1) = [] → pre = [] := fun h => List.map_eq_nil_iff.1 h
      have hf0 : ∀ d ∈ pre.map (cntB p1), 0 ≤ d := by
        intro d hd
        obtain ⟨s, _, rfl⟩ := List.mem_map.1 hd
        exact (cntB_range p1 s hl).1
      have next : (pre.map (cntB p1) ≠ [] → c = firstV1 (pre.map (cntB p1))) → I c = I (firstV1 ((pre ++ [set]).map (cntB p1))) ∧ ∀ d ∈ (pre ++ [set]).map (cntB p1), d = firstV1 ((pre ++ [set]).map (cntB p1)) := by
        intro h3
        rw [hP]
        generalize pre.map (cntB p1) = P at *
        cases P with
        | nil => exact ⟨rfl, by simp [firstV1]⟩
        | cons a P =>
          have h4 : c = a := h3 (by simp)
          subst h4
          refine ⟨rfl, ?_⟩
          intro d hd
          simp only [List.cons_append, List.mem_cons, List.mem_append, List.mem_singleton, List.not_mem_nil, or_false] at hd
          rcases hd with hd | hd | hd
          · exact hd
          · exact hall d (by simp [hd])
          · exact hd
      (first | refine GSplit.df (fun h3 => ?_) (fun h3 => ?_) | refine GSplit.dt (fun h3 => ?_) (fun h3 => ?_) | refine GSplit.ndf (fun h3 => ?_) (fun h3 => ?_) | refine GSplit.ndt (fun h3 => ?_) (fun h3 => ?_) | refine GSplit.nbf (fun h3 => ?_) (fun h3 => ?_) | refine GSplit.nbt (fun h3 => ?_) (fun h3 => ?_) | refine GSplit.bf (fun h3 => ?_) (fun h3 => ?_) | refine GSplit.bt (fun h3 => ?_) (fun h3 => ?_))
      · have hne : pre.map (cntB p1) ≠ [] := by intro h4; rw [h4] at h3; simp [firstV1] at h3
        (first | refine SW.condD rfl (fun h4 => ?_) (fun h4 => ?_) | refine SW.condN rfl (fun h4 => ?_) (fun h4 => ?_) | refine SW.condNB rfl (fun h4 => ?_) (fun h4 => ?_) | refine SW.condB rfl (fun h4 => ?_) (fun h4 => ?_))
        · repeat (first | (with_reducible first | refine SW.seq ?_ | refine SW.block ?_ | refine SW.rowC ?_ | refine SW.skip ?_ | refine SW.exit ?_ | intro _ | refine And.intro (by omega) ?_) | simp (config := { maxSteps := 1000000 }) (disch := (first | omega | (simp only [go_sem]; try omega))) only [go_sem, Nat.reduceAdd, Nat.reduceEqDiff, Nat.reduceLeDiff, Nat.reduceMul, Nat.reduceLT, reduceIte, Int.reduceToNat, w64_id, cast_succ])
          refine SW.ret ?_; (try simp only [go_sem]); (first | refine FunPost.one ?_ | refine FunPost.two ?_ | refine FunPost.three ?_); (try simp (config := { maxSteps := 1000000 }) (disch := (first | omega | (simp only [go_sem]; try omega))) only [go_sem, Nat.reduceAdd, Nat.reduceEqDiff, Nat.reduceLeDiff, Nat.reduceMul, Nat.reduceLT, reduceIte, Int.reduceToNat, w64_id, cast_succ]); (first | (with_reducible refine GR.drop ?_ ?_; (simp only [go_sem, and_self, and_true, true_and, implies_true, List.take_succ_cons, List.take_zero])) | refine GR.of ?_); refine ⟨?_, rfl⟩; (try with_reducible rfl)
          rw [hT, sameV_bad hne h4]
        · repeat (first | (with_reducible first | refine SW.seq ?_ | refine SW.block ?_ | refine SW.rowC ?_ | refine SW.skip ?_ | refine SW.exit ?_ | intro _ | refine And.intro (by omega) ?_) | simp (config := { maxSteps := 1000000 }) (disch := (first | omega | (simp only [go_sem]; try omega))) only [go_sem, Nat.reduceAdd, Nat.reduceEqDiff, Nat.reduceLeDiff, Nat.reduceMul, Nat.reduceLT, reduceIte, Int.reduceToNat, w64_id, cast_succ])
          obtain ⟨n1, n2⟩ := next (fun _ => h4)
          refine SLoop.next post.length (by simp) ⟨pre ++ [set], post, by simp [hq], rfl, ?_, rfl, n2⟩
          rw [← n1]; simp [go_sem]
      · have he : pre.map (cntB p1) = [] := by
          cases hp : pre.map (cntB p1) with
          | nil => rfl
          | cons a P => exfalso; have := hf0 a (by rw [hp]; simp); rw [hp] at h3; simp only [firstV1] at h3; omega
        (first | refine SW.condD rfl (fun h4 => ?_) (fun h4 => ?_) | refine SW.condN rfl (fun h4 => ?_) (fun h4 => ?_) | refine SW.condNB rfl (fun h4 => ?_) (fun h4 => ?_) | refine SW.condB rfl (fun h4 => ?_) (fun h4 => ?_))
        · cases h4
        repeat (first | (with_reducible first | refine SW.seq ?_ | refine SW.block ?_ | refine SW.rowC ?_ | refine SW.skip ?_ | refine SW.exit ?_ | intro _ | refine And.intro (by omega) ?_) | simp (config := { maxSteps := 1000000 }) (disch := (first | omega | (simp only [go_sem]; try omega))) only [go_sem, Nat.reduceAdd, Nat.reduceEqDiff, Nat.reduceLeDiff, Nat.reduceMul, Nat.reduceLT, reduceIte, Int.reduceToNat, w64_id, cast_succ])
        obtain ⟨n1, n2⟩ := next (fun h => absurd he h)
        refine SLoop.next post.length (by simp) ⟨pre ++ [set], post, by simp [hq], rfl, ?_, rfl, n2⟩
        rw [← n1]; simp [go_sem]
  · obtain ⟨rfl, rfl⟩ := nilOf hq (by omega)
    have hf0 : ∀ d ∈ pre.map (cntB xss), 0 ≤ d := by
      intro d hd
      obtain ⟨s, _, rfl⟩ := List.mem_map.1 hd
      exact (cntB_range xss s hl).1
    repeat (first | (with_reducible first | refine SW.seq ?_ | refine SW.block ?_ | refine SW.rowC ?_ | refine SW.skip ?_ | refine SW.exit ?_ | intro _ | refine And.intro (by omega) ?_) | simp (config := { maxSteps := 1000000 }) (disch := (first | omega | (simp only [go_sem]; try omega))) only [go_sem, Nat.reduceAdd, Nat.reduceEqDiff, Nat.reduceLeDiff, Nat.reduceMul, Nat.reduceLT, reduceIte, Int.reduceToNat, w64_id, cast_succ])
    refine SW.ret ?_; (try simp only [go_sem]); (first | refine FunPost.one ?_ | refine FunPost.two ?_ | refine FunPost.three ?_); (try simp (config := { maxSteps := 1000000 }) (disch := (first | omega | (simp only [go_sem]; try omega))) only [go_sem, Nat.reduceAdd, Nat.reduceEqDiff, Nat.reduceLeDiff, Nat.reduceMul, Nat.reduceLT, reduceIte, Int.reduceToNat, w64_id, cast_succ]); (first | (with_reducible refine GR.drop ?_ ?_; (simp only [go_sem, and_self, and_true, true_and, implies_true, List.take_succ_cons, List.take_zero])) | refine GR.of ?_); refine ⟨?_, rfl⟩; (try with_reducible rfl)
    rw [sameV_good hall]
    generalize pre.map (cntB xss) = P at *
    cases P with
    | nil => rfl
    | cons a P =>
      have := hf0 a (by simp)
      have e : firstV1 (a :: P) = a := rfl
      rw [e, if_neg (by omega), if_neg (by simp)]
end Go.Proofs.Ytnlfokkljgbaaaa
