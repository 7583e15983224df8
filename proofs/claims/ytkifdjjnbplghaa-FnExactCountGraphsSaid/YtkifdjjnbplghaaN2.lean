/- Cycles of pairs: the program. -/
import Derived.Test.YtkifdjjnbplghaaProg
import Derived.KernelRfl
import Derived.Test.YtkifdjjnbplghaaN1
set_option linter.unusedSimpArgs false
set_option linter.unusedVariables false
set_option maxHeartbeats 4000000
set_option maxRecDepth 100000
namespace Go.Proofs.Ytkifdjjnbplghaa
open Go.Av

/-! The abstract code of functions, printed by program and tied to the program by the kernel. -/
/-- loop.example/g00920/impl.pairCycles -/
abbrev f_impl_pairCycles : Nat := 43
def c_impl_pairCycles : SC :=
 .seq (.reg [
     ⟨(some 2), .mv (.const (.int .i64 0)), none⟩] [0])
 (.seq (.reg [
     ⟨(some 3), .mv (.const (.int .i64 0)), none⟩] [0, 3])
 (.seq (.reg [
     ⟨(some 10), .mkmap 78, none⟩,
     ⟨(some 4), .mv (.tmp 10), none⟩] [0, 3, 4])
 (.seq (.seq (.reg [
     ⟨(some 11), .mv (.tmp 0), none⟩,
     ⟨(some 12), .call 63 [(.tmp 11)], none⟩,
     ⟨(some 13), .mv (.const (.int .i64 0)), none⟩] [0, 3, 4, 12, 13])
 (.block 0 (.loop [0, 3, 4, 12, 13]
   (.seq (.reg [
       ⟨(some 14), .bin .lss (.tmp 13) (.tmp 12), none⟩] [0, 3, 4, 12, 13, 14])
   (.seq (.cond (.tmp 14)
    (.skip)
    (.exit 0))
   (.seq (.block 1 (.seq (.reg [
        ⟨(some 15), .mv (.tmp 13), none⟩,
        ⟨(some 5), .mv (.tmp 15), none⟩] [0, 3, 4, 5, 12, 13])
    (.seq (.reg [
        ⟨(some 16), .mv (.tmp 5), none⟩,
        ⟨(some 17), .bin .add (.tmp 16) (.const (.int .i64 1)), none⟩,
        ⟨(some 6), .mv (.tmp 17), none⟩] [0, 3, 4, 5, 6, 12, 13])
    (.block 2 (.loop [0, 3, 4, 5, 6, 12, 13]
      (.seq (.seq (.reg [
          ⟨(some 18), .mv (.tmp 6), none⟩,
          ⟨(some 19), .mv (.tmp 0), none⟩,
          ⟨(some 20), .call 63 [(.tmp 19)], none⟩,
          ⟨(some 21), .bin .lss (.tmp 18) (.tmp 20), none⟩] [0, 3, 4, 5, 6, 12, 13, 21])
      (.cond (.tmp 21)
       (.skip)
       (.exit 2)))
      (.seq (.block 3 (.seq (.reg [
           ⟨(some 24), .mv (.tmp 5), none⟩,
           ⟨(some 25), .mv (.tmp 6), none⟩,
           ⟨(some 26), .build [(.int .i64 0), (.int .i64 0)] [(0, 1, (.tmp 24)), (1, 1, (.tmp 25))], none⟩,
           ⟨(some 7), .alloc 79 [(.int .i64 0), (.int .i64 0)], none⟩,
           ⟨none, .store 2 (.tmp 7) (.tmp 26), none⟩] [0, 3, 4, 5, 6, 7, 12, 13])
       (.seq (.seq (.reg [
           ⟨(some 27), .mv (.tmp 4), none⟩,
           ⟨(some 28), .load 2 true (.tmp 7), none⟩,
           ⟨(some 29), .mget 1 (.bool false) (.tmp 27) (.tmp 28), none⟩,
           ⟨(some 30), .un .not (.tmp 29), none⟩] [0, 3, 4, 5, 6, 7, 12, 13, 30])
       (.cond (.tmp 30)
        (.reg [
            ⟨(some 31), .mv (.tmp 3), none⟩,
            ⟨(some 32), .bin .add (.tmp 31) (.const (.int .i64 1)), none⟩,
            ⟨(some 3), .mv (.tmp 32), none⟩] [0, 3, 4, 5, 6, 7, 12, 13])
        (.skip)))
       (.block 4 (.loop [0, 3, 4, 5, 6, 7, 12, 13]
         (.seq (.seq (.reg [
             ⟨(some 33), .mv (.tmp 4), none⟩,
             ⟨(some 34), .load 2 true (.tmp 7), none⟩,
             ⟨(some 35), .mget 1 (.bool false) (.tmp 33) (.tmp 34), none⟩,
             ⟨(some 36), .un .not (.tmp 35), none⟩] [0, 3, 4, 5, 6, 7, 12, 13, 36])
         (.cond (.tmp 36)
          (.skip)
          (.exit 4)))
         (.block 5 (.seq (.reg [
              ⟨(some 37), .mv (.tmp 4), none⟩,
              ⟨(some 38), .load 2 true (.tmp 7), none⟩,
              ⟨none, .mput 1 (.tmp 37) (.tmp 38) (.const (.bool true)), none⟩] [0, 3, 4, 5, 6, 7, 12, 13])
          (.seq (.reg [
              ⟨(some 39), .mv (.tmp 0), none⟩,
              ⟨(some 40), .faddr 0 (.tmp 7), none⟩,
              ⟨(some 41), .load 1 false (.tmp 40), none⟩,
              ⟨(some 42), .iaddr 1 (.tmp 39) (.tmp 41), none⟩,
              ⟨(some 43), .load 1 false (.tmp 42), none⟩,
              ⟨(some 44), .mv (.tmp 0), none⟩,
              ⟨(some 45), .faddr 1 (.tmp 7), none⟩,
              ⟨(some 46), .load 1 false (.tmp 45), none⟩,
              ⟨(some 47), .iaddr 1 (.tmp 44) (.tmp 46), none⟩,
              ⟨(some 48), .load 1 false (.tmp 47), none⟩,
              ⟨(some 8), .mv (.tmp 43), none⟩,
              ⟨(some 9), .mv (.tmp 48), none⟩] [0, 3, 4, 5, 6, 7, 8, 9, 12, 13])
          (.reg [
              ⟨(some 49), .mv (.tmp 8), none⟩,
              ⟨(some 50), .mv (.tmp 9), none⟩,
              ⟨(some 51), .mm false (.tmp 49) (.tmp 50), none⟩,
              ⟨(some 52), .mv (.tmp 8), none⟩,
              ⟨(some 53), .mv (.tmp 9), none⟩,
              ⟨(some 54), .mm true (.tmp 52) (.tmp 53), none⟩,
              ⟨(some 55), .build [(.int .i64 0), (.int .i64 0)] [(0, 1, (.tmp 51)), (1, 1, (.tmp 54))], none⟩,
              ⟨none, .store 2 (.tmp 7) (.tmp 55), none⟩] [0, 3, 4, 5, 6, 7, 12, 13]))))))))))
      (.reg [
          ⟨(some 22), .mv (.tmp 6), none⟩,
          ⟨(some 23), .bin .add (.tmp 22) (.const (.int .i64 1)), none⟩,
          ⟨(some 6), .mv (.tmp 23), none⟩] [0, 3, 4, 5, 6, 12, 13]))))))))
   (.reg [
       ⟨(some 56), .bin .add (.tmp 13) (.const (.int .i64 1)), none⟩,
       ⟨(some 13), .mv (.tmp 56), none⟩] [0, 3, 4, 12, 13])))))))
 (.seq (.reg [
     ⟨(some 57), .mv (.tmp 3), none⟩,
     ⟨(some 2), .mv (.tmp 57), none⟩] [2])
 (.ret)))))
theorem s_impl_pairCycles : stripF Try.prog 43 [[0], [0, 3], [0, 3, 4], [0, 3, 4, 12, 13], [0, 3, 4, 12, 13], [0, 3, 4, 12, 13, 14], [0, 3, 4, 5, 12, 13], [0, 3, 4, 5, 6, 12, 13], [0, 3, 4, 5, 6, 12, 13], [0, 3, 4, 5, 6, 12, 13, 21], [0, 3, 4, 5, 6, 7, 12, 13], [0, 3, 4, 5, 6, 7, 12, 13, 30], [0, 3, 4, 5, 6, 7, 12, 13], [0, 3, 4, 5, 6, 7, 12, 13], [0, 3, 4, 5, 6, 7, 12, 13, 36], [0, 3, 4, 5, 6, 7, 12, 13], [0, 3, 4, 5, 6, 7, 8, 9, 12, 13], [0, 3, 4, 5, 6, 7, 12, 13], [0, 3, 4, 5, 6, 12, 13], [0, 3, 4, 12, 13], [2]] = some (c_impl_pairCycles, [.tmp 2], 58) := by kernel_rfl


abbrev tyMP : Nat := 78
abbrev tyA2 : Nat := 79
def seenP (S : List (Int × Int)) : List (MK × Value) := S.map fun x => (MK.p x.1 x.2, Value.bool true)
theorem seenP_snoc (S : List (Int × Int)) (x : Int × Int) : seenP (S ++ [x]) = seenP S ++ [(.p x.1 x.2, .bool true)] := by simp [seenP]
theorem seenP_kind (S : List (Int × Int)) : ∀ p ∈ seenP S, p.1.kind = 1 := by
  intro p hp
  obtain ⟨x, _, rfl⟩ := List.mem_map.1 hp
  rfl
theorem seenP_new {S : List (Int × Int)} {x : Int × Int} (h : x ∉ S) : ∀ p ∈ seenP S, p.1 ≠ .p x.1 x.2 := by
  intro p hp
  obtain ⟨y, hy, rfl⟩ := List.mem_map.1 hp
  intro e
  simp only [MK.p.injEq] at e
  exact h ((Prod.ext e.1 e.2 : y = x) ▸ hy)
theorem seenP_val (S : List (Int × Int)) (x : Int × Int) : mval (seenP S) (.p x.1 x.2) (.bool false) = .bool (decide (x ∈ S)) := by
  unfold mval
  by_cases h : x ∈ S
  · rw [decide_eq_true h]
    cases hf : (seenP S).find? (fun y => decide (y.1 = .p x.1 x.2)) with
    | none =>
      rw [List.find?_eq_none] at hf
      have := hf (.p x.1 x.2, .bool true) (List.mem_map.2 ⟨x, h, rfl⟩)
      simp at this
    | some y =>
      obtain ⟨q, _, rfl⟩ := List.mem_map.1 (List.mem_of_find?_eq_some hf)
      rfl
  · rw [decide_eq_false h]
    have : (seenP S).find? (fun y => decide (y.1 = .p x.1 x.2)) = none := by
      rw [List.find?_eq_none]
      intro y hy
      simpa using seenP_new h y hy
    rw [this]; rfl
theorem mapC_belN {ps : List (MK × Value)} {c : AV} {k : Nat} (h : c ∈ mapC ps) : Bel k c := by
  obtain ⟨x, _, h⟩ := List.mem_flatMap.1 h
  simp only [List.mem_cons, List.not_mem_nil, or_false] at h
  rcases h with rfl | rfl <;> exact .lit _

theorem implPairCycles_fn (n : Nat) (p : List Int) (hn : n ≤ 6) (hn1 : 1 ≤ n) (hp : permOk n p) : PFn Try.prog f_impl_pairCycles [ilS p] (I (cycP p n)) := by
  have hsz := size_fn p
  rw [hp.1] at hsz
  intro H; refine ACalls.introB s_impl_pairCycles (by simp) ?_; intro hB hA; unfold c_impl_pairCycles; simp (config := { maxSteps := 1000000 }) (disch := (first | omega | (simp only [go_sem]; try omega))) only [go_sem, Nat.reduceAdd, Nat.reduceEqDiff, Nat.reduceLeDiff, Nat.reduceMul, Nat.reduceLT, reduceIte, Int.reduceToNat, w64_id, cast_succ]
  repeat (first | (with_reducible first | refine SW.seq ?_ | refine SW.block ?_ | refine SW.rowC ?_ | refine SW.skip ?_ | refine SW.exit ?_ | refine PFn.use (hsz) ?_ | refine PFn.useq (hsz) ?_ | intro _ | refine And.intro (by omega) ?_) | simp (config := { maxSteps := 1000000 }) (disch := (first | omega | (simp only [go_sem]; try omega))) only [go_sem, Nat.reduceAdd, Nat.reduceEqDiff, Nat.reduceLeDiff, Nat.reduceMul, Nat.reduceLT, reduceIte, Int.reduceToNat, w64_id, cast_succ])
  refine SW.loopE (fun E0 H0 q E' H' => ∃ a : Nat, a ≤ n ∧ q = n - a ∧ E' = aput (aput E0 13 (I a)) 3 (I (stP p n a (a + 1)).2) ∧ H' = H ++ [⟨0, tyMP, 0, mapC (seenP (stP p n a (a + 1)).1)⟩]) n ⟨0, by omega, by omega, by rw [stP_zero]; rfl, by rw [stP_zero]; rfl⟩ ?_
  rintro q E' H' ⟨a, ha, rfl, rfl, rfl⟩
  simp (config := { maxSteps := 1000000 }) (disch := (first | omega | (simp only [go_sem]; try omega))) only [go_sem, Nat.reduceAdd, Nat.reduceEqDiff, Nat.reduceLeDiff, Nat.reduceMul, Nat.reduceLT, reduceIte, Int.reduceToNat, w64_id, cast_succ]
  repeat (first | (with_reducible first | refine SW.seq ?_ | refine SW.block ?_ | refine SW.rowC ?_ | refine SW.skip ?_ | refine SW.exit ?_ | intro _ | refine And.intro (by omega) ?_) | simp (config := { maxSteps := 1000000 }) (disch := (first | omega | (simp only [go_sem]; try omega))) only [go_sem, Nat.reduceAdd, Nat.reduceEqDiff, Nat.reduceLeDiff, Nat.reduceMul, Nat.reduceLT, reduceIte, Int.reduceToNat, w64_id, cast_succ])
  (first | refine SW.condD rfl (fun h => ?_) (fun h => ?_) | refine SW.condN rfl (fun h => ?_) (fun h => ?_) | refine SW.condNB rfl (fun h => ?_) (fun h => ?_) | refine SW.condB rfl (fun h => ?_) (fun h => ?_))
  · repeat (first | (with_reducible first | refine SW.seq ?_ | refine SW.block ?_ | refine SW.rowC ?_ | refine SW.skip ?_ | refine SW.exit ?_ | intro _ | refine And.intro (by omega) ?_) | simp (config := { maxSteps := 1000000 }) (disch := (first | omega | (simp only [go_sem]; try omega))) only [go_sem, Nat.reduceAdd, Nat.reduceEqDiff, Nat.reduceLeDiff, Nat.reduceMul, Nat.reduceLT, reduceIte, Int.reduceToNat, w64_id, cast_succ])
    refine SW.loopE (fun E0 H0 q E' H' => ∃ b : Nat, a + 1 ≤ b ∧ b ≤ n ∧ q = n - b ∧ E' = aput (aput E0 6 (I b)) 3 (I (stP p n a b).2) ∧ H' = H ++ [⟨0, tyMP, 0, mapC (seenP (stP p n a b).1)⟩]) (n - (a + 1)) ⟨a + 1, by omega, by omega, by omega, by simp [go_sem], rfl⟩ ?_
    rintro q E' H' ⟨b, hab, hb, rfl, rfl, rfl⟩
    have hst := stP_ok hp hn ha hb
    have hsb := stP_b p n a b hab
    generalize hS : stP p n a b = st at *
    obtain ⟨S, c⟩ := st
    simp only at hst
    simp (config := { maxSteps := 1000000 }) (disch := (first | omega | (simp only [go_sem]; try omega))) only [go_sem, Nat.reduceAdd, Nat.reduceEqDiff, Nat.reduceLeDiff, Nat.reduceMul, Nat.reduceLT, reduceIte, Int.reduceToNat, w64_id, cast_succ]
    repeat (first | (with_reducible first | refine SW.seq ?_ | refine SW.block ?_ | refine SW.rowC ?_ | refine SW.skip ?_ | refine SW.exit ?_ | refine PFn.use (hsz) ?_ | refine PFn.useq (hsz) ?_ | intro _ | refine And.intro (by omega) ?_) | simp (config := { maxSteps := 1000000 }) (disch := (first | omega | (simp only [go_sem]; try omega))) only [go_sem, Nat.reduceAdd, Nat.reduceEqDiff, Nat.reduceLeDiff, Nat.reduceMul, Nat.reduceLT, reduceIte, Int.reduceToNat, w64_id, cast_succ])
    (first | refine SW.condD rfl (fun h2 => ?_) (fun h2 => ?_) | refine SW.condN rfl (fun h2 => ?_) (fun h2 => ?_) | refine SW.condNB rfl (fun h2 => ?_) (fun h2 => ?_) | refine SW.condB rfl (fun h2 => ?_) (fun h2 => ?_))
    · have hx : okP n ((a : Int), (b : Int)) := ⟨by simp, by simp; omega, by simp; omega⟩
      have hv := seenP_val S ((a : Int), (b : Int))
      simp only at hv
      repeat (first | (with_reducible first | refine SW.seq ?_ | refine SW.block ?_ | refine SW.rowC ?_ | refine SW.skip ?_ | refine SW.exit ?_ | intro _ | refine And.intro (by omega) ?_) | simp (config := { maxSteps := 1000000 }) (disch := (first | omega | (simp only [go_sem]; try omega))) only [go_sem, Nat.reduceAdd, Nat.reduceEqDiff, Nat.reduceLeDiff, Nat.reduceMul, Nat.reduceLT, reduceIte, Int.reduceToNat, w64_id, cast_succ])
      refine MgetW.of _ _ (ty := tyMP) (ps := seenP S) (key := .p (a : Int) (b : Int)) (by simp) rfl rfl (seenP_kind _) ?_
      rw [hv]
      by_cases hm : ((a : Int), (b : Int)) ∈ S
      · have hs1 : stepP p (S, c) ((a : Int), (b : Int)) = (S, c) := by unfold stepP; rw [if_pos hm]
        rw [decide_eq_true hm]
        repeat (first | (with_reducible first | refine SW.seq ?_ | refine SW.block ?_ | refine SW.rowC ?_ | refine SW.skip ?_ | refine SW.exit ?_ | intro _ | refine And.intro (by omega) ?_) | simp (config := { maxSteps := 1000000 }) (disch := (first | omega | (simp only [go_sem]; try omega))) only [go_sem, Nat.reduceAdd, Nat.reduceEqDiff, Nat.reduceLeDiff, Nat.reduceMul, Nat.reduceLT, reduceIte, Int.reduceToNat, w64_id, cast_succ])
        refine SW.condF rfl ?_
        repeat (first | (with_reducible first | refine SW.seq ?_ | refine SW.block ?_ | refine SW.rowC ?_ | refine SW.skip ?_ | refine SW.exit ?_ | intro _ | refine And.intro (by omega) ?_) | simp (config := { maxSteps := 1000000 }) (disch := (first | omega | (simp only [go_sem]; try omega))) only [go_sem, Nat.reduceAdd, Nat.reduceEqDiff, Nat.reduceLeDiff, Nat.reduceMul, Nat.reduceLT, reduceIte, Int.reduceToNat, w64_id, cast_succ])
        refine SW.loopE (fun E0 H0 q E' H2 => q = 0 ∧ E' = E0 ∧ H2 = H0) 0 ⟨rfl, rfl, rfl⟩ ?_
        rintro q E' H2 ⟨rfl, rfl, rfl⟩
        simp (config := { maxSteps := 1000000 }) (disch := (first | omega | (simp only [go_sem]; try omega))) only [go_sem, Nat.reduceAdd, Nat.reduceEqDiff, Nat.reduceLeDiff, Nat.reduceMul, Nat.reduceLT, reduceIte, Int.reduceToNat, w64_id, cast_succ]
        repeat (first | (with_reducible first | refine SW.seq ?_ | refine SW.block ?_ | refine SW.rowC ?_ | refine SW.skip ?_ | refine SW.exit ?_ | intro _ | refine And.intro (by omega) ?_) | simp (config := { maxSteps := 1000000 }) (disch := (first | omega | (simp only [go_sem]; try omega))) only [go_sem, Nat.reduceAdd, Nat.reduceEqDiff, Nat.reduceLeDiff, Nat.reduceMul, Nat.reduceLT, reduceIte, Int.reduceToNat, w64_id, cast_succ])
        refine MgetW.of _ _ (ty := tyMP) (ps := seenP S) (key := .p (a : Int) (b : Int)) (by simp) rfl rfl (seenP_kind _) ?_
        rw [hv, decide_eq_true hm]
        repeat (first | (with_reducible first | refine SW.seq ?_ | refine SW.block ?_ | refine SW.rowC ?_ | refine SW.skip ?_ | refine SW.exit ?_ | intro _ | refine And.intro (by omega) ?_) | simp (config := { maxSteps := 1000000 }) (disch := (first | omega | (simp only [go_sem]; try omega))) only [go_sem, Nat.reduceAdd, Nat.reduceEqDiff, Nat.reduceLeDiff, Nat.reduceMul, Nat.reduceLT, reduceIte, Int.reduceToNat, w64_id, cast_succ])
        refine SW.condF rfl ?_
        repeat (first | (with_reducible first | refine SW.seq ?_ | refine SW.block ?_ | refine SW.rowC ?_ | refine SW.skip ?_ | refine SW.exit ?_ | intro _ | refine And.intro (by omega) ?_) | simp (config := { maxSteps := 1000000 }) (disch := (first | omega | (simp only [go_sem]; try omega))) only [go_sem, Nat.reduceAdd, Nat.reduceEqDiff, Nat.reduceLeDiff, Nat.reduceMul, Nat.reduceLT, reduceIte, Int.reduceToNat, w64_id, cast_succ])
        refine SLoop.nextT 1 (n - (b + 1)) hB (by omega) (by omega) (by simp) ?_ ?_ ⟨b + 1, by omega, by omega, rfl, ?_, ?_⟩
        · (simp only [go_sem, Nat.reduceAdd, Nat.reduceEqDiff, reduceIte, go_sem, and_self, and_true, true_and, implies_true, List.take_succ_cons, List.take_zero, and_true, true_and]; try omega)
        · simp only [List.take_succ_cons, List.take_zero, BB_cons, BB_nil, and_true]
          exact fun c hc => mapC_belN hc
        · rw [hsb, hs1]; simp [go_sem]
        · rw [hsb, hs1]; rfl
      · have hs1 : stepP p (S, c) ((a : Int), (b : Int)) = (walkP p S ((a : Int), (b : Int)), c + 1) := by unfold stepP; rw [if_neg hm]
        rw [decide_eq_false hm]
        repeat (first | (with_reducible first | refine SW.seq ?_ | refine SW.block ?_ | refine SW.rowC ?_ | refine SW.skip ?_ | refine SW.exit ?_ | intro _ | refine And.intro (by omega) ?_) | simp (config := { maxSteps := 1000000 }) (disch := (first | omega | (simp only [go_sem]; try omega))) only [go_sem, Nat.reduceAdd, Nat.reduceEqDiff, Nat.reduceLeDiff, Nat.reduceMul, Nat.reduceLT, reduceIte, Int.reduceToNat, w64_id, cast_succ])
        refine SW.condT rfl ?_
        repeat (first | (with_reducible first | refine SW.seq ?_ | refine SW.block ?_ | refine SW.rowC ?_ | refine SW.skip ?_ | refine SW.exit ?_ | intro _ | refine And.intro (by omega) ?_) | simp (config := { maxSteps := 1000000 }) (disch := (first | omega | (simp only [go_sem]; try omega))) only [go_sem, Nat.reduceAdd, Nat.reduceEqDiff, Nat.reduceLeDiff, Nat.reduceMul, Nat.reduceLT, reduceIte, Int.reduceToNat, w64_id, cast_succ])
        refine SW.loopE (fun E0 H0 q E' H2 => ∃ (T : List (Int × Int)) (x y : Int), metP n T ∧ okP n (x, y) ∧ q = 37 - T.length ∧ walkP p T (x, y) = walkP p S ((a : Int), (b : Int)) ∧ E' = E0 ∧ H2 = H ++ [⟨0, tyMP, 0, mapC (seenP T)⟩, ⟨0, tyA2, 1, [I x, I y]⟩]) (37 - S.length) ⟨S, a, b, hst.1, hx, rfl, rfl, rfl, rfl⟩ ?_
        rintro q E' H2 ⟨T, x, y, hT, hxy, rfl, hw, rfl, rfl⟩
        have hTl := hT.len hn
        have hv2 := seenP_val T (x, y)
        simp only at hv2
        simp (config := { maxSteps := 1000000 }) (disch := (first | omega | (simp only [go_sem]; try omega))) only [go_sem, Nat.reduceAdd, Nat.reduceEqDiff, Nat.reduceLeDiff, Nat.reduceMul, Nat.reduceLT, reduceIte, Int.reduceToNat, w64_id, cast_succ]
        repeat (first | (with_reducible first | refine SW.seq ?_ | refine SW.block ?_ | refine SW.rowC ?_ | refine SW.skip ?_ | refine SW.exit ?_ | intro _ | refine And.intro (by omega) ?_) | simp (config := { maxSteps := 1000000 }) (disch := (first | omega | (simp only [go_sem]; try omega))) only [go_sem, Nat.reduceAdd, Nat.reduceEqDiff, Nat.reduceLeDiff, Nat.reduceMul, Nat.reduceLT, reduceIte, Int.reduceToNat, w64_id, cast_succ])
        refine MgetW.of _ _ (ty := tyMP) (ps := seenP T) (key := .p x y) (by simp) rfl rfl (seenP_kind _) ?_
        rw [hv2]
        by_cases hm2 : (x, y) ∈ T
        · rw [walkP_in hm2] at hw
          rw [decide_eq_true hm2]
          repeat (first | (with_reducible first | refine SW.seq ?_ | refine SW.block ?_ | refine SW.rowC ?_ | refine SW.skip ?_ | refine SW.exit ?_ | intro _ | refine And.intro (by omega) ?_) | simp (config := { maxSteps := 1000000 }) (disch := (first | omega | (simp only [go_sem]; try omega))) only [go_sem, Nat.reduceAdd, Nat.reduceEqDiff, Nat.reduceLeDiff, Nat.reduceMul, Nat.reduceLT, reduceIte, Int.reduceToNat, w64_id, cast_succ])
          refine SW.condF rfl ?_
          repeat (first | (with_reducible first | refine SW.seq ?_ | refine SW.block ?_ | refine SW.rowC ?_ | refine SW.skip ?_ | refine SW.exit ?_ | intro _ | refine And.intro (by omega) ?_) | simp (config := { maxSteps := 1000000 }) (disch := (first | omega | (simp only [go_sem]; try omega))) only [go_sem, Nat.reduceAdd, Nat.reduceEqDiff, Nat.reduceLeDiff, Nat.reduceMul, Nat.reduceLT, reduceIte, Int.reduceToNat, w64_id, cast_succ])
          refine SLoop.nextT 1 (n - (b + 1)) hB (by omega) (by omega) (by simp) ?_ ?_ ⟨b + 1, by omega, by omega, rfl, ?_, ?_⟩
          · (simp only [go_sem, Nat.reduceAdd, Nat.reduceEqDiff, reduceIte, go_sem, and_self, and_true, true_and, implies_true, List.take_succ_cons, List.take_zero, and_true, true_and]; try omega)
          · simp only [List.take_succ_cons, List.take_zero, BB_cons, BB_nil, and_true]
            exact fun c hc => mapC_belN hc
          · rw [hsb, hs1]; simp [go_sem]
          · rw [hsb, hs1, ← hw]; rfl
        · rw [decide_eq_false hm2]
          have hsnc := hT.snoc hxy hm2
          have hnx := nx_ok hp hxy
          have hwo := walkP_out (p := p) hm2 hTl
          repeat (first | (with_reducible first | refine SW.seq ?_ | refine SW.block ?_ | refine SW.rowC ?_ | refine SW.skip ?_ | refine SW.exit ?_ | intro _ | refine And.intro (by omega) ?_) | simp (config := { maxSteps := 1000000 }) (disch := (first | omega | (simp only [go_sem]; try omega))) only [go_sem, Nat.reduceAdd, Nat.reduceEqDiff, Nat.reduceLeDiff, Nat.reduceMul, Nat.reduceLT, reduceIte, Int.reduceToNat, w64_id, cast_succ])
          refine SW.condT rfl ?_
          repeat (first | (with_reducible first | refine SW.seq ?_ | refine SW.block ?_ | refine SW.rowC ?_ | refine SW.skip ?_ | refine SW.exit ?_ | intro _ | refine And.intro (by omega) ?_) | simp (config := { maxSteps := 1000000 }) (disch := (first | omega | (simp only [go_sem]; try omega))) only [go_sem, Nat.reduceAdd, Nat.reduceEqDiff, Nat.reduceLeDiff, Nat.reduceMul, Nat.reduceLT, reduceIte, Int.reduceToNat, w64_id, cast_succ])
          refine MputW.of _ _ (ty := tyMP) (ps := seenP T) (key := .p x y) (by simp) rfl rfl (seenP_kind _) (seenP_new hm2) ?_
          obtain ⟨X, rfl⟩ := Int.eq_ofNat_of_zero_le hxy.1
          obtain ⟨Y, rfl⟩ := Int.eq_ofNat_of_zero_le (show 0 ≤ y by have := hxy.1; have := hxy.2.1; simp only at *; omega)
          have hX : X < n := by have := hxy.2.1; have := hxy.2.2; simp only at *; omega
          have hY : Y < n := by have := hxy.2.2; simp only at *; omega
          have hpl := hp.1
          have gX : p.getD X 0 = pa p (X : Int) := rfl
          have gY : p.getD Y 0 = pa p (Y : Int) := rfl
          repeat (first | (with_reducible first | refine SW.seq ?_ | refine SW.block ?_ | refine SW.rowC ?_ | refine SW.skip ?_ | refine SW.exit ?_ | intro _ | refine And.intro (by omega) ?_) | simp (config := { maxSteps := 1000000 }) (disch := (first | omega | (simp only [go_sem]; try omega))) only [go_sem, Nat.reduceAdd, Nat.reduceEqDiff, Nat.reduceLeDiff, Nat.reduceMul, Nat.reduceLT, reduceIte, Int.reduceToNat, w64_id, cast_succ, gX, gY])
          have hn1' : (nx p ((X : Int), (Y : Int))).1 = if pa p (Y : Int) < pa p (X : Int) then pa p (Y : Int) else pa p (X : Int) := by
            simp only [nx]
            by_cases h1 : pa p (X : Int) < pa p (Y : Int)
            · rw [if_pos h1, if_neg (by omega)]
            · rw [if_neg h1]
              by_cases h2 : pa p (Y : Int) < pa p (X : Int)
              · rw [if_pos h2]
              · rw [if_neg h2]; omega
          refine SLoop.next (37 - (T.length + 1)) (by omega) ⟨T ++ [((X : Int), (Y : Int))], (nx p ((X : Int), (Y : Int))).1, (nx p ((X : Int), (Y : Int))).2, hsnc, hnx, by simp, hwo.symm.trans hw, rfl, ?_⟩
          rw [seenP_snoc, hn1']
          rfl
    · have : b = n := by omega
      subst this
      repeat (first | (with_reducible first | refine SW.seq ?_ | refine SW.block ?_ | refine SW.rowC ?_ | refine SW.skip ?_ | refine SW.exit ?_ | intro _ | refine And.intro (by omega) ?_) | simp (config := { maxSteps := 1000000 }) (disch := (first | omega | (simp only [go_sem]; try omega))) only [go_sem, Nat.reduceAdd, Nat.reduceEqDiff, Nat.reduceLeDiff, Nat.reduceMul, Nat.reduceLT, reduceIte, Int.reduceToNat, w64_id, cast_succ])
      refine SLoop.next (b - (a + 1)) (by omega) ⟨a + 1, by omega, rfl, ?_, ?_⟩
      · rw [stP_a, hS]; simp [go_sem]
      · rw [stP_a, hS]
  · have : a = n := by omega
    subst this
    repeat (first | (with_reducible first | refine SW.seq ?_ | refine SW.block ?_ | refine SW.rowC ?_ | refine SW.skip ?_ | refine SW.exit ?_ | intro _ | refine And.intro (by omega) ?_) | simp (config := { maxSteps := 1000000 }) (disch := (first | omega | (simp only [go_sem]; try omega))) only [go_sem, Nat.reduceAdd, Nat.reduceEqDiff, Nat.reduceLeDiff, Nat.reduceMul, Nat.reduceLT, reduceIte, Int.reduceToNat, w64_id, cast_succ])
    refine SW.ret ?_; (try simp only [go_sem]); (first | refine FunPost.one ?_ | refine FunPost.two ?_ | refine FunPost.three ?_); (try simp (config := { maxSteps := 1000000 }) (disch := (first | omega | (simp only [go_sem]; try omega))) only [go_sem, Nat.reduceAdd, Nat.reduceEqDiff, Nat.reduceLeDiff, Nat.reduceMul, Nat.reduceLT, reduceIte, Int.reduceToNat, w64_id, cast_succ]); (first | (with_reducible refine GR.drop ?_ ?_; (simp only [go_sem, and_self, and_true, true_and, implies_true, List.take_succ_cons, List.take_zero])) | refine GR.of ?_); refine ⟨?_, rfl⟩; (try with_reducible rfl)
    rfl
end Go.Proofs.Ytkifdjjnbplghaa
