/- Cycles of pairs: the reference; numbers of graphs. -/
import Derived.Test.YtkifdjjnbplghaaProg
import Derived.KernelRfl
import Derived.Test.YtkifdjjnbplghaaN2
import Derived.Test.YtkifdjjnbplghaaK63
set_option linter.unusedSimpArgs false
set_option linter.unusedVariables false
set_option maxHeartbeats 4000000
set_option maxRecDepth 100000
namespace Go.Proofs.Ytkifdjjnbplghaa
open Go.Av

/-! The abstract code of functions, printed by program and tied to the program by the kernel. -/
/-- loop.example/g00920/spec.l27Cycles -/
abbrev f_spec_l27Cycles : Nat := 40
def c_spec_l27Cycles : SC :=
 .seq (.reg [
     ⟨(some 2), .mv (.const (.int .i64 0)), none⟩] [0])
 (.seq (.reg [
     ⟨(some 9), .mv (.tmp 0), none⟩,
     ⟨(some 10), .len (.tmp 9), none⟩,
     ⟨(some 3), .mv (.tmp 10), none⟩] [0, 3])
 (.seq (.reg [
     ⟨(some 11), .mv (.tmp 3), none⟩,
     ⟨(some 12), .mv (.tmp 3), none⟩,
     ⟨(some 13), .bin .mul (.tmp 11) (.tmp 12), none⟩,
     ⟨(some 14), .mslice 4 1 (.bool false) (.tmp 13) (.tmp 13), none⟩,
     ⟨(some 4), .mv (.tmp 14), none⟩] [0, 3, 4])
 (.seq (.reg [
     ⟨(some 5), .mv (.const (.int .i64 0)), none⟩] [0, 3, 4, 5])
 (.seq (.seq (.reg [
     ⟨(some 6), .mv (.const (.int .i64 0)), none⟩] [0, 3, 4, 5, 6])
 (.block 0 (.loop [0, 3, 4, 5, 6]
   (.seq (.seq (.reg [
       ⟨(some 15), .mv (.tmp 6), none⟩,
       ⟨(some 16), .mv (.tmp 3), none⟩,
       ⟨(some 17), .bin .lss (.tmp 15) (.tmp 16), none⟩] [0, 3, 4, 5, 6, 17])
   (.cond (.tmp 17)
    (.skip)
    (.exit 0)))
   (.seq (.block 1 (.seq (.reg [
        ⟨(some 20), .mv (.tmp 6), none⟩,
        ⟨(some 21), .bin .add (.tmp 20) (.const (.int .i64 1)), none⟩,
        ⟨(some 7), .mv (.tmp 21), none⟩] [0, 3, 4, 5, 6, 7])
    (.block 2 (.loop [0, 3, 4, 5, 6, 7]
      (.seq (.seq (.reg [
          ⟨(some 22), .mv (.tmp 7), none⟩,
          ⟨(some 23), .mv (.tmp 3), none⟩,
          ⟨(some 24), .bin .lss (.tmp 22) (.tmp 23), none⟩] [0, 3, 4, 5, 6, 7, 24])
      (.cond (.tmp 24)
       (.skip)
       (.exit 2)))
      (.seq (.block 3 (.seq (.seq (.reg [
           ⟨(some 27), .mv (.tmp 4), none⟩,
           ⟨(some 28), .mv (.tmp 6), none⟩,
           ⟨(some 29), .mv (.tmp 3), none⟩,
           ⟨(some 30), .bin .mul (.tmp 28) (.tmp 29), none⟩,
           ⟨(some 31), .mv (.tmp 7), none⟩,
           ⟨(some 32), .bin .add (.tmp 30) (.tmp 31), none⟩,
           ⟨(some 33), .iaddr 1 (.tmp 27) (.tmp 32), none⟩,
           ⟨(some 34), .load 1 false (.tmp 33), none⟩] [0, 3, 4, 5, 6, 7, 34])
       (.cond (.tmp 34)
        (.exit 3)
        (.skip)))
       (.seq (.reg [
           ⟨(some 35), .mv (.tmp 5), none⟩,
           ⟨(some 36), .bin .add (.tmp 35) (.const (.int .i64 1)), none⟩,
           ⟨(some 5), .mv (.tmp 36), none⟩] [0, 3, 4, 5, 6, 7])
       (.seq (.reg [
           ⟨(some 37), .mv (.tmp 6), none⟩,
           ⟨(some 38), .mv (.tmp 7), none⟩,
           ⟨(some 39), .call 64 [(.tmp 37), (.tmp 38)], none⟩,
           ⟨(some 8), .mv (.tmp 39), none⟩] [0, 3, 4, 5, 6, 7, 8])
       (.block 4 (.loop [0, 3, 4, 5, 6, 7, 8]
         (.seq (.seq (.reg [
             ⟨(some 40), .mv (.tmp 4), none⟩,
             ⟨(some 41), .mv (.tmp 8), none⟩,
             ⟨(some 42), .iaddr 1 (.tmp 41) (.const (.int .i64 0)), none⟩,
             ⟨(some 43), .load 1 false (.tmp 42), none⟩,
             ⟨(some 44), .mv (.tmp 3), none⟩,
             ⟨(some 45), .bin .mul (.tmp 43) (.tmp 44), none⟩,
             ⟨(some 46), .mv (.tmp 8), none⟩,
             ⟨(some 47), .iaddr 1 (.tmp 46) (.const (.int .i64 1)), none⟩,
             ⟨(some 48), .load 1 false (.tmp 47), none⟩,
             ⟨(some 49), .bin .add (.tmp 45) (.tmp 48), none⟩,
             ⟨(some 50), .iaddr 1 (.tmp 40) (.tmp 49), none⟩,
             ⟨(some 51), .load 1 false (.tmp 50), none⟩,
             ⟨(some 52), .un .not (.tmp 51), none⟩] [0, 3, 4, 5, 6, 7, 8, 52])
         (.cond (.tmp 52)
          (.skip)
          (.exit 4)))
         (.block 5 (.seq (.reg [
              ⟨(some 53), .mv (.tmp 4), none⟩,
              ⟨(some 54), .mv (.tmp 8), none⟩,
              ⟨(some 55), .iaddr 1 (.tmp 54) (.const (.int .i64 0)), none⟩,
              ⟨(some 56), .load 1 false (.tmp 55), none⟩,
              ⟨(some 57), .mv (.tmp 3), none⟩,
              ⟨(some 58), .bin .mul (.tmp 56) (.tmp 57), none⟩,
              ⟨(some 59), .mv (.tmp 8), none⟩,
              ⟨(some 60), .iaddr 1 (.tmp 59) (.const (.int .i64 1)), none⟩,
              ⟨(some 61), .load 1 false (.tmp 60), none⟩,
              ⟨(some 62), .bin .add (.tmp 58) (.tmp 61), none⟩,
              ⟨(some 63), .iaddr 1 (.tmp 53) (.tmp 62), none⟩,
              ⟨none, .store 1 (.tmp 63) (.const (.bool true)), none⟩] [0, 3, 4, 5, 6, 7, 8])
          (.reg [
              ⟨(some 64), .mv (.tmp 0), none⟩,
              ⟨(some 65), .mv (.tmp 8), none⟩,
              ⟨(some 66), .iaddr 1 (.tmp 65) (.const (.int .i64 0)), none⟩,
              ⟨(some 67), .load 1 false (.tmp 66), none⟩,
              ⟨(some 68), .iaddr 1 (.tmp 64) (.tmp 67), none⟩,
              ⟨(some 69), .load 1 false (.tmp 68), none⟩,
              ⟨(some 70), .mv (.tmp 0), none⟩,
              ⟨(some 71), .mv (.tmp 8), none⟩,
              ⟨(some 72), .iaddr 1 (.tmp 71) (.const (.int .i64 1)), none⟩,
              ⟨(some 73), .load 1 false (.tmp 72), none⟩,
              ⟨(some 74), .iaddr 1 (.tmp 70) (.tmp 73), none⟩,
              ⟨(some 75), .load 1 false (.tmp 74), none⟩,
              ⟨(some 76), .qcall 64 [(.tmp 69), (.tmp 75)], none⟩,
              ⟨(some 8), .mv (.tmp 76), none⟩] [0, 3, 4, 5, 6, 7, 8]))))))))))
      (.reg [
          ⟨(some 25), .mv (.tmp 7), none⟩,
          ⟨(some 26), .bin .add (.tmp 25) (.const (.int .i64 1)), none⟩,
          ⟨(some 7), .mv (.tmp 26), none⟩] [0, 3, 4, 5, 6, 7])))))))
   (.reg [
       ⟨(some 18), .mv (.tmp 6), none⟩,
       ⟨(some 19), .bin .add (.tmp 18) (.const (.int .i64 1)), none⟩,
       ⟨(some 6), .mv (.tmp 19), none⟩] [0, 3, 4, 5, 6]))))))
 (.seq (.reg [
     ⟨(some 77), .mv (.tmp 5), none⟩,
     ⟨(some 2), .mv (.tmp 77), none⟩] [2])
 (.ret))))))
theorem s_spec_l27Cycles : stripF Try.prog 40 [[0], [0, 3], [0, 3, 4], [0, 3, 4, 5], [0, 3, 4, 5, 6], [0, 3, 4, 5, 6], [0, 3, 4, 5, 6, 17], [0, 3, 4, 5, 6, 7], [0, 3, 4, 5, 6, 7], [0, 3, 4, 5, 6, 7, 24], [0, 3, 4, 5, 6, 7, 34], [0, 3, 4, 5, 6, 7], [0, 3, 4, 5, 6, 7, 8], [0, 3, 4, 5, 6, 7, 8], [0, 3, 4, 5, 6, 7, 8, 52], [0, 3, 4, 5, 6, 7, 8], [0, 3, 4, 5, 6, 7, 8], [0, 3, 4, 5, 6, 7], [0, 3, 4, 5, 6], [2]] = some (c_spec_l27Cycles, [.tmp 2], 78) := by kernel_rfl

/-- loop.example/g00920/spec.l14Pair -/
abbrev f_spec_l14Pair : Nat := 64
def c_spec_l14Pair : SC :=
 .seq (.reg [
     ⟨(some 4), .mv (.const (.slice none 0 0)), none⟩] [0, 1])
 (.seq (.seq (.reg [
     ⟨(some 5), .mv (.tmp 0), none⟩,
     ⟨(some 6), .mv (.tmp 1), none⟩,
     ⟨(some 7), .bin .lss (.tmp 5) (.tmp 6), none⟩] [0, 1, 7])
 (.cond (.tmp 7)
  (.seq (.reg [
      ⟨(some 8), .mv (.tmp 0), none⟩,
      ⟨(some 9), .mv (.tmp 1), none⟩,
      ⟨(some 10), .bslice 2 1 2 [(.int .i64 0), (.int .i64 0)] [(0, (.tmp 8)), (1, (.tmp 9))], none⟩,
      ⟨(some 4), .mv (.tmp 10), none⟩] [4])
  (.ret))
  (.skip)))
 (.seq (.reg [
     ⟨(some 11), .mv (.tmp 1), none⟩,
     ⟨(some 12), .mv (.tmp 0), none⟩,
     ⟨(some 13), .bslice 2 1 2 [(.int .i64 0), (.int .i64 0)] [(0, (.tmp 11)), (1, (.tmp 12))], none⟩,
     ⟨(some 4), .mv (.tmp 13), none⟩] [4])
 (.ret)))
theorem s_spec_l14Pair : stripF Try.prog 64 [[0, 1], [0, 1, 7], [4], [4]] = some (c_spec_l14Pair, [.tmp 4], 14) := by kernel_rfl


def seenB (n : Nat) (S : List (Int × Int)) : List Bool := (List.range (n * n)).map fun i => decide ((((i / n : Nat) : Int), ((i % n : Nat) : Int)) ∈ S)
theorem seenB_len (n : Nat) (S : List (Int × Int)) : (seenB n S).length = n * n := by simp [seenB]
theorem idx_lt {n X Y : Nat} (hX : X < n) (hY : Y < n) : X * n + Y < n * n := by
  have : (X + 1) * n ≤ n * n := Nat.mul_le_mul_right n hX
  rw [Nat.add_mul] at this; omega
theorem seenB_get {n : Nat} (S : List (Int × Int)) {X Y : Nat} (hX : X < n) (hY : Y < n) : (seenB n S).getD (X * n + Y) false = decide (((X : Int), (Y : Int)) ∈ S) := by
  have hi := idx_lt hX hY
  have e1 : (X * n + Y) / n = X := by rw [Nat.add_comm, Nat.add_mul_div_right _ _ (by omega), Nat.div_eq_of_lt hY]; omega
  have e2 : (X * n + Y) % n = Y := by rw [Nat.add_comm, Nat.add_mul_mod_self_right, Nat.mod_eq_of_lt hY]
  unfold seenB
  rw [List.getD_eq_getElem?_getD, List.getElem?_map, List.getElem?_range hi]
  simp only [Option.map_some, Option.getD_some, e1, e2]
theorem seenB_set {n : Nat} (S : List (Int × Int)) {X Y : Nat} (hX : X < n) (hY : Y < n) : (seenB n S).set (X * n + Y) true = seenB n (S ++ [((X : Int), (Y : Int))]) := by
  have hi := idx_lt hX hY
  apply List.ext_getElem?
  intro i
  rw [List.getElem?_set]
  by_cases h : X * n + Y = i
  · subst h
    have e1 : (X * n + Y) / n = X := by rw [Nat.add_comm, Nat.add_mul_div_right _ _ (by omega), Nat.div_eq_of_lt hY]; omega
    have e2 : (X * n + Y) % n = Y := by rw [Nat.add_comm, Nat.add_mul_mod_self_right, Nat.mod_eq_of_lt hY]
    rw [if_pos rfl, if_pos (by rw [seenB_len]; exact hi)]
    unfold seenB
    rw [List.getElem?_map, List.getElem?_range hi]
    simp only [Option.map_some, e1, e2]
    simp
  · rw [if_neg h]
    unfold seenB
    rw [List.getElem?_map, List.getElem?_map]
    by_cases hin : i < n * n
    · rw [List.getElem?_range hin]
      simp only [Option.map_some, Option.some.injEq, List.mem_append, List.mem_singleton, decide_eq_decide]
      refine ⟨.inl, fun hh => hh.resolve_right (fun e => h ?_)⟩
      simp only [Prod.mk.injEq] at e
      have g1 : i / n = X := by omega
      have g2 : i % n = Y := by omega
      have := Nat.div_add_mod i n
      rw [g1, g2, Nat.mul_comm] at this
      exact this
    · rw [List.getElem?_eq_none (by simpa using hin)]
      rfl
theorem l14Pair_fn (a b : Int) : PFn Try.prog f_spec_l14Pair [I a, I b] (ilS (if a < b then [a, b] else [b, a])) := by
  intro H; refine ACalls.introB s_spec_l14Pair (by simp) ?_; intro hB hA; unfold c_spec_l14Pair; simp (config := { maxSteps := 1000000 }) (disch := (first | omega | (simp only [go_sem]; try omega))) only [go_sem, Nat.reduceAdd, Nat.reduceEqDiff, Nat.reduceLeDiff, Nat.reduceMul, Nat.reduceLT, reduceIte, Int.reduceToNat, w64_id, cast_succ]
  repeat (first | (with_reducible first | refine SW.seq ?_ | refine SW.block ?_ | refine SW.rowC ?_ | refine SW.skip ?_ | refine SW.exit ?_ | intro _ | refine And.intro (by omega) ?_) | simp (config := { maxSteps := 1000000 }) (disch := (first | omega | (simp only [go_sem]; try omega))) only [go_sem, Nat.reduceAdd, Nat.reduceEqDiff, Nat.reduceLeDiff, Nat.reduceMul, Nat.reduceLT, reduceIte, Int.reduceToNat, w64_id, cast_succ])
  by_cases h : a < b
  · rw [if_pos h]
    have d := decide_eq_true h
    repeat (first | (with_reducible first | refine SW.seq ?_ | refine SW.block ?_ | refine SW.rowC ?_ | refine SW.skip ?_ | refine SW.exit ?_ | intro _ | refine And.intro (by omega) ?_) | simp (config := { maxSteps := 1000000 }) (disch := (first | omega | (simp only [go_sem]; try omega))) only [go_sem, Nat.reduceAdd, Nat.reduceEqDiff, Nat.reduceLeDiff, Nat.reduceMul, Nat.reduceLT, reduceIte, Int.reduceToNat, w64_id, cast_succ, d])
    refine SW.condT rfl ?_
    repeat (first | (with_reducible first | refine SW.seq ?_ | refine SW.block ?_ | refine SW.rowC ?_ | refine SW.skip ?_ | refine SW.exit ?_ | intro _ | refine And.intro (by omega) ?_) | simp (config := { maxSteps := 1000000 }) (disch := (first | omega | (simp only [go_sem]; try omega))) only [go_sem, Nat.reduceAdd, Nat.reduceEqDiff, Nat.reduceLeDiff, Nat.reduceMul, Nat.reduceLT, reduceIte, Int.reduceToNat, w64_id, cast_succ])
    refine SW.ret ?_; (try simp only [go_sem]); (first | refine FunPost.one ?_ | refine FunPost.two ?_ | refine FunPost.three ?_); (try simp (config := { maxSteps := 1000000 }) (disch := (first | omega | (simp only [go_sem]; try omega))) only [go_sem, Nat.reduceAdd, Nat.reduceEqDiff, Nat.reduceLeDiff, Nat.reduceMul, Nat.reduceLT, reduceIte, Int.reduceToNat, w64_id, cast_succ])
    exact GR.froz (froz_rowI (ver := 0) (ty := 2) (xs := [a, b]) (Nat.le_refl _) (by simp)) ⟨rfl, rfl⟩
  · rw [if_neg h]
    have d := decide_eq_false h
    repeat (first | (with_reducible first | refine SW.seq ?_ | refine SW.block ?_ | refine SW.rowC ?_ | refine SW.skip ?_ | refine SW.exit ?_ | intro _ | refine And.intro (by omega) ?_) | simp (config := { maxSteps := 1000000 }) (disch := (first | omega | (simp only [go_sem]; try omega))) only [go_sem, Nat.reduceAdd, Nat.reduceEqDiff, Nat.reduceLeDiff, Nat.reduceMul, Nat.reduceLT, reduceIte, Int.reduceToNat, w64_id, cast_succ, d])
    refine SW.condF rfl ?_
    repeat (first | (with_reducible first | refine SW.seq ?_ | refine SW.block ?_ | refine SW.rowC ?_ | refine SW.skip ?_ | refine SW.exit ?_ | intro _ | refine And.intro (by omega) ?_) | simp (config := { maxSteps := 1000000 }) (disch := (first | omega | (simp only [go_sem]; try omega))) only [go_sem, Nat.reduceAdd, Nat.reduceEqDiff, Nat.reduceLeDiff, Nat.reduceMul, Nat.reduceLT, reduceIte, Int.reduceToNat, w64_id, cast_succ])
    refine SW.ret ?_; (try simp only [go_sem]); (first | refine FunPost.one ?_ | refine FunPost.two ?_ | refine FunPost.three ?_); (try simp (config := { maxSteps := 1000000 }) (disch := (first | omega | (simp only [go_sem]; try omega))) only [go_sem, Nat.reduceAdd, Nat.reduceEqDiff, Nat.reduceLeDiff, Nat.reduceMul, Nat.reduceLT, reduceIte, Int.reduceToNat, w64_id, cast_succ])
    exact GR.froz (froz_rowI (ver := 0) (ty := 2) (xs := [b, a]) (Nat.le_refl _) (by simp)) ⟨rfl, rfl⟩

theorem l27Cycles_fn (n : Nat) (p : List Int) (hn : n ≤ 6) (hn1 : 1 ≤ n) (hp : permOk n p) : PFn Try.prog f_spec_l27Cycles [ilS p] (I (cycP p n)) := by
  have hpl := hp.1
  have hnn : n * n ≤ 36 := Nat.mul_le_mul hn hn
  have enn : (n : Int) * (n : Int) = ((n * n : Nat) : Int) := by simp
  intro H; refine ACalls.introB s_spec_l27Cycles (by simp) ?_; intro hB hA; unfold c_spec_l27Cycles; simp (config := { maxSteps := 1000000 }) (disch := (first | omega | (simp only [go_sem]; try omega))) only [go_sem, Nat.reduceAdd, Nat.reduceEqDiff, Nat.reduceLeDiff, Nat.reduceMul, Nat.reduceLT, reduceIte, Int.reduceToNat, w64_id, cast_succ]
  repeat (first | (with_reducible first | refine SW.seq ?_ | refine SW.block ?_ | refine SW.rowC ?_ | refine SW.skip ?_ | refine SW.exit ?_ | intro _ | refine And.intro (by omega) ?_) | simp (config := { maxSteps := 1000000 }) (disch := (first | omega | (simp only [go_sem]; try omega))) only [go_sem, Nat.reduceAdd, Nat.reduceEqDiff, Nat.reduceLeDiff, Nat.reduceMul, Nat.reduceLT, reduceIte, Int.reduceToNat, w64_id, cast_succ, hpl, enn])
  refine SW.loopE (fun E0 H0 q E' H' => ∃ a : Nat, a ≤ n ∧ q = n - a ∧ E' = aput (aput E0 6 (I a)) 5 (I (stP p n a (a + 1)).2) ∧ H' = H ++ [⟨0, 4, 1, (seenB n (stP p n a (a + 1)).1).map Bv⟩]) n ⟨0, by omega, by omega, by rw [stP_zero]; rfl, ?_⟩ ?_
  · rw [stP_zero]
    have : seenB n [] = List.replicate (n * n) false := by
      unfold seenB
      rw [List.eq_replicate_iff]
      simp
    rw [this]
  rintro q E' H' ⟨a, ha, rfl, rfl, rfl⟩
  simp (config := { maxSteps := 1000000 }) (disch := (first | omega | (simp only [go_sem]; try omega))) only [go_sem, Nat.reduceAdd, Nat.reduceEqDiff, Nat.reduceLeDiff, Nat.reduceMul, Nat.reduceLT, reduceIte, Int.reduceToNat, w64_id, cast_succ]
  repeat (first | (with_reducible first | refine SW.seq ?_ | refine SW.block ?_ | refine SW.rowC ?_ | refine SW.skip ?_ | refine SW.exit ?_ | intro _ | refine And.intro (by omega) ?_) | simp (config := { maxSteps := 1000000 }) (disch := (first | omega | (simp only [go_sem]; try omega))) only [go_sem, Nat.reduceAdd, Nat.reduceEqDiff, Nat.reduceLeDiff, Nat.reduceMul, Nat.reduceLT, reduceIte, Int.reduceToNat, w64_id, cast_succ])
  (first | refine SW.condD rfl (fun h => ?_) (fun h => ?_) | refine SW.condN rfl (fun h => ?_) (fun h => ?_) | refine SW.condNB rfl (fun h => ?_) (fun h => ?_) | refine SW.condB rfl (fun h => ?_) (fun h => ?_))
  · repeat (first | (with_reducible first | refine SW.seq ?_ | refine SW.block ?_ | refine SW.rowC ?_ | refine SW.skip ?_ | refine SW.exit ?_ | intro _ | refine And.intro (by omega) ?_) | simp (config := { maxSteps := 1000000 }) (disch := (first | omega | (simp only [go_sem]; try omega))) only [go_sem, Nat.reduceAdd, Nat.reduceEqDiff, Nat.reduceLeDiff, Nat.reduceMul, Nat.reduceLT, reduceIte, Int.reduceToNat, w64_id, cast_succ])
    refine SW.loopE (fun E0 H0 q E' H' => ∃ b : Nat, a + 1 ≤ b ∧ b ≤ n ∧ q = n - b ∧ E' = aput (aput E0 7 (I b)) 5 (I (stP p n a b).2) ∧ H' = H ++ [⟨0, 4, 1, (seenB n (stP p n a b).1).map Bv⟩]) (n - (a + 1)) ⟨a + 1, by omega, by omega, by omega, by simp [go_sem], rfl⟩ ?_
    rintro q E' H' ⟨b, hab, hb, rfl, rfl, rfl⟩
    have hst := stP_ok hp hn ha hb
    have hsb := stP_b p n a b hab
    generalize hS : stP p n a b = st at *
    obtain ⟨S, c⟩ := st
    simp only at hst
    simp (config := { maxSteps := 1000000 }) (disch := (first | omega | (simp only [go_sem]; try omega))) only [go_sem, Nat.reduceAdd, Nat.reduceEqDiff, Nat.reduceLeDiff, Nat.reduceMul, Nat.reduceLT, reduceIte, Int.reduceToNat, w64_id, cast_succ]
    repeat (first | (with_reducible first | refine SW.seq ?_ | refine SW.block ?_ | refine SW.rowC ?_ | refine SW.skip ?_ | refine SW.exit ?_ | intro _ | refine And.intro (by omega) ?_) | simp (config := { maxSteps := 1000000 }) (disch := (first | omega | (simp only [go_sem]; try omega))) only [go_sem, Nat.reduceAdd, Nat.reduceEqDiff, Nat.reduceLeDiff, Nat.reduceMul, Nat.reduceLT, reduceIte, Int.reduceToNat, w64_id, cast_succ])
    (first | refine SW.condD rfl (fun h2 => ?_) (fun h2 => ?_) | refine SW.condN rfl (fun h2 => ?_) (fun h2 => ?_) | refine SW.condNB rfl (fun h2 => ?_) (fun h2 => ?_) | refine SW.condB rfl (fun h2 => ?_) (fun h2 => ?_))
    · have hx : okP n ((a : Int), (b : Int)) := ⟨by simp, by simp; omega, by simp; omega⟩
      have hbn : b < n := by omega
      have han : a < n := by omega
      have hidx := idx_lt han hbn
      have eab : ((a * n : Nat) : Int) + (b : Int) = ((a * n + b : Nat) : Int) := by omega
      have eab0 : (a : Int) * (n : Int) = ((a * n : Nat) : Int) := by simp
      have han2 : a * n ≤ 36 := by omega
      have hgb : ((seenB n S).map Bv)[a * n + b]? = some (Bv ((seenB n S).getD (a * n + b) false)) := getB (by rw [seenB_len]; exact hidx)
      have hv := seenB_get S han hbn
      rw [hv] at hgb
      by_cases hm : ((a : Int), (b : Int)) ∈ S
      · have hs1 : stepP p (S, c) ((a : Int), (b : Int)) = (S, c) := by unfold stepP; rw [if_pos hm]
        rw [decide_eq_true hm] at hgb
        have htk : ((seenB n S).map Bv).take (n * n) = (seenB n S).map Bv := List.take_of_length_le (by simp [seenB_len])
        repeat (first | (with_reducible first | refine SW.seq ?_ | refine SW.block ?_ | refine SW.rowC ?_ | refine SW.skip ?_ | refine SW.exit ?_ | intro _ | refine And.intro (by omega) ?_) | simp (config := { maxSteps := 1000000 }) (disch := (first | omega | (simp only [go_sem]; try omega))) only [go_sem, Nat.reduceAdd, Nat.reduceEqDiff, Nat.reduceLeDiff, Nat.reduceMul, Nat.reduceLT, reduceIte, Int.reduceToNat, w64_id, cast_succ, eab0, eab, hgb, htk])
        refine SW.condT rfl ?_
        repeat (first | (with_reducible first | refine SW.seq ?_ | refine SW.block ?_ | refine SW.rowC ?_ | refine SW.skip ?_ | refine SW.exit ?_ | intro _ | refine And.intro (by omega) ?_) | simp (config := { maxSteps := 1000000 }) (disch := (first | omega | (simp only [go_sem]; try omega))) only [go_sem, Nat.reduceAdd, Nat.reduceEqDiff, Nat.reduceLeDiff, Nat.reduceMul, Nat.reduceLT, reduceIte, Int.reduceToNat, w64_id, cast_succ])
        refine SLoop.next (n - (b + 1)) (by omega) ⟨b + 1, by omega, by omega, rfl, ?_, ?_⟩
        · rw [hsb, hs1]; simp [go_sem]
        · rw [hsb, hs1]
      · have hs1 : stepP p (S, c) ((a : Int), (b : Int)) = (walkP p S ((a : Int), (b : Int)), c + 1) := by unfold stepP; rw [if_neg hm]
        rw [decide_eq_false hm] at hgb
        have htk : ((seenB n S).map Bv).take (n * n) = (seenB n S).map Bv := List.take_of_length_le (by simp [seenB_len])
        have hpr := l14Pair_fn (a : Int) (b : Int)
        rw [if_pos (by omega)] at hpr
        repeat (first | (with_reducible first | refine SW.seq ?_ | refine SW.block ?_ | refine SW.rowC ?_ | refine SW.skip ?_ | refine SW.exit ?_ | intro _ | refine And.intro (by omega) ?_) | simp (config := { maxSteps := 1000000 }) (disch := (first | omega | (simp only [go_sem]; try omega))) only [go_sem, Nat.reduceAdd, Nat.reduceEqDiff, Nat.reduceLeDiff, Nat.reduceMul, Nat.reduceLT, reduceIte, Int.reduceToNat, w64_id, cast_succ, eab0, eab, hgb, htk])
        refine SW.condF rfl ?_
        repeat (first | (with_reducible first | refine SW.seq ?_ | refine SW.block ?_ | refine SW.rowC ?_ | refine SW.skip ?_ | refine SW.exit ?_ | refine PFn.use (hpr) ?_ | refine PFn.useq (hpr) ?_ | intro _ | refine And.intro (by omega) ?_) | simp (config := { maxSteps := 1000000 }) (disch := (first | omega | (simp only [go_sem]; try omega))) only [go_sem, Nat.reduceAdd, Nat.reduceEqDiff, Nat.reduceLeDiff, Nat.reduceMul, Nat.reduceLT, reduceIte, Int.reduceToNat, w64_id, cast_succ])
        refine SW.loopE (fun E0 H0 q E' H2 => ∃ (T : List (Int × Int)) (x y : Int), metP n T ∧ okP n (x, y) ∧ q = 37 - T.length ∧ walkP p T (x, y) = walkP p S ((a : Int), (b : Int)) ∧ E' = aput E0 8 (ilS [x, y]) ∧ H2 = H ++ [⟨0, 4, 1, (seenB n T).map Bv⟩]) (37 - S.length) ⟨S, a, b, hst.1, hx, rfl, rfl, rfl, rfl⟩ ?_
        rintro q E' H2 ⟨T, x, y, hT, hxy, rfl, hw, rfl, rfl⟩
        have hTl := hT.len hn
        obtain ⟨X, rfl⟩ := Int.eq_ofNat_of_zero_le hxy.1
        obtain ⟨Y, rfl⟩ := Int.eq_ofNat_of_zero_le (show 0 ≤ y by have := hxy.1; have := hxy.2.1; simp only at *; omega)
        have hX : X < n := by have := hxy.2.1; have := hxy.2.2; simp only at *; omega
        have hY : Y < n := by have := hxy.2.2; simp only at *; omega
        have hidx2 := idx_lt hX hY
        have exy : ((X * n : Nat) : Int) + (Y : Int) = ((X * n + Y : Nat) : Int) := by omega
        have exy0 : (X : Int) * (n : Int) = ((X * n : Nat) : Int) := by simp
        have hXn : X * n ≤ 36 := by omega
        have hgb2 : ((seenB n T).map Bv)[X * n + Y]? = some (Bv ((seenB n T).getD (X * n + Y) false)) := getB (by rw [seenB_len]; exact hidx2)
        rw [seenB_get T hX hY] at hgb2
        have htk2 : ((seenB n T).map Bv).take (n * n) = (seenB n T).map Bv := List.take_of_length_le (by simp [seenB_len])
        simp (config := { maxSteps := 1000000 }) (disch := (first | omega | (simp only [go_sem]; try omega))) only [go_sem, Nat.reduceAdd, Nat.reduceEqDiff, Nat.reduceLeDiff, Nat.reduceMul, Nat.reduceLT, reduceIte, Int.reduceToNat, w64_id, cast_succ]
        by_cases hm2 : ((X : Int), (Y : Int)) ∈ T
        · rw [walkP_in hm2] at hw
          rw [decide_eq_true hm2] at hgb2
          repeat (first | (with_reducible first | refine SW.seq ?_ | refine SW.block ?_ | refine SW.rowC ?_ | refine SW.skip ?_ | refine SW.exit ?_ | intro _ | refine And.intro (by omega) ?_) | simp (config := { maxSteps := 1000000 }) (disch := (first | omega | (simp only [go_sem]; try omega))) only [go_sem, Nat.reduceAdd, Nat.reduceEqDiff, Nat.reduceLeDiff, Nat.reduceMul, Nat.reduceLT, reduceIte, Int.reduceToNat, w64_id, cast_succ, exy0, exy, hgb2, htk2])
          refine SW.condF rfl ?_
          repeat (first | (with_reducible first | refine SW.seq ?_ | refine SW.block ?_ | refine SW.rowC ?_ | refine SW.skip ?_ | refine SW.exit ?_ | intro _ | refine And.intro (by omega) ?_) | simp (config := { maxSteps := 1000000 }) (disch := (first | omega | (simp only [go_sem]; try omega))) only [go_sem, Nat.reduceAdd, Nat.reduceEqDiff, Nat.reduceLeDiff, Nat.reduceMul, Nat.reduceLT, reduceIte, Int.reduceToNat, w64_id, cast_succ])
          refine SLoop.next (n - (b + 1)) (by omega) ⟨b + 1, by omega, by omega, rfl, ?_, ?_⟩
          · rw [hsb, hs1]; simp [go_sem]
          · rw [hsb, hs1, ← hw]
        · have hsnc := hT.snoc hxy hm2
          have hnx := nx_ok hp hxy
          have hwo := walkP_out (p := p) hm2 hTl
          rw [decide_eq_false hm2] at hgb2
          have gX : p.getD X 0 = pa p (X : Int) := rfl
          have gY : p.getD Y 0 = pa p (Y : Int) := rfl
          have hpr2 := l14Pair_fn (pa p (X : Int)) (pa p (Y : Int))
          have hset := seenB_set T hX hY
          have hn2 : (if pa p (X : Int) < pa p (Y : Int) then [pa p (X : Int), pa p (Y : Int)] else [pa p (Y : Int), pa p (X : Int)]) = [(nx p ((X : Int), (Y : Int))).1, (nx p ((X : Int), (Y : Int))).2] := by
            simp only [nx]
            by_cases h1 : pa p (X : Int) < pa p (Y : Int)
            · simp only [if_pos h1]
            · simp only [if_neg h1]
          rw [hn2] at hpr2
          have hidx3 : X * n + Y < (seenB n T).length := by rw [seenB_len]; exact hidx2
          repeat (first | (with_reducible first | refine SW.seq ?_ | refine SW.block ?_ | refine SW.rowC ?_ | refine SW.skip ?_ | refine SW.exit ?_ | intro _ | refine And.intro (by omega) ?_) | simp (config := { maxSteps := 1000000 }) (disch := (first | omega | (simp only [go_sem]; try omega))) only [go_sem, Nat.reduceAdd, Nat.reduceEqDiff, Nat.reduceLeDiff, Nat.reduceMul, Nat.reduceLT, reduceIte, Int.reduceToNat, w64_id, cast_succ, exy0, exy, hgb2, htk2])
          refine SW.condT rfl ?_
          repeat (first | (with_reducible first | refine SW.seq ?_ | refine SW.block ?_ | refine SW.rowC ?_ | refine SW.skip ?_ | refine SW.exit ?_ | refine PFn.use (hpr2) ?_ | refine PFn.useq (hpr2) ?_ | intro _ | refine And.intro (by omega) ?_) | simp (config := { maxSteps := 1000000 }) (disch := (first | omega | (simp only [go_sem]; try omega))) only [go_sem, Nat.reduceAdd, Nat.reduceEqDiff, Nat.reduceLeDiff, Nat.reduceMul, Nat.reduceLT, reduceIte, Int.reduceToNat, w64_id, cast_succ, exy0, exy, hgb2, htk2, gX, gY, hpl])
          refine SLoop.next (37 - (T.length + 1)) (by omega) ⟨T ++ [((X : Int), (Y : Int))], (nx p ((X : Int), (Y : Int))).1, (nx p ((X : Int), (Y : Int))).2, hsnc, hnx, by simp, hwo.symm.trans hw, ?_, ?_⟩
          · simp [go_sem]
          · rw [← hset]
    · have : b = n := by omega
      subst this
      repeat (first | (with_reducible first | refine SW.seq ?_ | refine SW.block ?_ | refine SW.rowC ?_ | refine SW.skip ?_ | refine SW.exit ?_ | intro _ | refine And.intro (by omega) ?_) | simp (config := { maxSteps := 1000000 }) (disch := (first | omega | (simp only [go_sem]; try omega))) only [go_sem, Nat.reduceAdd, Nat.reduceEqDiff, Nat.reduceLeDiff, Nat.reduceMul, Nat.reduceLT, reduceIte, Int.reduceToNat, w64_id, cast_succ])
      refine SLoop.next (b - (a + 1)) (by omega) ⟨a + 1, by omega, rfl, ?_, ?_⟩
      · rw [stP_a, hS]; simp [go_sem]
      · rw [stP_a, hS]
  · have : a = n := by omega
    subst this
    repeat (first | (with_reducible first | refine SW.seq ?_ | refine SW.block ?_ | refine SW.rowC ?_ | refine SW.skip ?_ | refine SW.exit ?_ | intro _ | refine And.intro (by omega) ?_) | simp (config := { maxSteps := 1000000 }) (disch := (first | omega | (simp only [go_sem]; try omega))) only [go_sem, Nat.reduceAdd, Nat.reduceEqDiff, Nat.reduceLeDiff, Nat.reduceMul, Nat.reduceLT, reduceIte, Int.reduceToNat, w64_id, cast_succ])
    refine SW.ret ?_; (try simp only [go_sem]); (first | refine FunPost.one ?_ | refine FunPost.two ?_ | refine FunPost.three ?_); (try simp (config := { maxSteps := 1000000 }) (disch := (first | omega | (simp only [go_sem]; try omega))) only [go_sem, Nat.reduceAdd, Nat.reduceEqDiff, Nat.reduceLeDiff, Nat.reduceMul, Nat.reduceLT, reduceIte, Int.reduceToNat, w64_id, cast_succ]); (first | (with_reducible refine GR.drop ?_ ?_; (simp only [go_sem, and_self, and_true, true_and, implies_true, List.take_succ_cons, List.take_zero])) | refine GR.of ?_); refine ⟨?_, rfl⟩; (try with_reducible rfl)
    rfl
end Go.Proofs.Ytkifdjjnbplghaa
