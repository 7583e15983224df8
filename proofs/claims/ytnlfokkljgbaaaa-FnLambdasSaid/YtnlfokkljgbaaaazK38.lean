/- What is left of a cover: the helpers of the reference. -/
import Derived.Test.YtnlfokkljgbaaaaProg
import Derived.KernelRfl
import Derived.Test.YtnlfokkljgbaaaazK7
import Derived.Test.YtnlfokkljgbaaaazK18
import Derived.Test.YtnlfokkljgbaaaazU1
import Derived.Test.YtnlfokkljgbaaaazK20
set_option linter.unusedSimpArgs false
set_option linter.unusedVariables false
set_option maxHeartbeats 4000000
set_option maxRecDepth 100000
namespace Go.Proofs.Ytnlfokkljgbaaaa
open Go.Av
abbrev f_spec_l00Put : Nat := 74
def c_spec_l00Put : SC :=
 .seq (.reg [
     ⟨(some 4), .mv (.const (.slice none 0 0)), none⟩] [0, 1])
 (.seq (.reg [
     ⟨(some 8), .bslice 2 1 0 [] [], none⟩,
     ⟨(some 5), .mv (.tmp 8), none⟩] [0, 1, 5])
 (.seq (.reg [
     ⟨(some 6), .mv (.const (.bool false)), none⟩] [0, 1, 5, 6])
 (.seq (.seq (.reg [
     ⟨(some 7), .mv (.const (.int .i64 0)), none⟩] [0, 1, 5, 6, 7])
 (.block 0 (.loop [0, 1, 5, 6, 7]
   (.seq (.seq (.reg [
       ⟨(some 9), .mv (.tmp 7), none⟩,
       ⟨(some 10), .mv (.tmp 0), none⟩,
       ⟨(some 11), .len (.tmp 10), none⟩,
       ⟨(some 12), .bin .lss (.tmp 9) (.tmp 11), none⟩] [0, 1, 5, 6, 7, 12])
   (.cond (.tmp 12)
    (.skip)
    (.exit 0)))
   (.seq (.block 1 (.seq (.seq (.reg [
        ⟨(some 15), .mv (.tmp 6), none⟩,
        ⟨(some 16), .un .not (.tmp 15), none⟩,
        ⟨(some 17), .mv (.tmp 16), none⟩,
        ⟨(some 18), .mv (.tmp 0), (some (17, true))⟩,
        ⟨(some 19), .mv (.tmp 7), (some (17, true))⟩,
        ⟨(some 20), .iaddr 1 (.tmp 18) (.tmp 19), (some (17, true))⟩,
        ⟨(some 21), .load 1 false (.tmp 20), (some (17, true))⟩,
        ⟨(some 22), .mv (.tmp 1), (some (17, true))⟩,
        ⟨(some 23), .bin .geq (.tmp 21) (.tmp 22), (some (17, true))⟩,
        ⟨(some 24), .pick (.tmp 17) (.tmp 23) (.const (.bool false)), none⟩] [0, 1, 5, 6, 7, 24])
    (.cond (.tmp 24)
     (.seq (.reg [
         ⟨(some 6), .mv (.const (.bool true)), none⟩] [0, 1, 5, 6, 7])
     (.seq (.reg [
         ⟨(some 25), .mv (.tmp 0), none⟩,
         ⟨(some 26), .mv (.tmp 7), none⟩,
         ⟨(some 27), .iaddr 1 (.tmp 25) (.tmp 26), none⟩,
         ⟨(some 28), .load 1 false (.tmp 27), none⟩,
         ⟨(some 29), .mv (.tmp 1), none⟩,
         ⟨(some 30), .bin .gtr (.tmp 28) (.tmp 29), none⟩] [0, 1, 5, 6, 7, 30])
     (.cond (.tmp 30)
      (.reg [
          ⟨(some 31), .mv (.tmp 5), none⟩,
          ⟨(some 32), .mv (.tmp 1), none⟩,
          ⟨(some 33), .bslice 2 1 1 [(.int .i64 0)] [(0, (.tmp 32))], none⟩,
          ⟨(some 34), .app 2 1 8 (.tmp 31) (.tmp 33), none⟩,
          ⟨(some 5), .mv (.tmp 34), none⟩] [0, 1, 5, 6, 7])
      (.skip))))
     (.skip)))
    (.reg [
        ⟨(some 35), .mv (.tmp 5), none⟩,
        ⟨(some 36), .mv (.tmp 0), none⟩,
        ⟨(some 37), .mv (.tmp 7), none⟩,
        ⟨(some 38), .iaddr 1 (.tmp 36) (.tmp 37), none⟩,
        ⟨(some 39), .load 1 false (.tmp 38), none⟩,
        ⟨(some 40), .bslice 2 1 1 [(.int .i64 0)] [(0, (.tmp 39))], none⟩,
        ⟨(some 41), .app 2 1 8 (.tmp 35) (.tmp 40), none⟩,
        ⟨(some 5), .mv (.tmp 41), none⟩] [0, 1, 5, 6, 7])))
   (.reg [
       ⟨(some 13), .mv (.tmp 7), none⟩,
       ⟨(some 14), .bin .add (.tmp 13) (.const (.int .i64 1)), none⟩,
       ⟨(some 7), .mv (.tmp 14), none⟩] [0, 1, 5, 6, 7]))))))
 (.seq (.seq (.reg [
     ⟨(some 42), .mv (.tmp 6), none⟩,
     ⟨(some 43), .un .not (.tmp 42), none⟩] [1, 5, 43])
 (.cond (.tmp 43)
  (.reg [
      ⟨(some 44), .mv (.tmp 5), none⟩,
      ⟨(some 45), .mv (.tmp 1), none⟩,
      ⟨(some 46), .bslice 2 1 1 [(.int .i64 0)] [(0, (.tmp 45))], none⟩,
      ⟨(some 47), .app 2 1 8 (.tmp 44) (.tmp 46), none⟩,
      ⟨(some 5), .mv (.tmp 47), none⟩] [5])
  (.skip)))
 (.seq (.reg [
     ⟨(some 48), .mv (.tmp 5), none⟩,
     ⟨(some 4), .mv (.tmp 48), none⟩] [4])
 (.ret))))))
theorem s_spec_l00Put : stripF Try.prog 74 [[0, 1], [0, 1, 5], [0, 1, 5, 6], [0, 1, 5, 6, 7], [0, 1, 5, 6, 7], [0, 1, 5, 6, 7, 12], [0, 1, 5, 6, 7, 24], [0, 1, 5, 6, 7], [0, 1, 5, 6, 7, 30], [0, 1, 5, 6, 7], [0, 1, 5, 6, 7], [0, 1, 5, 6, 7], [1, 5, 43], [5], [4]] = some (c_spec_l00Put, [.tmp 4], 49) := by kernel_rfl
theorem snocInd {motive : List Int → Prop} (nil : motive []) (append_singleton : ∀ xs x, motive xs → motive (xs ++ [x])) (xs : List Int) : motive xs := by
  rw [← List.reverse_reverse xs]
  induction xs.reverse with
  | nil => exact nil
  | cons x r ih => rw [List.reverse_cons]; exact append_singleton _ _ ih
def putStep (n : Int) (st : List Int × Bool) (x : Int) : List Int × Bool := if !st.2 && decide (x ≥ n) then ((if x > n then st.1 ++ [n] else st.1) ++ [x], true) else (st.1 ++ [x], st.2)
def putF (n : Int) (xs : List Int) : List Int × Bool := xs.foldl (putStep n) ([], false)
def putL (n : Int) (xs : List Int) : List Int := if (putF n xs).2 then (putF n xs).1 else (putF n xs).1 ++ [n]
theorem putF_snoc (n : Int) (xs : List Int) (x : Int) : putF n (xs ++ [x]) = putStep n (putF n xs) x := by simp [putF]
theorem putF_len (n : Int) (xs : List Int) : (putF n xs).1.length ≤ 2 * xs.length := by
  induction xs using snocInd with
  | nil => simp [putF]
  | append_singleton xs x ih =>
    rw [putF_snoc, putStep]
    split
    · split <;> simp <;> omega
    · simp; omega
theorem putF_mem (n : Int) (xs : List Int) : ∀ y, (y ∈ xs → y ∈ (putF n xs).1) ∧ (y ∈ (putF n xs).1 → y ∈ xs ∨ y = n) ∧ ((putF n xs).2 = true → n ∈ (putF n xs).1) := by
  induction xs using snocInd with
  | nil => intro y; simp [putF]
  | append_singleton xs x ih =>
    intro y
    obtain ⟨h1, h2, -⟩ := ih y
    have h3 := (ih y).2.2
    rw [putF_snoc, putStep]
    by_cases hc : (!(putF n xs).2 && decide (x ≥ n)) = true
    · rw [if_pos hc]
      simp only [Bool.and_eq_true, decide_eq_true_eq] at hc
      by_cases hg : x > n
      · simp only [if_pos hg]
        refine ⟨fun h => ?_, fun h => ?_, fun _ => by simp⟩
        · simp at h ⊢; rcases h with h | h
          · exact .inl (h1 h)
          · exact .inr (.inr h)
        · simp at h ⊢; rcases h with h | h | h
          · rcases h2 h with h | h
            · exact .inl (.inl h)
            · exact .inr h
          · exact .inr h
          · exact .inl (.inr h)
      · have hx : x = n := by omega
        simp only [if_neg hg]
        refine ⟨fun h => ?_, fun h => ?_, fun _ => by simp [hx]⟩
        · simp at h ⊢; rcases h with h | h
          · exact .inl (h1 h)
          · exact .inr h
        · simp at h ⊢; rcases h with h | h
          · rcases h2 h with h | h
            · exact .inl (.inl h)
            · exact .inr h
          · exact .inl (.inr h)
    · rw [if_neg hc]
      refine ⟨fun h => ?_, fun h => ?_, fun h => ?_⟩
      · simp at h ⊢; rcases h with h | h
        · exact .inl (h1 h)
        · exact .inr h
      · simp at h ⊢; rcases h with h | h
        · rcases h2 h with h | h
          · exact .inl (.inl h)
          · exact .inr h
        · exact .inl (.inr h)
      · simp; exact .inl (h3 h)
theorem putL_mem (n : Int) (xs : List Int) (y : Int) : y ∈ putL n xs ↔ y ∈ xs ∨ y = n := by
  obtain ⟨h1, h2, h3⟩ := putF_mem n xs y
  unfold putL
  by_cases h : (putF n xs).2 = true
  · rw [if_pos h]
    exact ⟨h2, fun hy => by rcases hy with hy | rfl; exact h1 hy; exact h3 h⟩
  · rw [if_neg h]
    simp only [List.mem_append, List.mem_singleton]
    exact ⟨fun hy => by rcases hy with hy | rfl; exact h2 hy; exact .inr rfl, fun hy => by rcases hy with hy | rfl; exact .inl (h1 hy); exact .inr rfl⟩
theorem putStep_first (n : Int) (xs : List Int) : (putF n xs).2 = false → (putF n xs).1 = xs ∧ ∀ x ∈ xs, x < n := by
  induction xs using snocInd with
  | nil => intro _; simp [putF]
  | append_singleton xs x ih =>
    rw [putF_snoc, putStep]
    by_cases hc : (!(putF n xs).2 && decide (x ≥ n)) = true
    · rw [if_pos hc]; intro h; exact absurd h (by simp)
    · rw [if_neg hc]
      intro h
      obtain ⟨e1, e2⟩ := ih h
      simp only at h
      rw [h] at hc
      simp at hc
      refine ⟨by rw [e1], fun y hy => ?_⟩
      rcases List.mem_append.1 hy with hy | hy
      · exact e2 y hy
      · simp at hy; omega
theorem putF_len1 (n : Int) (xs : List Int) : (putF n xs).1.length ≤ xs.length + 1 := by
  induction xs using snocInd with
  | nil => simp [putF]
  | append_singleton xs x ih =>
    by_cases hd : (putF n xs).2 = true
    · have e : putF n (xs ++ [x]) = ((putF n xs).1 ++ [x], true) := by rw [putF_snoc, putStep, hd]; simp
      rw [e]; simp; omega
    · have e1 := (putStep_first n xs (by simpa using hd)).1
      rw [putF_snoc, putStep]
      split
      · split <;> simp [e1]
      · simp [e1]
theorem putL_len (n : Int) (xs : List Int) : (putL n xs).length ≤ xs.length + 1 := by
  unfold putL
  split
  · exact putF_len1 n xs
  · rename_i h
    rw [(putStep_first n xs (by simpa using h)).1]; simp
theorem l00Put_new (xs : List Int) (n : Int) (hl : xs.length ≤ 1000000) : NewS Try.prog f_spec_l00Put [ilS xs, I n] (putL n xs) := by
  intro H; refine ACalls.introB s_spec_l00Put (by simp) ?_; intro hB hA; unfold c_spec_l00Put; simp (config := { maxSteps := 1000000 }) (disch := (first | omega | (simp only [go_sem]; try omega))) only [go_sem, Nat.reduceAdd, Nat.reduceEqDiff, Nat.reduceLeDiff, Nat.reduceMul, Nat.reduceLT, reduceIte, Int.reduceToNat, w64_id, cast_succ]
  repeat (first | (with_reducible first | refine SW.seq ?_ | refine SW.block ?_ | refine SW.rowC ?_ | refine SW.skip ?_ | refine SW.exit ?_ | intro _ | refine And.intro (by omega) ?_) | simp (config := { maxSteps := 1000000 }) (disch := (first | omega | (simp only [go_sem]; try omega))) only [go_sem, Nat.reduceAdd, Nat.reduceEqDiff, Nat.reduceLeDiff, Nat.reduceMul, Nat.reduceLT, reduceIte, Int.reduceToNat, w64_id, cast_succ])
  refine SW.loopE (fun E0 H0 q E' H' => ∃ (pre post : List Int) (ver : Nat), xs = pre ++ post ∧ q = post.length ∧ E' = aput (aput (aput E0 7 (I pre.length)) 6 (Bv (putF n pre).2)) 5 (.nm H.length ver 0 (putF n pre).1.length) ∧ H' = H ++ [⟨ver, 2, 1, (putF n pre).1.map I⟩]) xs.length ⟨[], xs, 0, rfl, rfl, rfl, rfl⟩ ?_
  rintro q E' H' ⟨pre, post, ver, hp, rfl, rfl, rfl⟩
  have hwl := putF_len n pre
  have hpl : pre.length ≤ 1000000 := by rw [hp] at hl; simp at hl; omega
  have hsn := fun x => putF_snoc n pre x
  unfold putStep at hsn
  unfold putL
  generalize hS : putF n pre = S at *
  obtain ⟨L, d⟩ := S
  simp only at hwl hsn
  simp (config := { maxSteps := 1000000 }) (disch := (first | omega | (simp only [go_sem]; try omega))) only [go_sem, Nat.reduceAdd, Nat.reduceEqDiff, Nat.reduceLeDiff, Nat.reduceMul, Nat.reduceLT, reduceIte, Int.reduceToNat, w64_id, cast_succ]
  repeat (first | (with_reducible first | refine SW.seq ?_ | refine SW.block ?_ | refine SW.rowC ?_ | refine SW.skip ?_ | refine SW.exit ?_ | intro _ | refine And.intro (by omega) ?_) | simp (config := { maxSteps := 1000000 }) (disch := (first | omega | (simp only [go_sem]; try omega))) only [go_sem, Nat.reduceAdd, Nat.reduceEqDiff, Nat.reduceLeDiff, Nat.reduceMul, Nat.reduceLT, reduceIte, Int.reduceToNat, w64_id, cast_succ])
  (first | refine SW.condD rfl (fun h => ?_) (fun h => ?_) | refine SW.condN rfl (fun h => ?_) (fun h => ?_) | refine SW.condNB rfl (fun h => ?_) (fun h => ?_) | refine SW.condB rfl (fun h => ?_) (fun h => ?_))
  · obtain ⟨x, post, rfl, hg, -⟩ := consOf (d := 0) hp (by omega)
    replace hsn := hsn x
    cases d
    · by_cases hge : x ≥ n
      · have d1 : decide (n ≤ x) = true := by simpa using hge
        rw [if_pos (by simp [hge])] at hsn
        by_cases hgt : x > n
        · rw [if_pos hgt] at hsn
          have d2 : decide (n < x) = true := by simpa using hgt
          repeat (first | (with_reducible first | refine SW.seq ?_ | refine SW.block ?_ | refine SW.rowC ?_ | refine SW.skip ?_ | refine SW.exit ?_ | intro _ | refine And.intro (by omega) ?_) | simp (config := { maxSteps := 1000000 }) (disch := (first | omega | (simp only [go_sem]; try omega))) only [go_sem, Nat.reduceAdd, Nat.reduceEqDiff, Nat.reduceLeDiff, Nat.reduceMul, Nat.reduceLT, reduceIte, Int.reduceToNat, w64_id, cast_succ, hg, d1])
          refine SW.condT rfl ?_
          repeat (first | (with_reducible first | refine SW.seq ?_ | refine SW.block ?_ | refine SW.rowC ?_ | refine SW.skip ?_ | refine SW.exit ?_ | intro _ | refine And.intro (by omega) ?_) | simp (config := { maxSteps := 1000000 }) (disch := (first | omega | (simp only [go_sem]; try omega))) only [go_sem, Nat.reduceAdd, Nat.reduceEqDiff, Nat.reduceLeDiff, Nat.reduceMul, Nat.reduceLT, reduceIte, Int.reduceToNat, w64_id, cast_succ, hg, d2])
          refine SW.condT rfl ?_
          have htk : ((L ++ [n]).map I).take (L.length + 1) = (L ++ [n]).map I := List.take_of_length_le (by simp)
          repeat (first | (with_reducible first | refine SW.seq ?_ | refine SW.block ?_ | refine SW.rowC ?_ | refine SW.skip ?_ | refine SW.exit ?_ | intro _ | refine And.intro (by omega) ?_) | simp (config := { maxSteps := 1000000 }) (disch := (first | omega | (simp only [go_sem]; try omega))) only [go_sem, Nat.reduceAdd, Nat.reduceEqDiff, Nat.reduceLeDiff, Nat.reduceMul, Nat.reduceLT, reduceIte, Int.reduceToNat, w64_id, cast_succ, hg, htk])
          refine SLoop.nextT 1 post.length hB (by omega) (by simp) (by simp) ?_ ?_ ⟨pre ++ [x], post, ver + 2, by simp [hp], rfl, ?_, ?_⟩
          · (simp only [go_sem, Nat.reduceAdd, Nat.reduceEqDiff, reduceIte, go_sem, and_self, and_true, true_and, implies_true, List.take_succ_cons, List.take_zero, and_true, true_and]; try omega)
          · (simp only [go_sem, Nat.reduceAdd, Nat.reduceEqDiff, reduceIte, go_sem, and_self, and_true, true_and, implies_true, List.take_succ_cons, List.take_zero, and_true, true_and]; try omega)
          · rw [hsn]; simp [go_sem]
          · rw [hsn]; simp
        · rw [if_neg hgt] at hsn
          have d2 : decide (n < x) = false := by simpa using hgt
          repeat (first | (with_reducible first | refine SW.seq ?_ | refine SW.block ?_ | refine SW.rowC ?_ | refine SW.skip ?_ | refine SW.exit ?_ | intro _ | refine And.intro (by omega) ?_) | simp (config := { maxSteps := 1000000 }) (disch := (first | omega | (simp only [go_sem]; try omega))) only [go_sem, Nat.reduceAdd, Nat.reduceEqDiff, Nat.reduceLeDiff, Nat.reduceMul, Nat.reduceLT, reduceIte, Int.reduceToNat, w64_id, cast_succ, hg, d1])
          refine SW.condT rfl ?_
          repeat (first | (with_reducible first | refine SW.seq ?_ | refine SW.block ?_ | refine SW.rowC ?_ | refine SW.skip ?_ | refine SW.exit ?_ | intro _ | refine And.intro (by omega) ?_) | simp (config := { maxSteps := 1000000 }) (disch := (first | omega | (simp only [go_sem]; try omega))) only [go_sem, Nat.reduceAdd, Nat.reduceEqDiff, Nat.reduceLeDiff, Nat.reduceMul, Nat.reduceLT, reduceIte, Int.reduceToNat, w64_id, cast_succ, hg, d2])
          refine SW.condF rfl ?_
          repeat (first | (with_reducible first | refine SW.seq ?_ | refine SW.block ?_ | refine SW.rowC ?_ | refine SW.skip ?_ | refine SW.exit ?_ | intro _ | refine And.intro (by omega) ?_) | simp (config := { maxSteps := 1000000 }) (disch := (first | omega | (simp only [go_sem]; try omega))) only [go_sem, Nat.reduceAdd, Nat.reduceEqDiff, Nat.reduceLeDiff, Nat.reduceMul, Nat.reduceLT, reduceIte, Int.reduceToNat, w64_id, cast_succ, hg])
          refine SLoop.nextT 1 post.length hB (by omega) (by simp) (by simp) ?_ ?_ ⟨pre ++ [x], post, ver + 1, by simp [hp], rfl, ?_, ?_⟩
          · (simp only [go_sem, Nat.reduceAdd, Nat.reduceEqDiff, reduceIte, go_sem, and_self, and_true, true_and, implies_true, List.take_succ_cons, List.take_zero, and_true, true_and]; try omega)
          · (simp only [go_sem, Nat.reduceAdd, Nat.reduceEqDiff, reduceIte, go_sem, and_self, and_true, true_and, implies_true, List.take_succ_cons, List.take_zero, and_true, true_and]; try omega)
          · rw [hsn]; simp [go_sem]
          · rw [hsn]; simp
      · have d1 : decide (n ≤ x) = false := by simpa using hge
        rw [if_neg (by simp [hge])] at hsn
        repeat (first | (with_reducible first | refine SW.seq ?_ | refine SW.block ?_ | refine SW.rowC ?_ | refine SW.skip ?_ | refine SW.exit ?_ | intro _ | refine And.intro (by omega) ?_) | simp (config := { maxSteps := 1000000 }) (disch := (first | omega | (simp only [go_sem]; try omega))) only [go_sem, Nat.reduceAdd, Nat.reduceEqDiff, Nat.reduceLeDiff, Nat.reduceMul, Nat.reduceLT, reduceIte, Int.reduceToNat, w64_id, cast_succ, hg, d1])
        refine SW.condF rfl ?_
        repeat (first | (with_reducible first | refine SW.seq ?_ | refine SW.block ?_ | refine SW.rowC ?_ | refine SW.skip ?_ | refine SW.exit ?_ | intro _ | refine And.intro (by omega) ?_) | simp (config := { maxSteps := 1000000 }) (disch := (first | omega | (simp only [go_sem]; try omega))) only [go_sem, Nat.reduceAdd, Nat.reduceEqDiff, Nat.reduceLeDiff, Nat.reduceMul, Nat.reduceLT, reduceIte, Int.reduceToNat, w64_id, cast_succ, hg])
        refine SLoop.nextT 1 post.length hB (by omega) (by simp) (by simp) ?_ ?_ ⟨pre ++ [x], post, ver + 1, by simp [hp], rfl, ?_, ?_⟩
        · (simp only [go_sem, Nat.reduceAdd, Nat.reduceEqDiff, reduceIte, go_sem, and_self, and_true, true_and, implies_true, List.take_succ_cons, List.take_zero, and_true, true_and]; try omega)
        · (simp only [go_sem, Nat.reduceAdd, Nat.reduceEqDiff, reduceIte, go_sem, and_self, and_true, true_and, implies_true, List.take_succ_cons, List.take_zero, and_true, true_and]; try omega)
        · rw [hsn]; simp [go_sem]
        · rw [hsn]; simp
    · rw [if_neg (by simp)] at hsn
      repeat (first | (with_reducible first | refine SW.seq ?_ | refine SW.block ?_ | refine SW.rowC ?_ | refine SW.skip ?_ | refine SW.exit ?_ | intro _ | refine And.intro (by omega) ?_) | simp (config := { maxSteps := 1000000 }) (disch := (first | omega | (simp only [go_sem]; try omega))) only [go_sem, Nat.reduceAdd, Nat.reduceEqDiff, Nat.reduceLeDiff, Nat.reduceMul, Nat.reduceLT, reduceIte, Int.reduceToNat, w64_id, cast_succ, hg])
      refine SW.condF rfl ?_
      repeat (first | (with_reducible first | refine SW.seq ?_ | refine SW.block ?_ | refine SW.rowC ?_ | refine SW.skip ?_ | refine SW.exit ?_ | intro _ | refine And.intro (by omega) ?_) | simp (config := { maxSteps := 1000000 }) (disch := (first | omega | (simp only [go_sem]; try omega))) only [go_sem, Nat.reduceAdd, Nat.reduceEqDiff, Nat.reduceLeDiff, Nat.reduceMul, Nat.reduceLT, reduceIte, Int.reduceToNat, w64_id, cast_succ, hg])
      refine SLoop.nextT 1 post.length hB (by omega) (by simp) (by simp) ?_ ?_ ⟨pre ++ [x], post, ver + 1, by simp [hp], rfl, ?_, ?_⟩
      · (simp only [go_sem, Nat.reduceAdd, Nat.reduceEqDiff, reduceIte, go_sem, and_self, and_true, true_and, implies_true, List.take_succ_cons, List.take_zero, and_true, true_and]; try omega)
      · (simp only [go_sem, Nat.reduceAdd, Nat.reduceEqDiff, reduceIte, go_sem, and_self, and_true, true_and, implies_true, List.take_succ_cons, List.take_zero, and_true, true_and]; try omega)
      · rw [hsn]; simp [go_sem]
      · rw [hsn]; simp
  · obtain ⟨rfl, rfl⟩ := nilOf hp (by omega)
    rw [hS]
    cases d
    · repeat (first | (with_reducible first | refine SW.seq ?_ | refine SW.block ?_ | refine SW.rowC ?_ | refine SW.skip ?_ | refine SW.exit ?_ | intro _ | refine And.intro (by omega) ?_) | simp (config := { maxSteps := 1000000 }) (disch := (first | omega | (simp only [go_sem]; try omega))) only [go_sem, Nat.reduceAdd, Nat.reduceEqDiff, Nat.reduceLeDiff, Nat.reduceMul, Nat.reduceLT, reduceIte, Int.reduceToNat, w64_id, cast_succ])
      refine SW.condT rfl ?_
      repeat (first | (with_reducible first | refine SW.seq ?_ | refine SW.block ?_ | refine SW.rowC ?_ | refine SW.skip ?_ | refine SW.exit ?_ | intro _ | refine And.intro (by omega) ?_) | simp (config := { maxSteps := 1000000 }) (disch := (first | omega | (simp only [go_sem]; try omega))) only [go_sem, Nat.reduceAdd, Nat.reduceEqDiff, Nat.reduceLeDiff, Nat.reduceMul, Nat.reduceLT, reduceIte, Int.reduceToNat, w64_id, cast_succ])
      refine SW.ret ?_; (try simp only [go_sem]); (first | refine FunPost.one ?_ | refine FunPost.two ?_ | refine FunPost.three ?_); (try simp (config := { maxSteps := 1000000 }) (disch := (first | omega | (simp only [go_sem]; try omega))) only [go_sem, Nat.reduceAdd, Nat.reduceEqDiff, Nat.reduceLeDiff, Nat.reduceMul, Nat.reduceLT, reduceIte, Int.reduceToNat, w64_id, cast_succ])
      rw [show L.length + 1 = (L ++ [n]).length by simp]
      exact GR.oneS (i := H.length) (ver := ver + 1) (xs := L ++ [n]) (Nat.le_refl _) (by simp)
    · repeat (first | (with_reducible first | refine SW.seq ?_ | refine SW.block ?_ | refine SW.rowC ?_ | refine SW.skip ?_ | refine SW.exit ?_ | intro _ | refine And.intro (by omega) ?_) | simp (config := { maxSteps := 1000000 }) (disch := (first | omega | (simp only [go_sem]; try omega))) only [go_sem, Nat.reduceAdd, Nat.reduceEqDiff, Nat.reduceLeDiff, Nat.reduceMul, Nat.reduceLT, reduceIte, Int.reduceToNat, w64_id, cast_succ])
      refine SW.condF rfl ?_
      repeat (first | (with_reducible first | refine SW.seq ?_ | refine SW.block ?_ | refine SW.rowC ?_ | refine SW.skip ?_ | refine SW.exit ?_ | intro _ | refine And.intro (by omega) ?_) | simp (config := { maxSteps := 1000000 }) (disch := (first | omega | (simp only [go_sem]; try omega))) only [go_sem, Nat.reduceAdd, Nat.reduceEqDiff, Nat.reduceLeDiff, Nat.reduceMul, Nat.reduceLT, reduceIte, Int.reduceToNat, w64_id, cast_succ])
      refine SW.ret ?_; (try simp only [go_sem]); (first | refine FunPost.one ?_ | refine FunPost.two ?_ | refine FunPost.three ?_); (try simp (config := { maxSteps := 1000000 }) (disch := (first | omega | (simp only [go_sem]; try omega))) only [go_sem, Nat.reduceAdd, Nat.reduceEqDiff, Nat.reduceLeDiff, Nat.reduceMul, Nat.reduceLT, reduceIte, Int.reduceToNat, w64_id, cast_succ])
      exact GR.oneS (i := H.length) (ver := ver) (xs := L) (Nat.le_refl _) (by simp)
theorem NewS.lend {P : Program} {f : FuncId} {args args' : List AV} {xs : List Int} (h : NewS P f args' xs) {H : List Blk} (hf : Frozs H args args') :
    ACalls P f args H fun r H' => r = .nm H.length 0 0 xs.length ∧ H' = H ++ [⟨0, 2, 1, xs.map I⟩] := by
  refine ((h []).lend hf ?_).mono ?_
  · rintro r H0 ⟨rfl, _⟩; exact .nm _ _ _ _
  · rintro r H' ⟨r0, H0, ⟨rfl, rfl⟩, rfl, rfl⟩
    refine ⟨by simp [sh_nm], ?_⟩
    simp only [List.nil_append, List.map_cons, List.map_nil]
    rw [shB_cells (ov_I xs), sh_I]
end Go.Proofs.Ytnlfokkljgbaaaa
