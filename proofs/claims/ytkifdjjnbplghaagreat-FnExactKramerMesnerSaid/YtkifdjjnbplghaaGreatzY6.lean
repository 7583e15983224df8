/- The matrix of orbits: the reference. -/
import Derived.Test.YtkifdjjnbplghaaGreatProg
import Derived.KernelRfl
import Derived.Test.YtkifdjjnbplghaaGreatzY5
set_option linter.unusedSimpArgs false
set_option linter.unusedVariables false
set_option maxHeartbeats 4000000
set_option maxRecDepth 100000
namespace Go.Proofs.YtkifdjjnbplghaaGreat
open Go.Av
abbrev f_spec_l25Matrix : Nat := 58
def c_spec_l25Matrix : SC :=
 .seq (.reg [
     ⟨(some 6), .mv (.const (.slice none 0 0)), none⟩] [0, 1, 2])
 (.seq (.reg [
     ⟨(some 15), .mv (.tmp 0), none⟩,
     ⟨(some 16), .mv (.tmp 1), none⟩,
     ⟨(some 17), .call 52 [(.tmp 15), (.tmp 16)], none⟩,
     ⟨(some 7), .mv (.tmp 17), none⟩] [0, 2, 7])
 (.seq (.reg [
     ⟨(some 18), .mv (.tmp 0), none⟩,
     ⟨(some 19), .mv (.tmp 2), none⟩,
     ⟨(some 20), .call 52 [(.tmp 18), (.tmp 19)], none⟩,
     ⟨(some 8), .mv (.tmp 20), none⟩] [7, 8])
 (.seq (.reg [
     ⟨(some 21), .bslice 51 1 0 [] [], none⟩,
     ⟨(some 9), .mv (.tmp 21), none⟩] [7, 8, 9])
 (.seq (.seq (.reg [
     ⟨(some 10), .mv (.const (.int .i64 0)), none⟩] [7, 8, 9, 10])
 (.block 0 (.loop [7, 8, 9, 10]
   (.seq (.seq (.reg [
       ⟨(some 22), .mv (.tmp 10), none⟩,
       ⟨(some 23), .mv (.tmp 7), none⟩,
       ⟨(some 24), .len (.tmp 23), none⟩,
       ⟨(some 25), .bin .lss (.tmp 22) (.tmp 24), none⟩] [7, 8, 9, 10, 25])
   (.cond (.tmp 25)
    (.skip)
    (.exit 0)))
   (.seq (.block 1 (.seq (.reg [
        ⟨(some 28), .bslice 2 1 0 [] [], none⟩,
        ⟨(some 11), .mv (.tmp 28), none⟩] [7, 8, 9, 10, 11])
    (.seq (.seq (.reg [
        ⟨(some 12), .mv (.const (.int .i64 0)), none⟩] [7, 8, 9, 10, 11, 12])
    (.block 2 (.loop [7, 8, 9, 10, 11, 12]
      (.seq (.seq (.reg [
          ⟨(some 29), .mv (.tmp 12), none⟩,
          ⟨(some 30), .mv (.tmp 8), none⟩,
          ⟨(some 31), .len (.tmp 30), none⟩,
          ⟨(some 32), .bin .lss (.tmp 29) (.tmp 31), none⟩] [7, 8, 9, 10, 11, 12, 32])
      (.cond (.tmp 32)
       (.skip)
       (.exit 2)))
      (.seq (.block 3 (.seq (.reg [
           ⟨(some 13), .mv (.const (.int .i64 0)), none⟩] [7, 8, 9, 10, 11, 12, 13])
       (.seq (.seq (.reg [
           ⟨(some 14), .mv (.const (.int .i64 0)), none⟩] [7, 8, 9, 10, 11, 12, 13, 14])
       (.block 4 (.loop [7, 8, 9, 10, 11, 12, 13, 14]
         (.seq (.seq (.reg [
             ⟨(some 35), .mv (.tmp 14), none⟩,
             ⟨(some 36), .mv (.tmp 8), none⟩,
             ⟨(some 37), .mv (.tmp 12), none⟩,
             ⟨(some 38), .iaddr 1 (.tmp 36) (.tmp 37), none⟩,
             ⟨(some 39), .load 1 false (.tmp 38), none⟩,
             ⟨(some 40), .len (.tmp 39), none⟩,
             ⟨(some 41), .bin .lss (.tmp 35) (.tmp 40), none⟩] [7, 8, 9, 10, 11, 12, 13, 14, 41])
         (.cond (.tmp 41)
          (.skip)
          (.exit 4)))
         (.seq (.block 5 (.seq (.reg [
              ⟨(some 44), .mv (.tmp 7), none⟩,
              ⟨(some 45), .mv (.tmp 10), none⟩,
              ⟨(some 46), .iaddr 1 (.tmp 44) (.tmp 45), none⟩,
              ⟨(some 47), .load 1 false (.tmp 46), none⟩,
              ⟨(some 48), .iaddr 1 (.tmp 47) (.const (.int .i64 0)), none⟩,
              ⟨(some 49), .load 1 false (.tmp 48), none⟩,
              ⟨(some 50), .mv (.tmp 8), none⟩,
              ⟨(some 51), .mv (.tmp 12), none⟩,
              ⟨(some 52), .iaddr 1 (.tmp 50) (.tmp 51), none⟩,
              ⟨(some 53), .load 1 false (.tmp 52), none⟩,
              ⟨(some 54), .mv (.tmp 14), none⟩,
              ⟨(some 55), .iaddr 1 (.tmp 53) (.tmp 54), none⟩,
              ⟨(some 56), .load 1 false (.tmp 55), none⟩,
              ⟨(some 57), .qcall 92 [(.tmp 49), (.tmp 56)], none⟩] [7, 8, 9, 10, 11, 12, 13, 14, 57])
          (.cond (.tmp 57)
           (.reg [
               ⟨(some 58), .mv (.tmp 13), none⟩,
               ⟨(some 59), .bin .add (.tmp 58) (.const (.int .i64 1)), none⟩,
               ⟨(some 13), .mv (.tmp 59), none⟩] [7, 8, 9, 10, 11, 12, 13, 14])
           (.skip))))
         (.reg [
             ⟨(some 42), .mv (.tmp 14), none⟩,
             ⟨(some 43), .bin .add (.tmp 42) (.const (.int .i64 1)), none⟩,
             ⟨(some 14), .mv (.tmp 43), none⟩] [7, 8, 9, 10, 11, 12, 13, 14]))))))
       (.reg [
           ⟨(some 60), .mv (.tmp 11), none⟩,
           ⟨(some 61), .mv (.tmp 13), none⟩,
           ⟨(some 62), .bslice 2 1 1 [(.int .i64 0)] [(0, (.tmp 61))], none⟩,
           ⟨(some 63), .app 2 1 8 (.tmp 60) (.tmp 62), none⟩,
           ⟨(some 11), .mv (.tmp 63), none⟩] [7, 8, 9, 10, 11, 12]))))
      (.reg [
          ⟨(some 33), .mv (.tmp 12), none⟩,
          ⟨(some 34), .bin .add (.tmp 33) (.const (.int .i64 1)), none⟩,
          ⟨(some 12), .mv (.tmp 34), none⟩] [7, 8, 9, 10, 11, 12]))))))
    (.reg [
        ⟨(some 64), .mv (.tmp 9), none⟩,
        ⟨(some 65), .mv (.tmp 11), none⟩,
        ⟨(some 66), .bslice 51 1 1 [(.slice none 0 0)] [(0, (.tmp 65))], none⟩,
        ⟨(some 67), .app 51 1 24 (.tmp 64) (.tmp 66), none⟩,
        ⟨(some 9), .mv (.tmp 67), none⟩] [7, 8, 9, 10]))))
   (.reg [
       ⟨(some 26), .mv (.tmp 10), none⟩,
       ⟨(some 27), .bin .add (.tmp 26) (.const (.int .i64 1)), none⟩,
       ⟨(some 10), .mv (.tmp 27), none⟩] [7, 8, 9, 10]))))))
 (.seq (.reg [
     ⟨(some 68), .mv (.tmp 9), none⟩,
     ⟨(some 6), .mv (.tmp 68), none⟩] [6])
 (.ret))))))
theorem s_spec_l25Matrix : stripF Tryz.prog 58 [[0, 1, 2], [0, 2, 7], [7, 8], [7, 8, 9], [7, 8, 9, 10], [7, 8, 9, 10], [7, 8, 9, 10, 25], [7, 8, 9, 10, 11], [7, 8, 9, 10, 11, 12], [7, 8, 9, 10, 11, 12], [7, 8, 9, 10, 11, 12, 32], [7, 8, 9, 10, 11, 12, 13], [7, 8, 9, 10, 11, 12, 13, 14], [7, 8, 9, 10, 11, 12, 13, 14], [7, 8, 9, 10, 11, 12, 13, 14, 41], [7, 8, 9, 10, 11, 12, 13, 14, 57], [7, 8, 9, 10, 11, 12, 13, 14], [7, 8, 9, 10, 11, 12, 13, 14], [7, 8, 9, 10, 11, 12], [7, 8, 9, 10, 11, 12], [7, 8, 9, 10], [7, 8, 9, 10], [6]] = some (c_spec_l25Matrix, [.tmp 6], 69) := by kernel_rfl
def kmC (s : List Int) (O : List (List Int)) : Nat := (O.filter fun set => s.all fun x => set.contains x).length
def kmR (s : List Int) (cols : List (List (List Int))) : List Int := cols.map fun O => (kmC s O : Int)
def kmM (rows cols : List (List (List Int))) : List (List Int) := rows.map fun R => kmR (R.getD 0 []) cols
theorem kmC_snoc (s : List Int) (O : List (List Int)) (y : List Int) : kmC s (O ++ [y]) = kmC s O + (if (s.all fun x => y.contains x) = true then 1 else 0) := by
  unfold kmC
  rw [List.filter_append, List.length_append, List.filter_cons]
  split <;> simp
theorem kmC_le (s : List Int) (O : List (List Int)) : kmC s O ≤ O.length := List.length_filter_le _ _
@[go_sem] theorem ren_il3 {H : List Blk} {k : Nat} {js : List (Option Nat)} (xs : List (List (List Int))) : Ren H k js (il3 xs) (il3 xs) := .old _ (by rw [Bel_il3]; trivial)
theorem l25Matrix_ok (H : List Blk) (p : Nat) (n t k : Nat) (els : List (List Int)) (hn : n ≤ 32) (hl : els.length ≤ 720) (ho : ∀ q ∈ els, permOk n q) (ht : t ≤ n) (hk : k ≤ n) (hmt : ch n t ≤ 2000) (hmk : ch n k ≤ 2000)
    (hpos : ∀ R ∈ (orbL n t els (ch n t)).1, R ≠ []) (hlen : ∀ R ∈ (orbL n k els (ch n k)).1, R.length ≤ 720) (hp : H[p]? = some ⟨0, tyG, 1, [I n, ilSS els]⟩) :
    ACalls Tryz.prog f_spec_l25Matrix [.pc p 0 0, I t, I k] H (fun r H' => r = ilSS (kmM (orbL n t els (ch n t)).1 (orbL n k els (ch n k)).1) ∧ H' = H) := by
  have h1 := l25Orbits_ok H p n t els hn hl ho ht hmt hp
  have h2 := l25Orbits_ok H p n k els hn hl ho hk hmk hp
  have l1 := (orbL_len n t els (ch n t)).2
  have l2 := (orbL_len n k els (ch n k)).2
  generalize (orbL n t els (ch n t)).1 = rows at *
  generalize (orbL n k els (ch n k)).1 = cols at *
  refine ACalls.introB s_spec_l25Matrix (by simp) ?_; intro hB hA; unfold c_spec_l25Matrix; simp (config := { maxSteps := 1000000 }) (disch := (first | omega | (simp only [go_sem]; try omega))) only [go_sem, Nat.reduceAdd, Nat.reduceEqDiff, Nat.reduceLeDiff, Nat.reduceMul, Nat.reduceLT, reduceIte, Int.reduceToNat, w64_id, cast_succ]
  repeat (first | (with_reducible first | refine SW.seq ?_ | refine SW.block ?_ | refine SW.rowC ?_ | refine SW.skip ?_ | refine SW.exit ?_ | intro _ | refine And.intro (by omega) ?_) | simp (config := { maxSteps := 1000000 }) (disch := (first | omega | (simp only [go_sem]; try omega))) only [go_sem, Nat.reduceAdd, Nat.reduceEqDiff, Nat.reduceLeDiff, Nat.reduceMul, Nat.reduceLT, reduceIte, Int.reduceToNat, w64_id, cast_succ])
  refine ACalls.fn h1 ?_
  repeat (first | (with_reducible first | refine SW.seq ?_ | refine SW.block ?_ | refine SW.rowC ?_ | refine SW.skip ?_ | refine SW.exit ?_ | intro _ | refine And.intro (by omega) ?_) | simp (config := { maxSteps := 1000000 }) (disch := (first | omega | (simp only [go_sem]; try omega))) only [go_sem, Nat.reduceAdd, Nat.reduceEqDiff, Nat.reduceLeDiff, Nat.reduceMul, Nat.reduceLT, reduceIte, Int.reduceToNat, w64_id, cast_succ])
  refine ACalls.fn h2 ?_
  repeat (first | (with_reducible first | refine SW.seq ?_ | refine SW.block ?_ | refine SW.rowC ?_ | refine SW.skip ?_ | refine SW.exit ?_ | intro _ | refine And.intro (by omega) ?_) | simp (config := { maxSteps := 1000000 }) (disch := (first | omega | (simp only [go_sem]; try omega))) only [go_sem, Nat.reduceAdd, Nat.reduceEqDiff, Nat.reduceLeDiff, Nat.reduceMul, Nat.reduceLT, reduceIte, Int.reduceToNat, w64_id, cast_succ])
  refine SW.loopE (fun E0 H0 q E' H' => ∃ (pre post : List (List (List Int))) (ver : Nat), rows = pre ++ post ∧ q = post.length ∧ E' = aput (aput E0 10 (I pre.length)) 9 (.nm H.length ver 0 (kmM pre cols).length) ∧ H' = H ++ [⟨ver, tyLL, 1, (kmM pre cols).map ilS⟩]) rows.length ⟨[], rows, 0, rfl, rfl, rfl, rfl⟩ ?_
  rintro q E' H' ⟨pre, post, ver, hpp, rfl, rfl, rfl⟩
  have hpl : pre.length ≤ 2000 := by rw [hpp] at l1; simp at l1; omega
  have hml : (kmM pre cols).length = pre.length := by simp [kmM]
  have hms : ∀ y, kmM (pre ++ [y]) cols = kmM pre cols ++ [kmR (y.getD 0 []) cols] := fun y => by simp [kmM]
  generalize hM : kmM pre cols = M at *
  simp (config := { maxSteps := 1000000 }) (disch := (first | omega | (simp only [go_sem]; try omega))) only [go_sem, Nat.reduceAdd, Nat.reduceEqDiff, Nat.reduceLeDiff, Nat.reduceMul, Nat.reduceLT, reduceIte, Int.reduceToNat, w64_id, cast_succ]
  repeat (first | (with_reducible first | refine SW.seq ?_ | refine SW.block ?_ | refine SW.rowC ?_ | refine SW.skip ?_ | refine SW.exit ?_ | intro _ | refine And.intro (by omega) ?_) | simp (config := { maxSteps := 1000000 }) (disch := (first | omega | (simp only [go_sem]; try omega))) only [go_sem, Nat.reduceAdd, Nat.reduceEqDiff, Nat.reduceLeDiff, Nat.reduceMul, Nat.reduceLT, reduceIte, Int.reduceToNat, w64_id, cast_succ])
  (first | refine SW.condD rfl (fun h => ?_) (fun h => ?_) | refine SW.condN rfl (fun h => ?_) (fun h => ?_) | refine SW.condNB rfl (fun h => ?_) (fun h => ?_) | refine SW.condB rfl (fun h => ?_) (fun h => ?_))
  · obtain ⟨R, post, rfl, hgR, -⟩ := consOf (d := []) hpp (by omega)
    have hR := hpos R (by rw [hpp]; simp)
    have hR0 : 0 < R.length := by cases R with
      | nil => exact absurd rfl hR
      | cons a b => simp
    repeat (first | (with_reducible first | refine SW.seq ?_ | refine SW.block ?_ | refine SW.rowC ?_ | refine SW.skip ?_ | refine SW.exit ?_ | intro _ | refine And.intro (by omega) ?_) | simp (config := { maxSteps := 1000000 }) (disch := (first | omega | (simp only [go_sem]; try omega))) only [go_sem, Nat.reduceAdd, Nat.reduceEqDiff, Nat.reduceLeDiff, Nat.reduceMul, Nat.reduceLT, reduceIte, Int.reduceToNat, w64_id, cast_succ])
    refine SW.loopE (fun E0 H0 q E' H' => ∃ (pr po : List (List (List Int))) (v2 : Nat), cols = pr ++ po ∧ q = po.length ∧ E' = aput (aput E0 12 (I pr.length)) 11 (.nm (H.length + 1) v2 0 (kmR (R.getD 0 []) pr).length) ∧ H' = H ++ [⟨ver, tyLL, 1, M.map ilS⟩, ⟨v2, 2, 1, (kmR (R.getD 0 []) pr).map I⟩]) cols.length ⟨[], cols, 0, rfl, rfl, rfl, rfl⟩ ?_
    rintro q E' H' ⟨pr, po, v2, hp2, rfl, rfl, rfl⟩
    have hprl : pr.length ≤ 2000 := by rw [hp2] at l2; simp at l2; omega
    have hkl : (kmR (R.getD 0 []) pr).length = pr.length := by simp [kmR]
    have hks : ∀ y, kmR (R.getD 0 []) (pr ++ [y]) = kmR (R.getD 0 []) pr ++ [(kmC (R.getD 0 []) y : Int)] := fun y => by simp [kmR]
    generalize hK : kmR (R.getD 0 []) pr = K at *
    simp (config := { maxSteps := 1000000 }) (disch := (first | omega | (simp only [go_sem]; try omega))) only [go_sem, Nat.reduceAdd, Nat.reduceEqDiff, Nat.reduceLeDiff, Nat.reduceMul, Nat.reduceLT, reduceIte, Int.reduceToNat, w64_id, cast_succ]
    repeat (first | (with_reducible first | refine SW.seq ?_ | refine SW.block ?_ | refine SW.rowC ?_ | refine SW.skip ?_ | refine SW.exit ?_ | intro _ | refine And.intro (by omega) ?_) | simp (config := { maxSteps := 1000000 }) (disch := (first | omega | (simp only [go_sem]; try omega))) only [go_sem, Nat.reduceAdd, Nat.reduceEqDiff, Nat.reduceLeDiff, Nat.reduceMul, Nat.reduceLT, reduceIte, Int.reduceToNat, w64_id, cast_succ])
    (first | refine SW.condD rfl (fun h2 => ?_) (fun h2 => ?_) | refine SW.condN rfl (fun h2 => ?_) (fun h2 => ?_) | refine SW.condNB rfl (fun h2 => ?_) (fun h2 => ?_) | refine SW.condB rfl (fun h2 => ?_) (fun h2 => ?_))
    · obtain ⟨O, po, rfl, hgO, -⟩ := consOf (d := []) hp2 (by omega)
      have hO := hlen O (by rw [hp2]; simp)
      repeat (first | (with_reducible first | refine SW.seq ?_ | refine SW.block ?_ | refine SW.rowC ?_ | refine SW.skip ?_ | refine SW.exit ?_ | intro _ | refine And.intro (by omega) ?_) | simp (config := { maxSteps := 1000000 }) (disch := (first | omega | (simp only [go_sem]; try omega))) only [go_sem, Nat.reduceAdd, Nat.reduceEqDiff, Nat.reduceLeDiff, Nat.reduceMul, Nat.reduceLT, reduceIte, Int.reduceToNat, w64_id, cast_succ])
      refine SW.loopE (fun E0 H0 q E' H' => ∃ (a b : List (List Int)), O = a ++ b ∧ q = b.length ∧ E' = aput (aput E0 14 (I a.length)) 13 (I (kmC (R.getD 0 []) a)) ∧ H' = H0) O.length ⟨[], O, rfl, rfl, rfl, rfl⟩ ?_
      rintro q E' H' ⟨a, b, hab, rfl, rfl, rfl⟩
      have hal : a.length ≤ 720 := by rw [hab] at hO; simp at hO; omega
      have hcs := fun y => kmC_snoc (R.getD 0 []) a y
      have hcl := kmC_le (R.getD 0 []) a
      generalize hc : kmC (R.getD 0 []) a = c at *
      simp (config := { maxSteps := 1000000 }) (disch := (first | omega | (simp only [go_sem]; try omega))) only [go_sem, Nat.reduceAdd, Nat.reduceEqDiff, Nat.reduceLeDiff, Nat.reduceMul, Nat.reduceLT, reduceIte, Int.reduceToNat, w64_id, cast_succ]
      repeat (first | (with_reducible first | refine SW.seq ?_ | refine SW.block ?_ | refine SW.rowC ?_ | refine SW.skip ?_ | refine SW.exit ?_ | intro _ | refine And.intro (by omega) ?_) | simp (config := { maxSteps := 1000000 }) (disch := (first | omega | (simp only [go_sem]; try omega))) only [go_sem, Nat.reduceAdd, Nat.reduceEqDiff, Nat.reduceLeDiff, Nat.reduceMul, Nat.reduceLT, reduceIte, Int.reduceToNat, w64_id, cast_succ, hgO])
      (first | refine SW.condD rfl (fun h3 => ?_) (fun h3 => ?_) | refine SW.condN rfl (fun h3 => ?_) (fun h3 => ?_) | refine SW.condNB rfl (fun h3 => ?_) (fun h3 => ?_) | refine SW.condB rfl (fun h3 => ?_) (fun h3 => ?_))
      · obtain ⟨y, b, rfl, hgy, -⟩ := consOf (d := []) hab (by omega)
        have hw := l25Within_fn (R.getD 0 []) y
        cases hwy : (R.getD 0 []).all fun x => y.contains x
        · rw [hwy] at hw
          repeat (first | (with_reducible first | refine SW.seq ?_ | refine SW.block ?_ | refine SW.rowC ?_ | refine SW.skip ?_ | refine SW.exit ?_ | refine PFn.use (hw) ?_ | refine PFn.useq (hw) ?_ | intro _ | refine And.intro (by omega) ?_) | simp (config := { maxSteps := 1000000 }) (disch := (first | omega | (simp only [go_sem]; try omega))) only [go_sem, Nat.reduceAdd, Nat.reduceEqDiff, Nat.reduceLeDiff, Nat.reduceMul, Nat.reduceLT, reduceIte, Int.reduceToNat, w64_id, cast_succ, hgR, hgO, hgy])
          refine SW.condF rfl ?_
          repeat (first | (with_reducible first | refine SW.seq ?_ | refine SW.block ?_ | refine SW.rowC ?_ | refine SW.skip ?_ | refine SW.exit ?_ | intro _ | refine And.intro (by omega) ?_) | simp (config := { maxSteps := 1000000 }) (disch := (first | omega | (simp only [go_sem]; try omega))) only [go_sem, Nat.reduceAdd, Nat.reduceEqDiff, Nat.reduceLeDiff, Nat.reduceMul, Nat.reduceLT, reduceIte, Int.reduceToNat, w64_id, cast_succ])
          refine SLoop.next b.length (by simp) ⟨a ++ [y], b, by simp [hab], rfl, ?_, rfl⟩
          rw [hcs, if_neg (by rw [hwy]; simp)]; simp [go_sem]
        · rw [hwy] at hw
          repeat (first | (with_reducible first | refine SW.seq ?_ | refine SW.block ?_ | refine SW.rowC ?_ | refine SW.skip ?_ | refine SW.exit ?_ | refine PFn.use (hw) ?_ | refine PFn.useq (hw) ?_ | intro _ | refine And.intro (by omega) ?_) | simp (config := { maxSteps := 1000000 }) (disch := (first | omega | (simp only [go_sem]; try omega))) only [go_sem, Nat.reduceAdd, Nat.reduceEqDiff, Nat.reduceLeDiff, Nat.reduceMul, Nat.reduceLT, reduceIte, Int.reduceToNat, w64_id, cast_succ, hgR, hgO, hgy])
          refine SW.condT rfl ?_
          repeat (first | (with_reducible first | refine SW.seq ?_ | refine SW.block ?_ | refine SW.rowC ?_ | refine SW.skip ?_ | refine SW.exit ?_ | intro _ | refine And.intro (by omega) ?_) | simp (config := { maxSteps := 1000000 }) (disch := (first | omega | (simp only [go_sem]; try omega))) only [go_sem, Nat.reduceAdd, Nat.reduceEqDiff, Nat.reduceLeDiff, Nat.reduceMul, Nat.reduceLT, reduceIte, Int.reduceToNat, w64_id, cast_succ])
          refine SLoop.next b.length (by simp) ⟨a ++ [y], b, by simp [hab], rfl, ?_, rfl⟩
          rw [hcs, if_pos hwy]; simp [go_sem]
      · obtain ⟨rfl, rfl⟩ := nilOf hab (by omega)
        have htk : (K.map I).take K.length = K.map I := List.take_of_length_le (by simp)
        repeat (first | (with_reducible first | refine SW.seq ?_ | refine SW.block ?_ | refine SW.rowC ?_ | refine SW.skip ?_ | refine SW.exit ?_ | intro _ | refine And.intro (by omega) ?_) | simp (config := { maxSteps := 1000000 }) (disch := (first | omega | (simp only [go_sem]; try omega))) only [go_sem, Nat.reduceAdd, Nat.reduceEqDiff, Nat.reduceLeDiff, Nat.reduceMul, Nat.reduceLT, reduceIte, Int.reduceToNat, w64_id, cast_succ, htk])
        refine SLoop.nextT 2 po.length hB (by omega) (by simp) (by simp) ?_ ?_ ⟨pr ++ [a], po, v2 + 1, by simp [hp2], rfl, ?_, ?_⟩
        · (simp only [go_sem, Nat.reduceAdd, Nat.reduceEqDiff, reduceIte, go_sem, and_self, and_true, true_and, implies_true, List.take_succ_cons, List.take_zero, and_true, true_and, Bel_il3]; try omega)
        · (simp only [go_sem, Nat.reduceAdd, Nat.reduceEqDiff, reduceIte, go_sem, and_self, and_true, true_and, implies_true, List.take_succ_cons, List.take_zero, and_true, true_and]; try omega)
        · rw [hks, hc]; simp [go_sem]
        · rw [hks, hc]; simp
    · obtain ⟨rfl, rfl⟩ := nilOf hp2 (by omega)
      have e2 : ∀ a b : Blk, H ++ [a, b] = (H ++ [a]) ++ [b] := fun a b => by simp
      rw [e2]
      have hrow := ren_rowI (H := H ++ [(⟨ver, tyLL, 1, M.map ilS⟩ : Blk)] ++ [⟨v2, 2, 1, K.map I⟩]) (k := (H ++ [(⟨ver, tyLL, 1, M.map ilS⟩ : Blk)]).length) (js := []) (r := H.length + 1) (ver := v2) (ty := 2) (xs := K) (by simp) (by simp) (by rw [List.getElem?_append_right (by simp)]; simp)
      have hB1 : HB (H ++ [(⟨ver, tyLL, 1, M.map ilS⟩ : Blk)]) := hB.app (k := H.length) (by (simp only [go_sem, Nat.reduceAdd, Nat.reduceEqDiff, reduceIte, go_sem, and_self, and_true, true_and, implies_true, List.take_succ_cons, List.take_zero, and_true, true_and]; try omega)) (by simp)
      refine SW.froz hB1 (by simp) (.cons _ (ren_il3 _) (.cons _ (ren_il3 _) (.cons _ (.old _ (by simp [go_sem])) (.cons _ (ren_I _) (.cons _ hrow (.cons _ (ren_I _) (.cons _ (ren_B _) .nil))))))) ?_
      have htl : (M.map ilS).take M.length = M.map ilS := List.take_of_length_le (by simp)
      repeat (first | (with_reducible first | refine SW.seq ?_ | refine SW.block ?_ | refine SW.rowC ?_ | refine SW.skip ?_ | refine SW.exit ?_ | intro _ | refine And.intro (by omega) ?_) | simp (config := { maxSteps := 1000000 }) (disch := (first | omega | (simp only [go_sem]; try omega))) only [go_sem, Nat.reduceAdd, Nat.reduceEqDiff, Nat.reduceLeDiff, Nat.reduceMul, Nat.reduceLT, reduceIte, Int.reduceToNat, w64_id, cast_succ, htl])
      refine SLoop.nextT 1 post.length hB (by omega) (by simp) (by simp) ?_ ?_ ⟨pre ++ [R], post, ver + 1, by simp [hpp], rfl, ?_, ?_⟩
      · (simp only [go_sem, Nat.reduceAdd, Nat.reduceEqDiff, reduceIte, go_sem, and_self, and_true, true_and, implies_true, List.take_succ_cons, List.take_zero, and_true, true_and, Bel_il3]; try omega)
      · (simp only [go_sem, Nat.reduceAdd, Nat.reduceEqDiff, reduceIte, go_sem, and_self, and_true, true_and, implies_true, List.take_succ_cons, List.take_zero, and_true, true_and]; try omega)
      · rw [hms, hK]; simp [go_sem]
      · rw [hms, hK]; simp
  · obtain ⟨rfl, rfl⟩ := nilOf hpp (by omega)
    repeat (first | (with_reducible first | refine SW.seq ?_ | refine SW.block ?_ | refine SW.rowC ?_ | refine SW.skip ?_ | refine SW.exit ?_ | intro _ | refine And.intro (by omega) ?_) | simp (config := { maxSteps := 1000000 }) (disch := (first | omega | (simp only [go_sem]; try omega))) only [go_sem, Nat.reduceAdd, Nat.reduceEqDiff, Nat.reduceLeDiff, Nat.reduceMul, Nat.reduceLT, reduceIte, Int.reduceToNat, w64_id, cast_succ])
    refine SW.ret ?_; (try simp only [go_sem]); (first | refine FunPost.one ?_ | refine FunPost.two ?_ | refine FunPost.three ?_); (try simp (config := { maxSteps := 1000000 }) (disch := (first | omega | (simp only [go_sem]; try omega))) only [go_sem, Nat.reduceAdd, Nat.reduceEqDiff, Nat.reduceLeDiff, Nat.reduceMul, Nat.reduceLT, reduceIte, Int.reduceToNat, w64_id, cast_succ])
    exact GR.froz (froz_rowS (r := H.length) (ver := ver) (ty := tyLL) (xs := M) (Nat.le_refl _) (by simp)) ⟨by rw [hM], rfl⟩
end Go.Proofs.YtkifdjjnbplghaaGreat
