/- Counting packings: the reference. -/
import Derived.Test.YthogadbnddmkdaaProg
import Derived.KernelRfl
import Derived.Test.YthogadbnddmkdaazSJ
import Derived.Test.YthogadbnddmkdaazS3
import Derived.Test.YthogadbnddmkdaazZP
set_option linter.unusedSimpArgs false
set_option linter.unusedVariables false
set_option maxHeartbeats 4000000
set_option maxRecDepth 100000
namespace Go.Proofs.Ythogadbnddmkdaa
open Go.Av
abbrev f_spec_CountLabeled : Nat := 9
def c_spec_CountLabeled : SC :=
 .seq (.reg [
     ⟨(some 10), .mv (.const (.int .i64 0)), none⟩,
     ⟨(some 11), .mv (.const (.int .i64 0)), none⟩] [0, 1, 2, 3, 4])
 (.seq (.seq (.reg [
     ⟨(some 13), .mv (.tmp 4), none⟩,
     ⟨(some 14), .call 35 [(.tmp 13)], none⟩,
     ⟨(some 15), .un .not (.tmp 14), none⟩,
     ⟨(some 16), .mv (.tmp 15), none⟩,
     ⟨(some 17), .mv (.tmp 0), (some (16, false))⟩,
     ⟨(some 18), .mv (.tmp 1), (some (16, false))⟩,
     ⟨(some 19), .mv (.tmp 2), (some (16, false))⟩,
     ⟨(some 20), .mv (.tmp 3), (some (16, false))⟩,
     ⟨(some 21), .call 36 [(.tmp 17), (.tmp 18), (.tmp 19), (.tmp 20)], (some (16, false))⟩,
     ⟨(some 22), .un .not (.tmp 21), (some (16, false))⟩,
     ⟨(some 23), .pick (.tmp 16) (.const (.bool true)) (.tmp 22), none⟩] [0, 1, 2, 3, 4, 23])
 (.cond (.tmp 23)
  (.seq (.reg [
      ⟨(some 10), .mv (.const (.int .i64 0)), none⟩,
      ⟨(some 11), .mv (.const (.int .i64 2)), none⟩] [10, 11])
  (.ret))
  (.skip)))
 (.seq (.reg [
     ⟨(some 24), .mv (.tmp 0), none⟩,
     ⟨(some 25), .mv (.tmp 1), none⟩,
     ⟨(some 26), .mv (.tmp 2), none⟩,
     ⟨(some 27), .mv (.tmp 3), none⟩,
     ⟨(some 28), .mv (.tmp 4), none⟩,
     ⟨(some 29), .build [(.int .i64 0), (.int .i64 0), (.int .i64 0), (.int .i64 0), (.int .i64 0), (.int .i64 0), (.int .i64 0), (.bool false)] [(0, 1, (.tmp 24)), (1, 1, (.tmp 25)), (2, 1, (.tmp 26)), (3, 1, (.tmp 27)), (6, 1, (.tmp 28))], none⟩,
     ⟨(some 30), .box 63 (.tmp 29), none⟩,
     ⟨(some 12), .mv (.tmp 30), none⟩] [12])
 (.seq (.reg [
     ⟨(some 31), .mv (.tmp 12), none⟩,
     ⟨(some 32), .bslice 39 1 0 [] [], none⟩,
     ⟨(some 33), .call 37 [(.tmp 31), (.tmp 32), (.const (.int .i64 0))], none⟩] [12])
 (.seq (.seq (.reg [
     ⟨(some 34), .mv (.tmp 12), none⟩,
     ⟨(some 35), .nilc (.tmp 34), none⟩,
     ⟨(some 36), .faddr 7 (.tmp 35), none⟩,
     ⟨(some 37), .load 1 false (.tmp 36), none⟩] [12, 37])
 (.cond (.tmp 37)
  (.seq (.reg [
      ⟨(some 10), .mv (.const (.int .i64 0)), none⟩,
      ⟨(some 11), .mv (.const (.int .i64 5)), none⟩] [10, 11])
  (.ret))
  (.skip)))
 (.seq (.reg [
     ⟨(some 38), .mv (.tmp 12), none⟩,
     ⟨(some 39), .nilc (.tmp 38), none⟩,
     ⟨(some 40), .faddr 4 (.tmp 39), none⟩,
     ⟨(some 41), .load 1 false (.tmp 40), none⟩,
     ⟨(some 10), .mv (.tmp 41), none⟩,
     ⟨(some 11), .mv (.const (.int .i64 0)), none⟩] [10, 11])
 (.ret))))))
theorem s_spec_CountLabeled : stripF Try.prog 9 [[0, 1, 2, 3, 4], [0, 1, 2, 3, 4, 23], [10, 11], [12], [12], [12, 37], [10, 11], [10, 11]] = some (c_spec_CountLabeled, [.tmp 10, .tmp 11], 42) := by kernel_rfl
abbrev f_spec_l09Budget : Nat := 35
def c_spec_l09Budget : SC :=
 .seq (.reg [
     ⟨(some 2), .mv (.const (.bool false)), none⟩] [0])
 (.seq (.reg [
     ⟨(some 3), .mv (.tmp 0), none⟩,
     ⟨(some 4), .call 83 [(.tmp 3), (.const (.int .i64 1)), (.const (.int .i64 20000))], none⟩,
     ⟨(some 2), .mv (.tmp 4), none⟩] [2])
 (.ret))
theorem s_spec_l09Budget : stripF Try.prog 35 [[0], [2]] = some (c_spec_l09Budget, [.tmp 2], 5) := by kernel_rfl
abbrev f_impl_isBudget : Nat := 38
def c_impl_isBudget : SC :=
 .seq (.reg [
     ⟨(some 2), .mv (.const (.bool false)), none⟩] [0])
 (.seq (.reg [
     ⟨(some 3), .mv (.tmp 0), none⟩,
     ⟨(some 4), .call 60 [(.tmp 3), (.const (.int .i64 1)), (.const (.int .i64 20000))], none⟩,
     ⟨(some 2), .mv (.tmp 4), none⟩] [2])
 (.ret))
theorem s_impl_isBudget : stripF Try.prog 38 [[0], [2]] = some (c_impl_isBudget, [.tmp 2], 5) := by kernel_rfl
def budB (b : Int) : Bool := decide (1 ≤ b) && decide (b ≤ 20000)
theorem isBudgetL_fn (n : Int) : PFn Try.prog f_impl_isBudget [I n] (Bv (budB n)) := by
  intro H; refine ACalls.introB s_impl_isBudget (by simp) ?_; intro hB hA; unfold c_impl_isBudget; simp (config := { maxSteps := 1000000 }) (disch := (first | omega | (simp only [go_sem]; try omega))) only [go_sem, Nat.reduceAdd, Nat.reduceEqDiff, Nat.reduceLeDiff, Nat.reduceMul, Nat.reduceLT, reduceIte, Int.reduceToNat, w64_id, cast_succ]
  repeat (first | (with_reducible first | refine SW.seq ?_ | refine SW.block ?_ | refine SW.rowC ?_ | refine SW.skip ?_ | refine SW.exit ?_ | refine PFn.use (within_fn _ _ _) ?_ | refine PFn.useq (within_fn _ _ _) ?_ | intro _ | refine And.intro (by omega) ?_) | simp (config := { maxSteps := 1000000 }) (disch := (first | omega | (simp only [go_sem]; try omega))) only [go_sem, Nat.reduceAdd, Nat.reduceEqDiff, Nat.reduceLeDiff, Nat.reduceMul, Nat.reduceLT, reduceIte, Int.reduceToNat, w64_id, cast_succ])
  refine SW.ret ?_; (try simp only [go_sem]); (first | refine FunPost.one ?_ | refine FunPost.two ?_ | refine FunPost.three ?_); (try simp (config := { maxSteps := 1000000 }) (disch := (first | omega | (simp only [go_sem]; try omega))) only [go_sem, Nat.reduceAdd, Nat.reduceEqDiff, Nat.reduceLeDiff, Nat.reduceMul, Nat.reduceLT, reduceIte, Int.reduceToNat, w64_id, cast_succ]); (first | (with_reducible refine GR.drop ?_ ?_; (simp only [go_sem, and_self, and_true, true_and, implies_true, List.take_succ_cons, List.take_zero])) | refine GR.of ?_); refine ⟨?_, rfl⟩; (try with_reducible rfl)
  rfl
theorem l09BudgetL_fn (b : Int) : PFn Try.prog f_spec_l09Budget [I b] (Bv (budB b)) := by
  intro H; refine ACalls.introB s_spec_l09Budget (by simp) ?_; intro hB hA; unfold c_spec_l09Budget; simp (config := { maxSteps := 1000000 }) (disch := (first | omega | (simp only [go_sem]; try omega))) only [go_sem, Nat.reduceAdd, Nat.reduceEqDiff, Nat.reduceLeDiff, Nat.reduceMul, Nat.reduceLT, reduceIte, Int.reduceToNat, w64_id, cast_succ]
  repeat (first | (with_reducible first | refine SW.seq ?_ | refine SW.block ?_ | refine SW.rowC ?_ | refine SW.skip ?_ | refine SW.exit ?_ | refine PFn.use (l00In_fn _ _ _) ?_ | refine PFn.useq (l00In_fn _ _ _) ?_ | intro _ | refine And.intro (by omega) ?_) | simp (config := { maxSteps := 1000000 }) (disch := (first | omega | (simp only [go_sem]; try omega))) only [go_sem, Nat.reduceAdd, Nat.reduceEqDiff, Nat.reduceLeDiff, Nat.reduceMul, Nat.reduceLT, reduceIte, Int.reduceToNat, w64_id, cast_succ])
  refine SW.ret ?_; (try simp only [go_sem]); (first | refine FunPost.one ?_ | refine FunPost.two ?_ | refine FunPost.three ?_); (try simp (config := { maxSteps := 1000000 }) (disch := (first | omega | (simp only [go_sem]; try omega))) only [go_sem, Nat.reduceAdd, Nat.reduceEqDiff, Nat.reduceLeDiff, Nat.reduceMul, Nat.reduceLT, reduceIte, Int.reduceToNat, w64_id, cast_succ]); (first | (with_reducible refine GR.drop ?_ ?_; (simp only [go_sem, and_self, and_true, true_and, implies_true, List.take_succ_cons, List.take_zero])) | refine GR.of ?_); refine ⟨?_, rfl⟩; (try with_reducible rfl)
  rfl
theorem subsL_ascK : ∀ (m : Nat) (lo : Int) (k : Nat), Asc cmpL (subsL m lo k)
  | m, lo, 0 => by cases m <;> simp [subsL, Asc]
  | 0, lo, k + 1 => by simp [subsL, Asc]
  | m + 1, lo, k + 1 => by
    unfold subsL Asc
    rw [List.pairwise_append, List.pairwise_map]
    refine ⟨(subsL_ascK m (lo + 1) k).imp (fun h => ?_), subsL_ascK m (lo + 1) (k + 1), ?_⟩
    · simpa [cmpL] using h
    · intro a ha b hb
      obtain ⟨c, _, rfl⟩ := List.mem_map.1 ha
      obtain ⟨h1, h2⟩ := subsL_mem m (lo + 1) (k + 1) b hb
      cases b with
      | nil => simp at h1
      | cons y r =>
        have := asc_mem h2 y (by simp)
        simp only [cmpL]
        split <;> omega
theorem subsN_nodupK (n k : Nat) : (subsN n k).Nodup := (subsL_ascK n 0 k).imp (fun h e => by rw [e, (cmpL_eq0 _ _).2 rfl] at h; omega)
def cntV (v k m s b : Int) : Int × Int := if (budB b && packB v k m s) = true then (match cl s [] (subsN v.toNat k.toNat) m.toNat b.toNat with | some (c, _) => ((c : Int), 0) | none => (0, 5)) else (0, 2)
theorem specCountL_fn (v k m s b : Int) : PFn Try.prog f_spec_CountLabeled [I v, I k, I m, I s, I b] (.tup [I (cntV v k m s b).1, I (cntV v k m s b).2]) := by
  have h1 := l09BudgetL_fn b
  have h2 := l27Range_fn v k m s
  unfold cntV
  cases hb : budB b
  · rw [hb] at h1
    intro H; refine ACalls.introB s_spec_CountLabeled (by simp) ?_; intro hB hA; unfold c_spec_CountLabeled; simp (config := { maxSteps := 1000000 }) (disch := (first | omega | (simp only [go_sem]; try omega))) only [go_sem, Nat.reduceAdd, Nat.reduceEqDiff, Nat.reduceLeDiff, Nat.reduceMul, Nat.reduceLT, reduceIte, Int.reduceToNat, w64_id, cast_succ]
    repeat (first | (with_reducible first | refine SW.seq ?_ | refine SW.block ?_ | refine SW.rowC ?_ | refine SW.skip ?_ | refine SW.exit ?_ | refine PFn.use (h1) ?_ | refine PFn.useq (h1) ?_ | intro _ | refine And.intro (by omega) ?_) | simp (config := { maxSteps := 1000000 }) (disch := (first | omega | (simp only [go_sem]; try omega))) only [go_sem, Nat.reduceAdd, Nat.reduceEqDiff, Nat.reduceLeDiff, Nat.reduceMul, Nat.reduceLT, reduceIte, Int.reduceToNat, w64_id, cast_succ])
    refine SW.condT rfl ?_
    repeat (first | (with_reducible first | refine SW.seq ?_ | refine SW.block ?_ | refine SW.rowC ?_ | refine SW.skip ?_ | refine SW.exit ?_ | intro _ | refine And.intro (by omega) ?_) | simp (config := { maxSteps := 1000000 }) (disch := (first | omega | (simp only [go_sem]; try omega))) only [go_sem, Nat.reduceAdd, Nat.reduceEqDiff, Nat.reduceLeDiff, Nat.reduceMul, Nat.reduceLT, reduceIte, Int.reduceToNat, w64_id, cast_succ])
    refine SW.ret ?_; (try simp only [go_sem]); (first | refine FunPost.one ?_ | refine FunPost.two ?_ | refine FunPost.three ?_); (try simp (config := { maxSteps := 1000000 }) (disch := (first | omega | (simp only [go_sem]; try omega))) only [go_sem, Nat.reduceAdd, Nat.reduceEqDiff, Nat.reduceLeDiff, Nat.reduceMul, Nat.reduceLT, reduceIte, Int.reduceToNat, w64_id, cast_succ]); (first | (with_reducible refine GR.drop ?_ ?_; (simp only [go_sem, and_self, and_true, true_and, implies_true, List.take_succ_cons, List.take_zero])) | refine GR.of ?_); refine ⟨?_, rfl⟩; (try with_reducible rfl)
  cases hpk : packB v k m s
  · rw [hb] at h1
    rw [hpk] at h2
    intro H; refine ACalls.introB s_spec_CountLabeled (by simp) ?_; intro hB hA; unfold c_spec_CountLabeled; simp (config := { maxSteps := 1000000 }) (disch := (first | omega | (simp only [go_sem]; try omega))) only [go_sem, Nat.reduceAdd, Nat.reduceEqDiff, Nat.reduceLeDiff, Nat.reduceMul, Nat.reduceLT, reduceIte, Int.reduceToNat, w64_id, cast_succ]
    repeat (first | (with_reducible first | refine SW.seq ?_ | refine SW.block ?_ | refine SW.rowC ?_ | refine SW.skip ?_ | refine SW.exit ?_ | refine PFn.use (h1) ?_ | refine PFn.useq (h1) ?_ | refine PFn.use (h2) ?_ | refine PFn.useq (h2) ?_ | intro _ | refine And.intro (by omega) ?_) | simp (config := { maxSteps := 1000000 }) (disch := (first | omega | (simp only [go_sem]; try omega))) only [go_sem, Nat.reduceAdd, Nat.reduceEqDiff, Nat.reduceLeDiff, Nat.reduceMul, Nat.reduceLT, reduceIte, Int.reduceToNat, w64_id, cast_succ])
    refine SW.condT rfl ?_
    repeat (first | (with_reducible first | refine SW.seq ?_ | refine SW.block ?_ | refine SW.rowC ?_ | refine SW.skip ?_ | refine SW.exit ?_ | intro _ | refine And.intro (by omega) ?_) | simp (config := { maxSteps := 1000000 }) (disch := (first | omega | (simp only [go_sem]; try omega))) only [go_sem, Nat.reduceAdd, Nat.reduceEqDiff, Nat.reduceLeDiff, Nat.reduceMul, Nat.reduceLT, reduceIte, Int.reduceToNat, w64_id, cast_succ])
    refine SW.ret ?_; (try simp only [go_sem]); (first | refine FunPost.one ?_ | refine FunPost.two ?_ | refine FunPost.three ?_); (try simp (config := { maxSteps := 1000000 }) (disch := (first | omega | (simp only [go_sem]; try omega))) only [go_sem, Nat.reduceAdd, Nat.reduceEqDiff, Nat.reduceLeDiff, Nat.reduceMul, Nat.reduceLT, reduceIte, Int.reduceToNat, w64_id, cast_succ]); (first | (with_reducible refine GR.drop ?_ ?_; (simp only [go_sem, and_self, and_true, true_and, implies_true, List.take_succ_cons, List.take_zero])) | refine GR.of ?_); refine ⟨?_, rfl⟩; (try with_reducible rfl)
  rw [hb] at h1
  rw [hpk] at h2
  obtain ⟨p1, p2, p3, p4, p5, p6⟩ := packB_t hpk
  simp only [budB, Bool.and_eq_true, decide_eq_true_eq] at hb
  obtain ⟨v, rfl⟩ := Int.eq_ofNat_of_zero_le (show 0 ≤ v by omega)
  obtain ⟨k, rfl⟩ := Int.eq_ofNat_of_zero_le (show 0 ≤ k by omega)
  obtain ⟨m, rfl⟩ := Int.eq_ofNat_of_zero_le (show 0 ≤ m by omega)
  obtain ⟨b, rfl⟩ := Int.eq_ofNat_of_zero_le (show 0 ≤ b by omega)
  simp only [Int.toNat_natCast, Bool.and_self, if_true]
  have hv : v ≤ 32 := by omega
  have hk : k ≤ v := by omega
  have hsub := fun R h => subset_fn v k R hv (by omega) h
  have hch : chooseI v k = ch v k := by rw [chooseI_any v k hv, if_pos (by omega)]; rfl
  have hcs := specChoose_fn v k
  rw [hch] at hcs
  have hcl : ch v k ≤ 64 := by
    have h1 := ch_le v k
    have h2 : 2 ^ v ≤ 2 ^ 6 := Nat.pow_le_pow_right (by omega) (by omega)
    omega
  have hSl : (subsN v k).length = ch v k := subsL_len v 0 k
  have hSa : ∀ t ∈ subsN v k, asc 0 31 t = true := fun t ht => by
    have := (subsL_mem v 0 k t ht).2
    exact asc_weak (by omega) this
  have hnd := subsN_nodupK v k
  rw [← hSl] at hcs hsub hcl
  clear hch hSl
  generalize subsN v k = S at *
  intro H
  refine ACalls.introB s_spec_CountLabeled (by simp) ?_; intro hB hA; unfold c_spec_CountLabeled; simp (config := { maxSteps := 1000000 }) (disch := (first | omega | (simp only [go_sem]; try omega))) only [go_sem, Nat.reduceAdd, Nat.reduceEqDiff, Nat.reduceLeDiff, Nat.reduceMul, Nat.reduceLT, reduceIte, Int.reduceToNat, w64_id, cast_succ]
  repeat (first | (with_reducible first | refine SW.seq ?_ | refine SW.block ?_ | refine SW.rowC ?_ | refine SW.skip ?_ | refine SW.exit ?_ | refine PFn.use (h1) ?_ | refine PFn.useq (h1) ?_ | refine PFn.use (h2) ?_ | refine PFn.useq (h2) ?_ | intro _ | refine And.intro (by omega) ?_) | simp (config := { maxSteps := 1000000 }) (disch := (first | omega | (simp only [go_sem]; try omega))) only [go_sem, Nat.reduceAdd, Nat.reduceEqDiff, Nat.reduceLeDiff, Nat.reduceMul, Nat.reduceLT, reduceIte, Int.reduceToNat, w64_id, cast_succ])
  refine SW.condF rfl ?_
  repeat (first | (with_reducible first | refine SW.seq ?_ | refine SW.block ?_ | refine SW.rowC ?_ | refine SW.skip ?_ | refine SW.exit ?_ | intro _ | refine And.intro (by omega) ?_) | simp (config := { maxSteps := 1000000 }) (disch := (first | omega | (simp only [go_sem]; try omega))) only [go_sem, Nat.reduceAdd, Nat.reduceEqDiff, Nat.reduceLeDiff, Nat.reduceMul, Nat.reduceLT, reduceIte, Int.reduceToNat, w64_id, cast_succ])
  have hrun := findRun_ok v k m s b S (by omega) (by omega) (by omega) hSa hnd hcs hsub m (H ++ [finB v k m s 0 0 b false, ⟨0, tyLL, 1, []⟩]) H.length (.nm (H.length + 1) 0 0 0) [] 0 0 0 (.inr ⟨H.length + 1, 0, rfl, by omega, by simp⟩) (by simp) (by simp) (by omega) (by omega) (by omega) (by simp)
  refine hrun.mono ?_
  rintro r H1 ⟨rfl, cnt, used, over, rfl, w1, w2, w3, w4, w5⟩
  rw [List.set_append_right _ _ (Nat.le_refl _), Nat.sub_self]
  simp only [List.set_cons_zero, List.drop_zero, Nat.sub_zero] at w4 w5 ⊢
  have hgp : (H ++ [finB v k m s cnt used b over, ⟨0, tyLL, 1, []⟩])[H.length]? = some (finB v k m s cnt used b over) := by simp
  have hpa := fun o => pc_alive (off := o) hgp
  have hpl := fun o => pc_ld (off := o) hgp
  unfold finB at hpa hpl ⊢
  cases over
  · obtain ⟨c, e1, e2⟩ := w5 rfl
    rw [e2]
    repeat (first | (with_reducible first | refine SW.seq ?_ | refine SW.block ?_ | refine SW.rowC ?_ | refine SW.skip ?_ | refine SW.exit ?_ | intro _ | refine And.intro (by omega) ?_) | simp (config := { maxSteps := 1000000 }) (disch := (first | omega | (simp only [go_sem]; try omega))) only [go_sem, Nat.reduceAdd, Nat.reduceEqDiff, Nat.reduceLeDiff, Nat.reduceMul, Nat.reduceLT, reduceIte, Int.reduceToNat, w64_id, cast_succ, hpa, hpl])
    refine SW.condF rfl ?_
    repeat (first | (with_reducible first | refine SW.seq ?_ | refine SW.block ?_ | refine SW.rowC ?_ | refine SW.skip ?_ | refine SW.exit ?_ | intro _ | refine And.intro (by omega) ?_) | simp (config := { maxSteps := 1000000 }) (disch := (first | omega | (simp only [go_sem]; try omega))) only [go_sem, Nat.reduceAdd, Nat.reduceEqDiff, Nat.reduceLeDiff, Nat.reduceMul, Nat.reduceLT, reduceIte, Int.reduceToNat, w64_id, cast_succ, hpa, hpl])
    refine SW.ret ?_; (try simp only [go_sem]); (first | refine FunPost.one ?_ | refine FunPost.two ?_ | refine FunPost.three ?_); (try simp (config := { maxSteps := 1000000 }) (disch := (first | omega | (simp only [go_sem]; try omega))) only [go_sem, Nat.reduceAdd, Nat.reduceEqDiff, Nat.reduceLeDiff, Nat.reduceMul, Nat.reduceLT, reduceIte, Int.reduceToNat, w64_id, cast_succ])
    rw [show cnt = c by omega]
    exact GR.froz (froz_tup2 (froz_I' _) (froz_I' _)) ⟨rfl, rfl⟩
  · obtain ⟨e1, e2⟩ := w4 rfl
    rw [e2]
    repeat (first | (with_reducible first | refine SW.seq ?_ | refine SW.block ?_ | refine SW.rowC ?_ | refine SW.skip ?_ | refine SW.exit ?_ | intro _ | refine And.intro (by omega) ?_) | simp (config := { maxSteps := 1000000 }) (disch := (first | omega | (simp only [go_sem]; try omega))) only [go_sem, Nat.reduceAdd, Nat.reduceEqDiff, Nat.reduceLeDiff, Nat.reduceMul, Nat.reduceLT, reduceIte, Int.reduceToNat, w64_id, cast_succ, hpa, hpl])
    refine SW.condT rfl ?_
    repeat (first | (with_reducible first | refine SW.seq ?_ | refine SW.block ?_ | refine SW.rowC ?_ | refine SW.skip ?_ | refine SW.exit ?_ | intro _ | refine And.intro (by omega) ?_) | simp (config := { maxSteps := 1000000 }) (disch := (first | omega | (simp only [go_sem]; try omega))) only [go_sem, Nat.reduceAdd, Nat.reduceEqDiff, Nat.reduceLeDiff, Nat.reduceMul, Nat.reduceLT, reduceIte, Int.reduceToNat, w64_id, cast_succ, hpa, hpl])
    refine SW.ret ?_; (try simp only [go_sem]); (first | refine FunPost.one ?_ | refine FunPost.two ?_ | refine FunPost.three ?_); (try simp (config := { maxSteps := 1000000 }) (disch := (first | omega | (simp only [go_sem]; try omega))) only [go_sem, Nat.reduceAdd, Nat.reduceEqDiff, Nat.reduceLeDiff, Nat.reduceMul, Nat.reduceLT, reduceIte, Int.reduceToNat, w64_id, cast_succ])
    exact GR.froz (froz_tup2 (froz_I' _) (froz_I' _)) ⟨rfl, rfl⟩
end Go.Proofs.Ythogadbnddmkdaa
