/- Permutations and squares that are valid: the program. -/
import Derived.Test.YthogadbnddmkdaaGreatProg
import Derived.KernelRfl
import Derived.Test.YthogadbnddmkdaaGreatzQ1
import Derived.Test.YthogadbnddmkdaaGreatzK8
import Derived.Test.YthogadbnddmkdaaGreatzS5
import Derived.Test.YthogadbnddmkdaaGreatzK2
set_option linter.unusedSimpArgs false
set_option linter.unusedVariables false
set_option maxHeartbeats 4000000
set_option maxRecDepth 100000
namespace Go.Proofs.YthogadbnddmkdaaGreat
open Go.Av
abbrev f_impl_ValidPermutation : Nat := 143
def c_impl_ValidPermutation : SC :=
 .seq (.reg [
     ⟨(some 2), .mv (.const (.bool false)), none⟩] [0])
 (.seq (.reg [
     ⟨(some 6), .mv (.tmp 0), none⟩,
     ⟨(some 7), .call 117 [(.tmp 6)], none⟩,
     ⟨(some 3), .mv (.tmp 7), none⟩] [0, 3])
 (.seq (.reg [
     ⟨(some 8), .mv (.tmp 3), none⟩,
     ⟨(some 9), .call 118 [(.tmp 8)], none⟩] [0, 3])
 (.seq (.seq (.reg [
     ⟨(some 10), .mv (.tmp 3), none⟩,
     ⟨(some 11), .len (.tmp 10), none⟩,
     ⟨(some 12), .mv (.const (.int .i64 0)), none⟩] [0, 10, 11, 12])
 (.block 0 (.loop [0, 10, 11, 12]
   (.seq (.reg [
       ⟨(some 13), .bin .lss (.tmp 12) (.tmp 11), none⟩] [0, 10, 11, 12, 13])
   (.seq (.cond (.tmp 13)
    (.skip)
    (.exit 0))
   (.seq (.block 1 (.seq (.reg [
        ⟨(some 14), .mv (.tmp 12), none⟩,
        ⟨(some 15), .iaddr 1 (.tmp 10) (.tmp 12), none⟩,
        ⟨(some 16), .load 1 false (.tmp 15), none⟩,
        ⟨(some 4), .mv (.tmp 14), none⟩,
        ⟨(some 5), .mv (.tmp 16), none⟩] [0, 4, 5, 10, 11, 12])
    (.seq (.reg [
        ⟨(some 17), .mv (.tmp 5), none⟩,
        ⟨(some 18), .mv (.tmp 4), none⟩,
        ⟨(some 19), .bin .neq (.tmp 17) (.tmp 18), none⟩] [0, 10, 11, 12, 19])
    (.cond (.tmp 19)
     (.seq (.reg [
         ⟨(some 2), .mv (.const (.bool false)), none⟩] [2])
     (.ret))
     (.skip)))))
   (.reg [
       ⟨(some 20), .bin .add (.tmp 12) (.const (.int .i64 1)), none⟩,
       ⟨(some 12), .mv (.tmp 20), none⟩] [0, 10, 11, 12])))))))
 (.seq (.reg [
     ⟨(some 21), .mv (.tmp 0), none⟩,
     ⟨(some 22), .len (.tmp 21), none⟩,
     ⟨(some 23), .bin .leq (.tmp 22) (.const (.int .i64 32)), none⟩,
     ⟨(some 2), .mv (.tmp 23), none⟩] [2])
 (.ret)))))
theorem s_impl_ValidPermutation : stripF Tryz.prog 143 [[0], [0, 3], [0, 3], [0, 10, 11, 12], [0, 10, 11, 12], [0, 10, 11, 12, 13], [0, 4, 5, 10, 11, 12], [0, 10, 11, 12, 19], [2], [0, 10, 11, 12], [2]] = some (c_impl_ValidPermutation, [.tmp 2], 24) := by kernel_rfl
theorem rise_step {s : List Int} (h : s.Pairwise (· < ·)) (j : Nat) : ∀ (d : Nat) (hd : j + d < s.length), s[j] + (d : Int) ≤ s[j + d]
  | 0, _ => by simp
  | d + 1, hd => by
    have h1 := rise_step h j d (by omega)
    have h2 := List.pairwise_iff_getElem.1 h (j + d) (j + (d + 1)) (by omega) hd (by omega)
    omega
theorem rise_range {s : List Int} (h : s.Pairwise (· < ·)) (hm : ∀ x ∈ s, 0 ≤ x ∧ x < (s.length : Int)) : s = (List.range s.length).map fun (k : Nat) => (k : Int) := by
  apply List.ext_getElem
  · simp
  · intro j g1 g2
    simp only [List.getElem_map, List.getElem_range]
    have h1 := rise_step h 0 j (by omega)
    have h2 := rise_step h j (s.length - 1 - j) (by omega)
    have h3 := hm s[0] (List.getElem_mem _)
    have h4 := hm (s[j + (s.length - 1 - j)]'(by omega)) (List.getElem_mem _)
    simp only [Nat.zero_add] at h1
    omega
theorem permB_sorted (p : List Int) : permB p = (decide (p.length ≤ 32) && decide (isort p = (List.range p.length).map fun (k : Nat) => (k : Int))) := by
  unfold permB
  congr 1
  rw [decide_eq_decide]
  have hp : (isort p).Perm p := List.mergeSort_perm _ _
  have hs : (isort p).Pairwise (fun a b => a ≤ b) := (List.pairwise_mergeSort (le := fun x y => decide (x ≤ y)) (by simp; omega) (by simp; omega) p).imp (by simp)
  constructor
  · rintro ⟨h1, h2⟩
    have hn : (isort p).Nodup := hp.nodup_iff.2 h2
    have hlt : (isort p).Pairwise (· < ·) := by
      rw [List.nodup_iff_pairwise_ne] at hn
      exact (hs.and hn).imp (fun h => by omega)
    have hl : (isort p).length = p.length := hp.length_eq
    have hm : ∀ x ∈ isort p, 0 ≤ x ∧ x < ((isort p).length : Int) := fun x hx => by rw [hl]; exact h1 x (hp.mem_iff.1 hx)
    rw [← hl]
    exact rise_range hlt hm
  · intro h
    refine ⟨fun x hx => ?_, ?_⟩
    · have := hp.mem_iff.2 hx
      rw [h] at this
      simp at this
      omega
    · refine hp.nodup_iff.1 ?_
      rw [h, List.nodup_iff_pairwise_ne, List.pairwise_map]
      exact List.pairwise_lt_range.imp (fun h => by omega)
theorem ValidPermutation_fn (p : List Int) (hl : p.length ≤ 2000000) : PFn Tryz.prog f_impl_ValidPermutation [ilS p] (Bv (permB p)) := by
  rw [permB_sorted]
  intro H; refine ACalls.introB s_impl_ValidPermutation (by simp) ?_; intro hB hA; unfold c_impl_ValidPermutation; simp (config := { maxSteps := 1000000 }) (disch := (first | omega | (simp only [go_sem]; try omega))) only [go_sem, Nat.reduceAdd, Nat.reduceEqDiff, Nat.reduceLeDiff, Nat.reduceMul, Nat.reduceLT, reduceIte, Int.reduceToNat, w64_id, cast_succ]
  repeat (first | (with_reducible first | refine SW.seq ?_ | refine SW.block ?_ | refine SW.rowC ?_ | refine SW.skip ?_ | refine SW.exit ?_ | intro _ | refine And.intro (by omega) ?_) | simp (config := { maxSteps := 1000000 }) (disch := (first | omega | (simp only [go_sem]; try omega))) only [go_sem, Nat.reduceAdd, Nat.reduceEqDiff, Nat.reduceLeDiff, Nat.reduceMul, Nat.reduceLT, reduceIte, Int.reduceToNat, w64_id, cast_succ])
  refine (clone_ok H (ilS p) p (rd_ilS _ _) (by omega)).mono ?_
  rintro r H' ⟨ver, rfl, rfl⟩
  repeat (first | (with_reducible first | refine SW.seq ?_ | refine SW.block ?_ | refine SW.rowC ?_ | refine SW.skip ?_ | refine SW.exit ?_ | intro _ | refine And.intro (by omega) ?_) | simp (config := { maxSteps := 1000000 }) (disch := (first | omega | (simp only [go_sem]; try omega))) only [go_sem, Nat.reduceAdd, Nat.reduceEqDiff, Nat.reduceLeDiff, Nat.reduceMul, Nat.reduceLT, reduceIte, Int.reduceToNat, w64_id, cast_succ])
  refine (sortI_ok sortL_p sortL_n _ H.length ver 2 p (by simp) (by omega)).mono ?_
  rintro r H' ⟨rfl, rfl⟩
  have hil : (isort p).length = p.length := isort_length p
  generalize isort p = s at *
  repeat (first | (with_reducible first | refine SW.seq ?_ | refine SW.block ?_ | refine SW.rowC ?_ | refine SW.skip ?_ | refine SW.exit ?_ | intro _ | refine And.intro (by omega) ?_) | simp (config := { maxSteps := 1000000 }) (disch := (first | omega | (simp only [go_sem]; try omega))) only [go_sem, Nat.reduceAdd, Nat.reduceEqDiff, Nat.reduceLeDiff, Nat.reduceMul, Nat.reduceLT, reduceIte, Int.reduceToNat, w64_id, cast_succ])
  refine SW.loopE (fun E0 H0 q E' H' => ∃ (pre post : List Int), s = pre ++ post ∧ q = post.length ∧ E' = aput E0 12 (I pre.length) ∧ H' = H0 ∧ pre = (List.range pre.length).map fun (k : Nat) => (k : Int)) s.length ⟨[], s, rfl, rfl, rfl, rfl, rfl⟩ ?_
  rintro q E' H' ⟨pre, post, hq, rfl, rfl, rfl, ha⟩
  have hv : aview (H ++ [(⟨ver, 2, 1, s.map I⟩ : Blk)]) (.nm H.length ver 0 p.length) = some (p.length, s.map I) := by
    have h0 : RdS (H ++ [(⟨ver, 2, 1, s.map I⟩ : Blk)]) (.nm H.length ver 0 s.length) s := view_nm (ver := ver) (ty := 2) (by simp) (by simp)
    unfold RdS at h0
    rwa [hil] at h0
  simp (config := { maxSteps := 1000000 }) (disch := (first | omega | (simp only [go_sem]; try omega))) only [go_sem, Nat.reduceAdd, Nat.reduceEqDiff, Nat.reduceLeDiff, Nat.reduceMul, Nat.reduceLT, reduceIte, Int.reduceToNat, w64_id, cast_succ]
  repeat (first | (with_reducible first | refine SW.seq ?_ | refine SW.block ?_ | refine SW.rowC ?_ | refine SW.skip ?_ | refine SW.exit ?_ | intro _ | refine And.intro (by omega) ?_) | simp (config := { maxSteps := 1000000 }) (disch := (first | omega | (simp only [go_sem]; try omega))) only [go_sem, Nat.reduceAdd, Nat.reduceEqDiff, Nat.reduceLeDiff, Nat.reduceMul, Nat.reduceLT, reduceIte, Int.reduceToNat, w64_id, cast_succ])
  (first | refine SW.condD rfl (fun h2 => ?_) (fun h2 => ?_) | refine SW.condN rfl (fun h2 => ?_) (fun h2 => ?_) | refine SW.condNB rfl (fun h2 => ?_) (fun h2 => ?_) | refine SW.condB rfl (fun h2 => ?_) (fun h2 => ?_))
  · obtain ⟨x, post, rfl, hg, -⟩ := consOf (d := 0) hq (by omega)
    by_cases hx : x = (pre.length : Int)
    · have d1 : decide (x = (pre.length : Int)) = true := decide_eq_true hx
      repeat (first | (with_reducible first | refine SW.seq ?_ | refine SW.block ?_ | refine SW.rowC ?_ | refine SW.skip ?_ | refine SW.exit ?_ | intro _ | refine And.intro (by omega) ?_) | simp (config := { maxSteps := 1000000 }) (disch := (first | omega | (simp only [go_sem]; try omega))) only [go_sem, Nat.reduceAdd, Nat.reduceEqDiff, Nat.reduceLeDiff, Nat.reduceMul, Nat.reduceLT, reduceIte, Int.reduceToNat, w64_id, cast_succ, hg, d1, hv])
      refine SW.condF rfl ?_
      repeat (first | (with_reducible first | refine SW.seq ?_ | refine SW.block ?_ | refine SW.rowC ?_ | refine SW.skip ?_ | refine SW.exit ?_ | intro _ | refine And.intro (by omega) ?_) | simp (config := { maxSteps := 1000000 }) (disch := (first | omega | (simp only [go_sem]; try omega))) only [go_sem, Nat.reduceAdd, Nat.reduceEqDiff, Nat.reduceLeDiff, Nat.reduceMul, Nat.reduceLT, reduceIte, Int.reduceToNat, w64_id, cast_succ])
      refine SLoop.next post.length (by simp) ⟨pre ++ [x], post, by simp [hq], rfl, by simp [go_sem], rfl, ?_⟩
      rw [List.length_append, List.length_singleton, List.range_succ, List.map_append, ← ha]; simp [hx]
    · have d1 : decide (x = (pre.length : Int)) = false := decide_eq_false hx
      have hF : decide (s = (List.range p.length).map fun (k : Nat) => (k : Int)) = false := decide_eq_false (fun h => hx (by
        have h3 : s[pre.length]? = some x := by rw [hq]; simp
        rw [h] at h3
        rw [List.getElem?_map, List.getElem?_range (by omega)] at h3
        simp at h3
        omega))
      repeat (first | (with_reducible first | refine SW.seq ?_ | refine SW.block ?_ | refine SW.rowC ?_ | refine SW.skip ?_ | refine SW.exit ?_ | intro _ | refine And.intro (by omega) ?_) | simp (config := { maxSteps := 1000000 }) (disch := (first | omega | (simp only [go_sem]; try omega))) only [go_sem, Nat.reduceAdd, Nat.reduceEqDiff, Nat.reduceLeDiff, Nat.reduceMul, Nat.reduceLT, reduceIte, Int.reduceToNat, w64_id, cast_succ, hg, d1, hv])
      refine SW.condT rfl ?_
      repeat (first | (with_reducible first | refine SW.seq ?_ | refine SW.block ?_ | refine SW.rowC ?_ | refine SW.skip ?_ | refine SW.exit ?_ | intro _ | refine And.intro (by omega) ?_) | simp (config := { maxSteps := 1000000 }) (disch := (first | omega | (simp only [go_sem]; try omega))) only [go_sem, Nat.reduceAdd, Nat.reduceEqDiff, Nat.reduceLeDiff, Nat.reduceMul, Nat.reduceLT, reduceIte, Int.reduceToNat, w64_id, cast_succ])
      refine SW.ret ?_; (try simp only [go_sem]); (first | refine FunPost.one ?_ | refine FunPost.two ?_ | refine FunPost.three ?_); (try simp (config := { maxSteps := 1000000 }) (disch := (first | omega | (simp only [go_sem]; try omega))) only [go_sem, Nat.reduceAdd, Nat.reduceEqDiff, Nat.reduceLeDiff, Nat.reduceMul, Nat.reduceLT, reduceIte, Int.reduceToNat, w64_id, cast_succ]); (first | (with_reducible refine GR.drop ?_ ?_; (simp only [go_sem, and_self, and_true, true_and, implies_true, List.take_succ_cons, List.take_zero])) | refine GR.of ?_); refine ⟨?_, rfl⟩; (try with_reducible rfl)
      rw [hF, Bool.and_false]
  · obtain ⟨rfl, rfl⟩ := nilOf hq (by omega)
    repeat (first | (with_reducible first | refine SW.seq ?_ | refine SW.block ?_ | refine SW.rowC ?_ | refine SW.skip ?_ | refine SW.exit ?_ | intro _ | refine And.intro (by omega) ?_) | simp (config := { maxSteps := 1000000 }) (disch := (first | omega | (simp only [go_sem]; try omega))) only [go_sem, Nat.reduceAdd, Nat.reduceEqDiff, Nat.reduceLeDiff, Nat.reduceMul, Nat.reduceLT, reduceIte, Int.reduceToNat, w64_id, cast_succ])
    refine SW.ret ?_; (try simp only [go_sem]); (first | refine FunPost.one ?_ | refine FunPost.two ?_ | refine FunPost.three ?_); (try simp (config := { maxSteps := 1000000 }) (disch := (first | omega | (simp only [go_sem]; try omega))) only [go_sem, Nat.reduceAdd, Nat.reduceEqDiff, Nat.reduceLeDiff, Nat.reduceMul, Nat.reduceLT, reduceIte, Int.reduceToNat, w64_id, cast_succ]); (first | (with_reducible refine GR.drop ?_ ?_; (simp only [go_sem, and_self, and_true, true_and, implies_true, List.take_succ_cons, List.take_zero])) | refine GR.of ?_); refine ⟨?_, rfl⟩; (try with_reducible rfl)
    rw [← hil, decide_eq_true ha, Bool.and_true]
    refine congrArg Bv (decide_eq_decide.2 ?_)
    omega
end Go.Proofs.YthogadbnddmkdaaGreat
namespace Go.Proofs.YthogadbnddmkdaaGreat
open Go.Av
abbrev f_impl_arePermutations : Nat := 111
def c_impl_arePermutations : SC :=
 .seq (.reg [
     ⟨(some 2), .box 2 (.tmp 0), none⟩,
     ⟨(some 4), .mv (.const (.bool false)), none⟩] [1, 2])
 (.seq (.reg [
     ⟨(some 5), .mv (.tmp 1), none⟩,
     ⟨(some 6), .mkf 142 [(.tmp 2)], none⟩,
     ⟨(some 7), .call 85 [(.tmp 5), (.tmp 6)], none⟩,
     ⟨(some 8), .un .not (.tmp 7), none⟩,
     ⟨(some 4), .mv (.tmp 8), none⟩] [4])
 (.ret))
theorem s_impl_arePermutations : stripF Tryz.prog 111 [[1, 2], [4]] = some (c_impl_arePermutations, [.tmp 4], 9) := by kernel_rfl
abbrev f_impl_arePermutations_c1 : Nat := 142
def c_impl_arePermutations_c1 : SC :=
 .seq (.reg [
     ⟨(some 3), .mv (.const (.bool false)), none⟩] [0, 1])
 (.seq (.reg [
     ⟨(some 4), .mv (.tmp 0), none⟩,
     ⟨(some 5), .qcall 114 [(.tmp 4)], none⟩,
     ⟨(some 6), .load 1 false (.tmp 1), none⟩,
     ⟨(some 7), .bin .neq (.tmp 5) (.tmp 6), none⟩,
     ⟨(some 8), .mv (.tmp 7), none⟩,
     ⟨(some 9), .mv (.tmp 0), (some (8, false))⟩,
     ⟨(some 10), .qcall 143 [(.tmp 9)], (some (8, false))⟩,
     ⟨(some 11), .un .not (.tmp 10), (some (8, false))⟩,
     ⟨(some 12), .pick (.tmp 8) (.const (.bool true)) (.tmp 11), none⟩,
     ⟨(some 3), .mv (.tmp 12), none⟩] [3])
 (.ret))
theorem s_impl_arePermutations_c1 : stripF Tryz.prog 142 [[0, 1], [3]] = some (c_impl_arePermutations_c1, [.tmp 3], 13) := by kernel_rfl
theorem arePerm_call : callable Tryz.prog f_impl_arePermutations_c1 = true := by kernel_rfl
theorem arePerm_c (H : List Blk) (q ty : Nat) (n : Int) (x : List Int) (hx : x.length ≤ 2000000) (hq : H[q]? = some ⟨0, ty, 1, [I n]⟩) :
    ACalls Tryz.prog f_impl_arePermutations_c1 [ilS x, .pc q 0 0] H (fun r H' => r = Bv (!(decide ((x.length : Int) = n) && permB x)) ∧ H' = H) := by
  have hv := ValidPermutation_fn x hx
  refine ACalls.introB s_impl_arePermutations_c1 (by simp) ?_; intro hB hA; unfold c_impl_arePermutations_c1; simp (config := { maxSteps := 1000000 }) (disch := (first | omega | (simp only [go_sem]; try omega))) only [go_sem, Nat.reduceAdd, Nat.reduceEqDiff, Nat.reduceLeDiff, Nat.reduceMul, Nat.reduceLT, reduceIte, Int.reduceToNat, w64_id, cast_succ]
  by_cases h1 : (x.length : Int) = n
  · have d1 : decide ((x.length : Int) = n) = true := decide_eq_true h1
    repeat (first | (with_reducible first | refine SW.seq ?_ | refine SW.block ?_ | refine SW.rowC ?_ | refine SW.skip ?_ | refine SW.exit ?_ | refine PFn.use (size_fn x) ?_ | refine PFn.useq (size_fn x) ?_ | refine PFn.use (hv) ?_ | refine PFn.useq (hv) ?_ | intro _ | refine And.intro (by omega) ?_) | simp (config := { maxSteps := 1000000 }) (disch := (first | omega | (simp only [go_sem]; try omega))) only [go_sem, Nat.reduceAdd, Nat.reduceEqDiff, Nat.reduceLeDiff, Nat.reduceMul, Nat.reduceLT, reduceIte, Int.reduceToNat, w64_id, cast_succ, pc_alive hq, pc_ld hq, d1])
    refine SW.ret ?_; (try simp only [go_sem]); (first | refine FunPost.one ?_ | refine FunPost.two ?_ | refine FunPost.three ?_); (try simp (config := { maxSteps := 1000000 }) (disch := (first | omega | (simp only [go_sem]; try omega))) only [go_sem, Nat.reduceAdd, Nat.reduceEqDiff, Nat.reduceLeDiff, Nat.reduceMul, Nat.reduceLT, reduceIte, Int.reduceToNat, w64_id, cast_succ]); (first | (with_reducible refine GR.drop ?_ ?_; (simp only [go_sem, and_self, and_true, true_and, implies_true, List.take_succ_cons, List.take_zero])) | refine GR.of ?_); refine ⟨?_, rfl⟩; (try with_reducible rfl)
  · have d1 : decide ((x.length : Int) = n) = false := decide_eq_false h1
    repeat (first | (with_reducible first | refine SW.seq ?_ | refine SW.block ?_ | refine SW.rowC ?_ | refine SW.skip ?_ | refine SW.exit ?_ | refine PFn.use (size_fn x) ?_ | refine PFn.useq (size_fn x) ?_ | refine PFn.use (hv) ?_ | refine PFn.useq (hv) ?_ | intro _ | refine And.intro (by omega) ?_) | simp (config := { maxSteps := 1000000 }) (disch := (first | omega | (simp only [go_sem]; try omega))) only [go_sem, Nat.reduceAdd, Nat.reduceEqDiff, Nat.reduceLeDiff, Nat.reduceMul, Nat.reduceLT, reduceIte, Int.reduceToNat, w64_id, cast_succ, pc_alive hq, pc_ld hq, d1])
    refine SW.ret ?_; (try simp only [go_sem]); (first | refine FunPost.one ?_ | refine FunPost.two ?_ | refine FunPost.three ?_); (try simp (config := { maxSteps := 1000000 }) (disch := (first | omega | (simp only [go_sem]; try omega))) only [go_sem, Nat.reduceAdd, Nat.reduceEqDiff, Nat.reduceLeDiff, Nat.reduceMul, Nat.reduceLT, reduceIte, Int.reduceToNat, w64_id, cast_succ]); (first | (with_reducible refine GR.drop ?_ ?_; (simp only [go_sem, and_self, and_true, true_and, implies_true, List.take_succ_cons, List.take_zero])) | refine GR.of ?_); refine ⟨?_, rfl⟩; (try with_reducible rfl)
theorem arePermutations_fn (n : Int) (xss : List (List Int)) (hl : ∀ x ∈ xss, x.length ≤ 2000000) : PFn Tryz.prog f_impl_arePermutations [I n, ilSS xss] (Bv (xss.all fun p => decide ((p.length : Int) = n) && permB p)) := by
  intro H; refine ACalls.introB s_impl_arePermutations (by simp) ?_; intro hB hA; unfold c_impl_arePermutations; simp (config := { maxSteps := 1000000 }) (disch := (first | omega | (simp only [go_sem]; try omega))) only [go_sem, Nat.reduceAdd, Nat.reduceEqDiff, Nat.reduceLeDiff, Nat.reduceMul, Nat.reduceLT, reduceIte, Int.reduceToNat, w64_id, cast_succ]
  repeat (first | (with_reducible first | refine SW.seq ?_ | refine SW.block ?_ | refine SW.rowC ?_ | refine SW.skip ?_ | refine SW.exit ?_ | intro _ | refine And.intro (by omega) ?_) | simp (config := { maxSteps := 1000000 }) (disch := (first | omega | (simp only [go_sem]; try omega))) only [go_sem, Nat.reduceAdd, Nat.reduceEqDiff, Nat.reduceLeDiff, Nat.reduceMul, Nat.reduceLT, reduceIte, Int.reduceToNat, w64_id, cast_succ])
  refine (conSS_ok ilS _ (ilSS xss) xss rfl f_impl_arePermutations_c1 [.pc H.length 0 0] arePerm_call (fun x => !(decide ((x.length : Int) = n) && permB x)) (fun x hx => arePerm_c _ H.length 2 n x (hl x hx) (by simp))).mono ?_
  rintro r H' ⟨rfl, rfl⟩
  repeat (first | (with_reducible first | refine SW.seq ?_ | refine SW.block ?_ | refine SW.rowC ?_ | refine SW.skip ?_ | refine SW.exit ?_ | intro _ | refine And.intro (by omega) ?_) | simp (config := { maxSteps := 1000000 }) (disch := (first | omega | (simp only [go_sem]; try omega))) only [go_sem, Nat.reduceAdd, Nat.reduceEqDiff, Nat.reduceLeDiff, Nat.reduceMul, Nat.reduceLT, reduceIte, Int.reduceToNat, w64_id, cast_succ])
  refine SW.ret ?_; (try simp only [go_sem]); (first | refine FunPost.one ?_ | refine FunPost.two ?_ | refine FunPost.three ?_); (try simp (config := { maxSteps := 1000000 }) (disch := (first | omega | (simp only [go_sem]; try omega))) only [go_sem, Nat.reduceAdd, Nat.reduceEqDiff, Nat.reduceLeDiff, Nat.reduceMul, Nat.reduceLT, reduceIte, Int.reduceToNat, w64_id, cast_succ]); (first | (with_reducible refine GR.drop ?_ ?_; (simp only [go_sem, and_self, and_true, true_and, implies_true, List.take_succ_cons, List.take_zero])) | refine GR.of ?_); refine ⟨?_, rfl⟩; (try with_reducible rfl)
  rw [List.any_eq_not_all_not]
  simp
end Go.Proofs.YthogadbnddmkdaaGreat
