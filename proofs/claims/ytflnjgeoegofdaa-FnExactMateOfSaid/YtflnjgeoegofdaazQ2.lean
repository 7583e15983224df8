/- Permutations and squares that are valid: the program. -/
import Derived.Test.YtflnjgeoegofdaazQ4
import Derived.Test.YtflnjgeoegofdaazQ1
import Derived.Test.YtflnjgeoegofdaazK8
import Derived.Test.YtflnjgeoegofdaazSZ
set_option linter.unusedSimpArgs false
set_option linter.unusedVariables false
set_option maxHeartbeats 4000000
set_option maxRecDepth 100000
namespace Go.Proofs.Ytflnjgeoegofdaa
open Go.Av
theorem rise_step {s : List Int} (h : s.Pairwise (· < ·)) (j : Nat) : ∀ (d : Nat) (hd : j + d < s.length), s[j] + (d : Int) ≤ s[j + d]
  | 0, _ => by simp
  | d + 1, hd => by
    have h1 := rise_step h j d (by omega)
    have h2 := List.pairwise_iff_getElem.1 h (j + d) (j + (d + 1)) (by omega) hd (by omega)
    omega
theorem rise_range {s : List Int} (h : s.Pairwise (· < ·)) (hm : ∀ x ∈ s, 0 ≤ x ∧ x < (s.length : Int)) : s = (List.range s.length).map fun (k : Nat) => (k : Int) := by
  apply List.ext_getElem
  · simp
  · intro j g1 g2
    simp only [List.getElem_map, List.getElem_range]
    have h1 := rise_step h 0 j (by omega)
    have h2 := rise_step h j (s.length - 1 - j) (by omega)
    have h3 := hm s[0] (List.getElem_mem _)
    have h4 := hm (s[j + (s.length - 1 - j)]'(by omega)) (List.getElem_mem _)
    simp only [Nat.zero_add] at h1
    omega
theorem permB_sorted (p : List Int) : permB p = (decide (p.length ≤ 32) && decide (isort p = (List.range p.length).map fun (k : Nat) => (k : Int))) := by
  unfold permB
  congr 1
  rw [decide_eq_decide]
  have hp : (isort p).Perm p := List.mergeSort_perm _ _
  have hs : (isort p).Pairwise (fun a b => a ≤ b) := (List.pairwise_mergeSort (le := fun x y => decide (x ≤ y)) (by simp; omega) (by simp; omega) p).imp (by simp)
  constructor
  · rintro ⟨h1, h2⟩
    have hn : (isort p).Nodup := hp.nodup_iff.2 h2
    have hlt : (isort p).Pairwise (· < ·) := by
      rw [List.nodup_iff_pairwise_ne] at hn
      exact (hs.and hn).imp (fun h => by omega)
    have hl : (isort p).length = p.length := hp.length_eq
    have hm : ∀ x ∈ isort p, 0 ≤ x ∧ x < ((isort p).length : Int) := fun x hx => by rw [hl]; exact h1 x (hp.mem_iff.1 hx)
    rw [← hl]
    exact rise_range hlt hm
  · intro h
    refine ⟨fun x hx => ?_, ?_⟩
    · have := hp.mem_iff.2 hx
      rw [h] at this
      simp at this
      omega
    · refine hp.nodup_iff.1 ?_
      rw [h, List.nodup_iff_pairwise_ne, List.pairwise_map]
      exact List.pairwise_lt_range.imp (fun h => by omega)
theorem ValidPermutation_fn (p : List Int) (hl : p.length ≤ 2000000) : PFn Try.prog f_impl_ValidPermutation [ilS p] (Bv (permB p)) := by
  rw [permB_sorted]
  intro H; refine ACalls.introB s_impl_ValidPermutation (by simp) ?_; intro hB hA; unfold c_impl_ValidPermutation; simp (config := { maxSteps := 1000000 }) (disch := (first | omega | (simp only [go_sem]; try omega))) only [go_sem, Nat.reduceAdd, Nat.reduceEqDiff, Nat.reduceLeDiff, Nat.reduceMul, Nat.reduceLT, reduceIte, Int.reduceToNat, w64_id, cast_succ]
  repeat (first | (with_reducible first | refine SW.seq ?_ | refine SW.block ?_ | refine SW.rowC ?_ | refine SW.skip ?_ | refine SW.exit ?_ | intro _ | refine And.intro (by omega) ?_) | simp (config := { maxSteps := 1000000 }) (disch := (first | omega | (simp only [go_sem]; try omega))) only [go_sem, Nat.reduceAdd, Nat.reduceEqDiff, Nat.reduceLeDiff, Nat.reduceMul, Nat.reduceLT, reduceIte, Int.reduceToNat, w64_id, cast_succ])
  refine (clone_ok H (ilS p) p (rd_ilS _ _) (by omega)).mono ?_
  rintro r H' ⟨ver, rfl, rfl⟩
  repeat (first | (with_reducible first | refine SW.seq ?_ | refine SW.block ?_ | refine SW.rowC ?_ | refine SW.skip ?_ | refine SW.exit ?_ | intro _ | refine And.intro (by omega) ?_) | simp (config := { maxSteps := 1000000 }) (disch := (first | omega | (simp only [go_sem]; try omega))) only [go_sem, Nat.reduceAdd, Nat.reduceEqDiff, Nat.reduceLeDiff, Nat.reduceMul, Nat.reduceLT, reduceIte, Int.reduceToNat, w64_id, cast_succ])
  refine (sortI_ok sortL_p sortL_n _ H.length ver 2 p (by simp) (by omega)).mono ?_
  rintro r H' ⟨rfl, rfl⟩
  have hil : (isort p).length = p.length := isort_length p
  generalize isort p = s at *
  repeat (first | (with_reducible first | refine SW.seq ?_ | refine SW.block ?_ | refine SW.rowC ?_ | refine SW.skip ?_ | refine SW.exit ?_ | intro _ | refine And.intro (by omega) ?_) | simp (config := { maxSteps := 1000000 }) (disch := (first | omega | (simp only [go_sem]; try omega))) only [go_sem, Nat.reduceAdd, Nat.reduceEqDiff, Nat.reduceLeDiff, Nat.reduceMul, Nat.reduceLT, reduceIte, Int.reduceToNat, w64_id, cast_succ])
  refine SW.loopE (fun E0 H0 q E' H' => ∃ (pre post : List Int), s = pre ++ post ∧ q = post.length ∧ E' = aput E0 12 (I pre.length) ∧ H' = H0 ∧ pre = (List.range pre.length).map fun (k : Nat) => (k : Int)) s.length ⟨[], s, rfl, rfl, rfl, rfl, rfl⟩ ?_
  rintro q E' H' ⟨pre, post, hq, rfl, rfl, rfl, ha⟩
  have hv : aview (H ++ [(⟨ver, 2, 1, s.map I⟩ : Blk)]) (.nm H.length ver 0 p.length) = some (p.length, s.map I) := by
    have h0 : RdS (H ++ [(⟨ver, 2, 1, s.map I⟩ : Blk)]) (.nm H.length ver 0 s.length) s := view_nm (ver := ver) (ty := 2) (by simp) (by simp)
    unfold RdS at h0
    rwa [hil] at h0
  simp (config := { maxSteps := 1000000 }) (disch := (first | omega | (simp only [go_sem]; try omega))) only [go_sem, Nat.reduceAdd, Nat.reduceEqDiff, Nat.reduceLeDiff, Nat.reduceMul, Nat.reduceLT, reduceIte, Int.reduceToNat, w64_id, cast_succ]
  repeat (first | (with_reducible first | refine SW.seq ?_ | refine SW.block ?_ | refine SW.rowC ?_ | refine SW.skip ?_ | refine SW.exit ?_ | intro _ | refine And.intro (by omega) ?_) | simp (config := { maxSteps := 1000000 }) (disch := (first | omega | (simp only [go_sem]; try omega))) only [go_sem, Nat.reduceAdd, Nat.reduceEqDiff, Nat.reduceLeDiff, Nat.reduceMul, Nat.reduceLT, reduceIte, Int.reduceToNat, w64_id, cast_succ])
  (first | refine SW.condD rfl (fun h2 => ?_) (fun h2 => ?_) | refine SW.condN rfl (fun h2 => ?_) (fun h2 => ?_) | refine SW.condNB rfl (fun h2 => ?_) (fun h2 => ?_) | refine SW.condB rfl (fun h2 => ?_) (fun h2 => ?_))
  · obtain ⟨x, post, rfl, hg, -⟩ := consOf (d := 0) hq (by omega)
    by_cases hx : x = (pre.length : Int)
    · have d1 : decide (x = (pre.length : Int)) = true := decide_eq_true hx
      repeat (first | (with_reducible first | refine SW.seq ?_ | refine SW.block ?_ | refine SW.rowC ?_ | refine SW.skip ?_ | refine SW.exit ?_ | intro _ | refine And.intro (by omega) ?_) | simp (config := { maxSteps := 1000000 }) (disch := (first | omega | (simp only [go_sem]; try omega))) only [go_sem, Nat.reduceAdd, Nat.reduceEqDiff, Nat.reduceLeDiff, Nat.reduceMul, Nat.reduceLT, reduceIte, Int.reduceToNat, w64_id, cast_succ, hg, d1, hv])
      refine SW.condF rfl ?_
      repeat (first | (with_reducible first | refine SW.seq ?_ | refine SW.block ?_ | refine SW.rowC ?_ | refine SW.skip ?_ | refine SW.exit ?_ | intro _ | refine And.intro (by omega) ?_) | simp (config := { maxSteps := 1000000 }) (disch := (first | omega | (simp only [go_sem]; try omega))) only [go_sem, Nat.reduceAdd, Nat.reduceEqDiff, Nat.reduceLeDiff, Nat.reduceMul, Nat.reduceLT, reduceIte, Int.reduceToNat, w64_id, cast_succ])
      refine SLoop.next post.length (by simp) ⟨pre ++ [x], post, by simp [hq], rfl, by simp [go_sem], rfl, ?_⟩
      rw [List.length_append, List.length_singleton, List.range_succ, List.map_append, ← ha]; simp [hx]
    · have d1 : decide (x = (pre.length : Int)) = false := decide_eq_false hx
      have hF : decide (s = (List.range p.length).map fun (k : Nat) => (k : Int)) = false := decide_eq_false (fun h => hx (by
        have h3 : s[pre.length]? = some x := by rw [hq]; simp
        rw [h] at h3
        rw [List.getElem?_map, List.getElem?_range (by omega)] at h3
        simp at h3
        omega))
      repeat (first | (with_reducible first | refine SW.seq ?_ | refine SW.block ?_ | refine SW.rowC ?_ | refine SW.skip ?_ | refine SW.exit ?_ | intro _ | refine And.intro (by omega) ?_) | simp (config := { maxSteps := 1000000 }) (disch := (first | omega | (simp only [go_sem]; try omega))) only [go_sem, Nat.reduceAdd, Nat.reduceEqDiff, Nat.reduceLeDiff, Nat.reduceMul, Nat.reduceLT, reduceIte, Int.reduceToNat, w64_id, cast_succ, hg, d1, hv])
      refine SW.condT rfl ?_
      repeat (first | (with_reducible first | refine SW.seq ?_ | refine SW.block ?_ | refine SW.rowC ?_ | refine SW.skip ?_ | refine SW.exit ?_ | intro _ | refine And.intro (by omega) ?_) | simp (config := { maxSteps := 1000000 }) (disch := (first | omega | (simp only [go_sem]; try omega))) only [go_sem, Nat.reduceAdd, Nat.reduceEqDiff, Nat.reduceLeDiff, Nat.reduceMul, Nat.reduceLT, reduceIte, Int.reduceToNat, w64_id, cast_succ])
      refine SW.ret ?_; (try simp only [go_sem]); (first | refine FunPost.one ?_ | refine FunPost.two ?_ | refine FunPost.three ?_); (try simp (config := { maxSteps := 1000000 }) (disch := (first | omega | (simp only [go_sem]; try omega))) only [go_sem, Nat.reduceAdd, Nat.reduceEqDiff, Nat.reduceLeDiff, Nat.reduceMul, Nat.reduceLT, reduceIte, Int.reduceToNat, w64_id, cast_succ]); (first | (with_reducible refine GR.drop ?_ ?_; (simp only [go_sem, and_self, and_true, true_and, implies_true, List.take_succ_cons, List.take_zero])) | refine GR.of ?_); refine ⟨?_, rfl⟩; (try with_reducible rfl)
      rw [hF, Bool.and_false]
  · obtain ⟨rfl, rfl⟩ := nilOf hq (by omega)
    repeat (first | (with_reducible first | refine SW.seq ?_ | refine SW.block ?_ | refine SW.rowC ?_ | refine SW.skip ?_ | refine SW.exit ?_ | intro _ | refine And.intro (by omega) ?_) | simp (config := { maxSteps := 1000000 }) (disch := (first | omega | (simp only [go_sem]; try omega))) only [go_sem, Nat.reduceAdd, Nat.reduceEqDiff, Nat.reduceLeDiff, Nat.reduceMul, Nat.reduceLT, reduceIte, Int.reduceToNat, w64_id, cast_succ])
    refine SW.ret ?_; (try simp only [go_sem]); (first | refine FunPost.one ?_ | refine FunPost.two ?_ | refine FunPost.three ?_); (try simp (config := { maxSteps := 1000000 }) (disch := (first | omega | (simp only [go_sem]; try omega))) only [go_sem, Nat.reduceAdd, Nat.reduceEqDiff, Nat.reduceLeDiff, Nat.reduceMul, Nat.reduceLT, reduceIte, Int.reduceToNat, w64_id, cast_succ]); (first | (with_reducible refine GR.drop ?_ ?_; (simp only [go_sem, and_self, and_true, true_and, implies_true, List.take_succ_cons, List.take_zero])) | refine GR.of ?_); refine ⟨?_, rfl⟩; (try with_reducible rfl)
    rw [← hil, decide_eq_true ha, Bool.and_true]
    refine congrArg Bv (decide_eq_decide.2 ?_)
    omega
end Go.Proofs.Ytflnjgeoegofdaa
