/- Incidences of orbits: the law. -/
import Derived.Test.YthogadbnddmkdaaGreatProg
import Derived.KernelRfl
import Derived.Test.YthogadbnddmkdaaGreatzTC
import Derived.Test.YthogadbnddmkdaaGreatzYB
import Derived.Test.YthogadbnddmkdaaGreatzJ8
set_option linter.unusedSimpArgs false
set_option linter.unusedVariables false
set_option maxHeartbeats 4000000
set_option maxRecDepth 100000
namespace Go.Proofs.YthogadbnddmkdaaGreat
open Go.Av
theorem b10AtG (H : List Blk) (ns : List Int) (i n : Nat) (hz : ∀ z ∈ ns, 0 ≤ z ∧ z < 256) (hl : ns.length ≤ 2000000) (hi : i ≤ 1000) (h1 : 1 ≤ n) (hn : n ≤ 1000000) :
    ACalls Tryz.prog f_laws_b10At [ilY ns, I i, I n] H (fun r H' => H' = H ∧ ∃ j : Nat, r = I j ∧ j < n) := by
  have fin : ∀ x : Int, 0 ≤ x → ∃ j : Nat, I (x.tmod n) = I j ∧ j < n := fun x h0 => by
    have h3 : x.tmod n = x % n := Int.tmod_eq_emod_of_nonneg h0
    have h4 := Int.emod_nonneg x (show (n : Int) ≠ 0 by omega)
    have h5 := Int.emod_lt_of_pos x (show (0 : Int) < n by omega)
    exact ⟨(x % n).toNat, by rw [h3, Int.toNat_of_nonneg h4], by omega⟩
  have hne : ¬ (n : Int) = 0 := by omega
  refine ACalls.introB s_laws_b10At (by simp) ?_; intro hB hA; unfold c_laws_b10At; simp (config := { maxSteps := 1000000 }) (disch := (first | omega | (simp only [go_sem]; try omega))) only [go_sem, Nat.reduceAdd, Nat.reduceEqDiff, Nat.reduceLeDiff, Nat.reduceMul, Nat.reduceLT, reduceIte, Int.reduceToNat, w64_id, cast_succ]
  repeat (first | (with_reducible first | refine SW.seq ?_ | refine SW.block ?_ | refine SW.rowC ?_ | refine SW.skip ?_ | refine SW.exit ?_ | intro _ | refine And.intro (by omega) ?_) | simp (config := { maxSteps := 1000000 }) (disch := (first | omega | (simp only [go_sem]; try omega))) only [go_sem, Nat.reduceAdd, Nat.reduceEqDiff, Nat.reduceLeDiff, Nat.reduceMul, Nat.reduceLT, reduceIte, Int.reduceToNat, w64_id, cast_succ])
  (first | refine SW.condD rfl (fun h => ?_) (fun h => ?_) | refine SW.condN rfl (fun h => ?_) (fun h => ?_) | refine SW.condNB rfl (fun h => ?_) (fun h => ?_) | refine SW.condB rfl (fun h => ?_) (fun h => ?_))
  · repeat (first | (with_reducible first | refine SW.seq ?_ | refine SW.block ?_ | refine SW.rowC ?_ | refine SW.skip ?_ | refine SW.exit ?_ | intro _ | refine And.intro (by omega) ?_) | simp (config := { maxSteps := 1000000 }) (disch := (first | omega | (simp only [go_sem]; try omega))) only [go_sem, Nat.reduceAdd, Nat.reduceEqDiff, Nat.reduceLeDiff, Nat.reduceMul, Nat.reduceLT, reduceIte, Int.reduceToNat, w64_id, cast_succ])
    refine SW.ret ?_; (try simp only [go_sem]); (first | refine FunPost.one ?_ | refine FunPost.two ?_ | refine FunPost.three ?_); (try simp (config := { maxSteps := 1000000 }) (disch := (first | omega | (simp only [go_sem]; try omega))) only [go_sem, Nat.reduceAdd, Nat.reduceEqDiff, Nat.reduceLeDiff, Nat.reduceMul, Nat.reduceLT, reduceIte, Int.reduceToNat, w64_id, cast_succ])
    exact GR.of ⟨rfl, 0, rfl, by omega⟩
  · repeat (first | (with_reducible first | refine SW.seq ?_ | refine SW.block ?_ | refine SW.rowC ?_ | refine SW.skip ?_ | refine SW.exit ?_ | intro _ | refine And.intro (by omega) ?_) | simp (config := { maxSteps := 1000000 }) (disch := (first | omega | (simp only [go_sem]; try omega))) only [go_sem, Nat.reduceAdd, Nat.reduceEqDiff, Nat.reduceLeDiff, Nat.reduceMul, Nat.reduceLT, reduceIte, Int.reduceToNat, w64_id, cast_succ])
    (first | refine SW.condD rfl (fun h2 => ?_) (fun h2 => ?_) | refine SW.condN rfl (fun h2 => ?_) (fun h2 => ?_) | refine SW.condNB rfl (fun h2 => ?_) (fun h2 => ?_) | refine SW.condB rfl (fun h2 => ?_) (fun h2 => ?_))
    · have hm := hz (ns.getD i 0) (by rw [List.getD_eq_getElem?_getD, List.getElem?_eq_getElem (by omega)]; exact List.getElem_mem _)
      repeat (first | (with_reducible first | refine SW.seq ?_ | refine SW.block ?_ | refine SW.rowC ?_ | refine SW.skip ?_ | refine SW.exit ?_ | intro _ | refine And.intro (by omega) ?_) | simp (config := { maxSteps := 1000000 }) (disch := (first | omega | (simp only [go_sem]; try omega))) only [go_sem, Nat.reduceAdd, Nat.reduceEqDiff, Nat.reduceLeDiff, Nat.reduceMul, Nat.reduceLT, reduceIte, Int.reduceToNat, w64_id, cast_succ, hne])
      refine SW.ret ?_; (try simp only [go_sem]); (first | refine FunPost.one ?_ | refine FunPost.two ?_ | refine FunPost.three ?_); (try simp (config := { maxSteps := 1000000 }) (disch := (first | omega | (simp only [go_sem]; try omega))) only [go_sem, Nat.reduceAdd, Nat.reduceEqDiff, Nat.reduceLeDiff, Nat.reduceMul, Nat.reduceLT, reduceIte, Int.reduceToNat, w64_id, cast_succ])
      exact GR.of ⟨rfl, fin _ (by omega)⟩
    · repeat (first | (with_reducible first | refine SW.seq ?_ | refine SW.block ?_ | refine SW.rowC ?_ | refine SW.skip ?_ | refine SW.exit ?_ | intro _ | refine And.intro (by omega) ?_) | simp (config := { maxSteps := 1000000 }) (disch := (first | omega | (simp only [go_sem]; try omega))) only [go_sem, Nat.reduceAdd, Nat.reduceEqDiff, Nat.reduceLeDiff, Nat.reduceMul, Nat.reduceLT, reduceIte, Int.reduceToNat, w64_id, cast_succ, hne])
      refine SW.ret ?_; (try simp only [go_sem]); (first | refine FunPost.one ?_ | refine FunPost.two ?_ | refine FunPost.three ?_); (try simp (config := { maxSteps := 1000000 }) (disch := (first | omega | (simp only [go_sem]; try omega))) only [go_sem, Nat.reduceAdd, Nat.reduceEqDiff, Nat.reduceLeDiff, Nat.reduceMul, Nat.reduceLT, reduceIte, Int.reduceToNat, w64_id, cast_succ])
      exact GR.of ⟨rfl, fin _ (by omega)⟩
theorem FX.pfn {P : Program} {f : FuncId} {args : List AV} {x3 : List (List (List Int))} {code : Int} (h : FX P f args x3 code) : PFn P f args (.tup [il3 x3, I code]) := by
  intro H
  refine (h H).gr ?_
  rintro r H' ⟨ext, u, rfl, rfl, ho⟩
  exact GR.froz (froz_tup2 (ho.froz (fun i hi => hi.1)) (froz_I' _)) ⟨rfl, rfl⟩
theorem orbAll_ne {n k : Nat} {els : List (List Int)} (h : IsG n els) (hk : k ≤ n) : (orbAll n k els).length ≠ 0 := by
  intro h0
  have hm : subsN n k ≠ [] := fun e => by
    have h1 := subsN_len n k
    rw [e] at h1
    have h2 := ch_pos n k hk
    simp at h1; omega
  obtain ⟨S, hS⟩ := List.exists_mem_of_ne_nil _ hm
  obtain ⟨s1, s2⟩ := subsN_mem.1 hS
  obtain ⟨O, hO, -⟩ := orbAll_in h s1 s2
  rw [List.eq_nil_of_length_eq_zero h0] at hO
  simp at hO
end Go.Proofs.YthogadbnddmkdaaGreat
