/- SameCover: both sides. -/
import Derived.Test.YtmgbglekgigkmaaL7
set_option linter.unusedSimpArgs false
set_option linter.unusedVariables false
namespace Go.Proofs.Ytmgbglekgigkmaa
open Go.Av

theorem l00Same_ok (H : List Blk) (a b : AV) (xs ys : List Int) (ha : RdS H a xs) (hb : RdS H b ys) :
    ACalls Try.prog f_spec_l00Same [a, b] H (fun r H' => r = Bv (decide (xs = ys)) ∧ H' = H) := eqS_of s_spec_l00Same H a b xs ys ha hb
theorem l10Same_ok (H : List Blk) (a b : AV) (xs ys : List (List Int)) (ha : RdSS H a xs) (hb : RdSS H b ys) :
    ACalls Try.prog f_spec_l10Same [a, b] H (fun r H' => r = Bv (decide (xs = ys)) ∧ H' = H) := eqSS_of s_spec_l10Same l00Same_ok H a b xs ys ha hb

theorem slicesEqual_ok (H : List Blk) (a b : AV) (xs ys : List Int) (ha : RdS H a xs) (hb : RdS H b ys) :
    ACalls Try.prog f_slices_Equal_Lint64_int64 [a, b] H (fun r H' => r = Bv (decide (xs = ys)) ∧ H' = H) := by
  refine ACalls.intro s_slices_Equal_Lint64_int64 (by simp) ?_
  refine SW.seq ?_; refine SW.row ?_; simp only [go_sem, Nat.reduceAdd, Nat.reduceEqDiff, Nat.reduceLeDiff, Nat.reduceMul, reduceIte, Nat.zero_ne_one, Nat.one_ne_zero, Nat.zero_add, Nat.add_zero, List.map_cons, List.map_nil, List.length_cons, List.length_nil, decide_true, decide_false, Bool.not_true, Bool.not_false, true_and, and_true, ne_eq, not_true_eq_false, not_false_eq_true, forall_const, List.getElem?_cons_zero, List.getElem?_cons_succ]
  refine SW.seq ?_; refine SW.seq ?_; refine SW.row ?_; simp only [go_sem, Nat.reduceAdd, Nat.reduceEqDiff, Nat.reduceLeDiff, Nat.reduceMul, reduceIte, Nat.zero_ne_one, Nat.one_ne_zero, Nat.zero_add, Nat.add_zero, List.map_cons, List.map_nil, List.length_cons, List.length_nil, decide_true, decide_false, Bool.not_true, Bool.not_false, true_and, and_true, ne_eq, not_true_eq_false, not_false_eq_true, forall_const, List.getElem?_cons_zero, List.getElem?_cons_succ, ha, hb]
  intro hla hlb
  refine SW.cond rfl (fun h => ?_) (fun h => ?_)
  · refine SW.seq ?_; refine SW.row ?_; simp only [go_sem, Nat.reduceAdd, Nat.reduceEqDiff, Nat.reduceLeDiff, Nat.reduceMul, reduceIte, Nat.zero_ne_one, Nat.one_ne_zero, Nat.zero_add, Nat.add_zero, List.map_cons, List.map_nil, List.length_cons, List.length_nil, decide_true, decide_false, Bool.not_true, Bool.not_false, true_and, and_true, ne_eq, not_true_eq_false, not_false_eq_true, forall_const, List.getElem?_cons_zero, List.getElem?_cons_succ]
    refine SW.ret ?_; (try simp only [go_sem]); refine FunPost.one (GR.of ?_); (try simp only [go_sem, Nat.reduceAdd, Nat.reduceEqDiff, Nat.reduceLeDiff, Nat.reduceMul, reduceIte, Nat.zero_ne_one, Nat.one_ne_zero, Nat.zero_add, Nat.add_zero, List.map_cons, List.map_nil, List.length_cons, List.length_nil, decide_true, decide_false, Bool.not_true, Bool.not_false, true_and, and_true, ne_eq, not_true_eq_false, not_false_eq_true, forall_const, List.getElem?_cons_zero, List.getElem?_cons_succ])
    have hne : xs ≠ ys := by rintro rfl; simp at h
    simp [hne]
  refine SW.skip ?_
  have hlen : xs.length = ys.length := by
    have := of_decide_eq_true (by simpa using h : decide ((xs.length : Int) = ys.length) = true)
    omega
  simp only [go_sem]
  refine SW.seq ?_; refine SW.seq ?_; refine SW.row ?_; simp only [go_sem, Nat.reduceAdd, Nat.reduceEqDiff, Nat.reduceLeDiff, Nat.reduceMul, reduceIte, Nat.zero_ne_one, Nat.one_ne_zero, Nat.zero_add, Nat.add_zero, List.map_cons, List.map_nil, List.length_cons, List.length_nil, decide_true, decide_false, Bool.not_true, Bool.not_false, true_and, and_true, ne_eq, not_true_eq_false, not_false_eq_true, forall_const, List.getElem?_cons_zero, List.getElem?_cons_succ, ha]
  intro _
  refine SW.block ?_
  refine SW.loop (fun k E H' => ∃ i : Nat, i ≤ xs.length ∧ k = xs.length - i ∧ E = [(0, a), (1, b), (12, I xs.length), (13, I i)] ∧ H' = H ∧ xs.take i = ys.take i) xs.length ⟨0, by omega, by omega, rfl, rfl, rfl⟩ ?_
  rintro k E H' ⟨i, hi, rfl, rfl, rfl, heq⟩
  refine SW.seq ?_; refine SW.row ?_; simp only [go_sem, Nat.reduceAdd, Nat.reduceEqDiff, Nat.reduceLeDiff, Nat.reduceMul, reduceIte, Nat.zero_ne_one, Nat.one_ne_zero, Nat.zero_add, Nat.add_zero, List.map_cons, List.map_nil, List.length_cons, List.length_nil, decide_true, decide_false, Bool.not_true, Bool.not_false, true_and, and_true, ne_eq, not_true_eq_false, not_false_eq_true, forall_const, List.getElem?_cons_zero, List.getElem?_cons_succ]; refine SW.seq ?_; refine SW.cond rfl (fun h => ?_) (fun h => ?_)
  · have hlt : i < xs.length := by have := of_decide_eq_true h; omega
    have hlt' : i < ys.length := by omega
    refine SW.skip ?_; simp only [go_sem, Nat.reduceAdd, Nat.reduceEqDiff, Nat.reduceLeDiff, Nat.reduceMul, reduceIte, Nat.zero_ne_one, Nat.one_ne_zero, Nat.zero_add, Nat.add_zero, List.map_cons, List.map_nil, List.length_cons, List.length_nil, decide_true, decide_false, Bool.not_true, Bool.not_false, true_and, and_true, ne_eq, not_true_eq_false, not_false_eq_true, forall_const, List.getElem?_cons_zero, List.getElem?_cons_succ]
    refine SW.seq ?_; refine SW.block ?_; refine SW.seq ?_; refine SW.row ?_; simp only [go_sem, Nat.reduceAdd, Nat.reduceEqDiff, Nat.reduceLeDiff, Nat.reduceMul, reduceIte, Nat.zero_ne_one, Nat.one_ne_zero, Nat.zero_add, Nat.add_zero, List.map_cons, List.map_nil, List.length_cons, List.length_nil, decide_true, decide_false, Bool.not_true, Bool.not_false, true_and, and_true, ne_eq, not_true_eq_false, not_false_eq_true, forall_const, List.getElem?_cons_zero, List.getElem?_cons_succ]
    refine SW.seq ?_; refine SW.row ?_; simp only [go_sem, Nat.reduceAdd, Nat.reduceEqDiff, Nat.reduceLeDiff, Nat.reduceMul, reduceIte, Nat.zero_ne_one, Nat.one_ne_zero, Nat.zero_add, Nat.add_zero, List.map_cons, List.map_nil, List.length_cons, List.length_nil, decide_true, decide_false, Bool.not_true, Bool.not_false, true_and, and_true, ne_eq, not_true_eq_false, not_false_eq_true, forall_const, List.getElem?_cons_zero, List.getElem?_cons_succ, idx ha hlt, idx hb hlt', ld ha hlt, ld hb hlt']
    refine SW.cond rfl (fun h => ?_) (fun h => ?_)
    · refine SW.seq ?_; refine SW.row ?_; simp only [go_sem, Nat.reduceAdd, Nat.reduceEqDiff, Nat.reduceLeDiff, Nat.reduceMul, reduceIte, Nat.zero_ne_one, Nat.one_ne_zero, Nat.zero_add, Nat.add_zero, List.map_cons, List.map_nil, List.length_cons, List.length_nil, decide_true, decide_false, Bool.not_true, Bool.not_false, true_and, and_true, ne_eq, not_true_eq_false, not_false_eq_true, forall_const, List.getElem?_cons_zero, List.getElem?_cons_succ]
      refine SW.ret ?_; (try simp only [go_sem]); refine FunPost.one (GR.of ?_); (try simp only [go_sem, Nat.reduceAdd, Nat.reduceEqDiff, Nat.reduceLeDiff, Nat.reduceMul, reduceIte, Nat.zero_ne_one, Nat.one_ne_zero, Nat.zero_add, Nat.add_zero, List.map_cons, List.map_nil, List.length_cons, List.length_nil, decide_true, decide_false, Bool.not_true, Bool.not_false, true_and, and_true, ne_eq, not_true_eq_false, not_false_eq_true, forall_const, List.getElem?_cons_zero, List.getElem?_cons_succ])
      have hne : xs ≠ ys := by rintro rfl; simp at h
      simp [hne]
    · refine SW.skip ?_; simp only [go_sem, Nat.reduceAdd, Nat.reduceEqDiff, Nat.reduceLeDiff, Nat.reduceMul, reduceIte, Nat.zero_ne_one, Nat.one_ne_zero, Nat.zero_add, Nat.add_zero, List.map_cons, List.map_nil, List.length_cons, List.length_nil, decide_true, decide_false, Bool.not_true, Bool.not_false, true_and, and_true, ne_eq, not_true_eq_false, not_false_eq_true, forall_const, List.getElem?_cons_zero, List.getElem?_cons_succ]
      refine SW.row ?_; simp only [go_sem, Nat.reduceAdd, Nat.reduceEqDiff, Nat.reduceLeDiff, Nat.reduceMul, reduceIte, Nat.zero_ne_one, Nat.one_ne_zero, Nat.zero_add, Nat.add_zero, List.map_cons, List.map_nil, List.length_cons, List.length_nil, decide_true, decide_false, Bool.not_true, Bool.not_false, true_and, and_true, ne_eq, not_true_eq_false, not_false_eq_true, forall_const, List.getElem?_cons_zero, List.getElem?_cons_succ, w64_succ hlt hla]
      refine SLoop.next (xs.length - (i + 1)) (by omega) ⟨i + 1, by omega, rfl, ?_, rfl, ?_⟩
      · simp only [go_sem, Nat.reduceAdd, Nat.reduceEqDiff, Nat.reduceLeDiff, Nat.reduceMul, reduceIte, Nat.zero_ne_one, Nat.one_ne_zero, Nat.zero_add, Nat.add_zero, List.map_cons, List.map_nil, List.length_cons, List.length_nil, decide_true, decide_false, Bool.not_true, Bool.not_false, true_and, and_true, ne_eq, not_true_eq_false, not_false_eq_true, forall_const, List.getElem?_cons_zero, List.getElem?_cons_succ] <;> rfl
      · rw [List.take_add_one, List.take_add_one, heq, List.getElem?_eq_getElem hlt, List.getElem?_eq_getElem hlt']
        have : xs[i] = ys[i] := by simpa using h
        rw [this]
  · refine SW.exit ?_; simp only [go_sem, Nat.reduceAdd, Nat.reduceEqDiff, Nat.reduceLeDiff, Nat.reduceMul, reduceIte, Nat.zero_ne_one, Nat.one_ne_zero, Nat.zero_add, Nat.add_zero, List.map_cons, List.map_nil, List.length_cons, List.length_nil, decide_true, decide_false, Bool.not_true, Bool.not_false, true_and, and_true, ne_eq, not_true_eq_false, not_false_eq_true, forall_const, List.getElem?_cons_zero, List.getElem?_cons_succ]
    refine SW.seq ?_; refine SW.row ?_; simp only [go_sem, Nat.reduceAdd, Nat.reduceEqDiff, Nat.reduceLeDiff, Nat.reduceMul, reduceIte, Nat.zero_ne_one, Nat.one_ne_zero, Nat.zero_add, Nat.add_zero, List.map_cons, List.map_nil, List.length_cons, List.length_nil, decide_true, decide_false, Bool.not_true, Bool.not_false, true_and, and_true, ne_eq, not_true_eq_false, not_false_eq_true, forall_const, List.getElem?_cons_zero, List.getElem?_cons_succ]
    refine SW.ret ?_; (try simp only [go_sem]); refine FunPost.one (GR.of ?_); (try simp only [go_sem, Nat.reduceAdd, Nat.reduceEqDiff, Nat.reduceLeDiff, Nat.reduceMul, reduceIte, Nat.zero_ne_one, Nat.one_ne_zero, Nat.zero_add, Nat.add_zero, List.map_cons, List.map_nil, List.length_cons, List.length_nil, decide_true, decide_false, Bool.not_true, Bool.not_false, true_and, and_true, ne_eq, not_true_eq_false, not_false_eq_true, forall_const, List.getElem?_cons_zero, List.getElem?_cons_succ])
    have hi' : i = xs.length := by have := of_decide_eq_false h; omega
    subst hi'
    have : xs = ys := by
      rw [List.take_length] at heq
      rw [heq, hlen, List.take_length]
    simp [this]

theorem equalFunc_ok {g : Nat} (hcb : callable Try.prog g = true) (hg : ∀ (H : List Blk) (a b : AV) (xs ys : List Int), RdS H a xs → RdS H b ys → ACalls Try.prog g [a, b] H (fun r H' => r = Bv (decide (xs = ys)) ∧ H' = H))
    (H : List Blk) (a b : AV) (xs ys : List (List Int)) (ha : RdSS H a xs) (hb : RdSS H b ys) :
    ACalls Try.prog f_slices_EqualFunc_LLint64_LLint64_Lint64_Lint64 [a, b, .fn g []] H (fun r H' => r = Bv (decide (xs = ys)) ∧ H' = H) := by
  obtain ⟨ca, ha1, ha2, ha3⟩ := ha
  obtain ⟨cb, hb1, hb2, hb3⟩ := hb
  refine ACalls.intro s_slices_EqualFunc_LLint64_LLint64_Lint64_Lint64 (by simp) ?_
  refine SW.seq ?_; refine SW.row ?_; simp only [go_sem, Nat.reduceAdd, Nat.reduceEqDiff, Nat.reduceLeDiff, Nat.reduceMul, reduceIte, Nat.zero_ne_one, Nat.one_ne_zero, Nat.zero_add, Nat.add_zero, List.map_cons, List.map_nil, List.length_cons, List.length_nil, decide_true, decide_false, Bool.not_true, Bool.not_false, true_and, and_true, ne_eq, not_true_eq_false, not_false_eq_true, forall_const, List.getElem?_cons_zero, List.getElem?_cons_succ]
  refine SW.seq ?_; refine SW.seq ?_; refine SW.row ?_; simp only [go_sem, Nat.reduceAdd, Nat.reduceEqDiff, Nat.reduceLeDiff, Nat.reduceMul, reduceIte, Nat.zero_ne_one, Nat.one_ne_zero, Nat.zero_add, Nat.add_zero, List.map_cons, List.map_nil, List.length_cons, List.length_nil, decide_true, decide_false, Bool.not_true, Bool.not_false, true_and, and_true, ne_eq, not_true_eq_false, not_false_eq_true, forall_const, List.getElem?_cons_zero, List.getElem?_cons_succ, ha1, hb1]
  intro hla hlb
  refine SW.cond rfl (fun h => ?_) (fun h => ?_)
  · refine SW.seq ?_; refine SW.row ?_; simp only [go_sem, Nat.reduceAdd, Nat.reduceEqDiff, Nat.reduceLeDiff, Nat.reduceMul, reduceIte, Nat.zero_ne_one, Nat.one_ne_zero, Nat.zero_add, Nat.add_zero, List.map_cons, List.map_nil, List.length_cons, List.length_nil, decide_true, decide_false, Bool.not_true, Bool.not_false, true_and, and_true, ne_eq, not_true_eq_false, not_false_eq_true, forall_const, List.getElem?_cons_zero, List.getElem?_cons_succ]
    refine SW.ret ?_; (try simp only [go_sem]); refine FunPost.one (GR.of ?_); (try simp only [go_sem, Nat.reduceAdd, Nat.reduceEqDiff, Nat.reduceLeDiff, Nat.reduceMul, reduceIte, Nat.zero_ne_one, Nat.one_ne_zero, Nat.zero_add, Nat.add_zero, List.map_cons, List.map_nil, List.length_cons, List.length_nil, decide_true, decide_false, Bool.not_true, Bool.not_false, true_and, and_true, ne_eq, not_true_eq_false, not_false_eq_true, forall_const, List.getElem?_cons_zero, List.getElem?_cons_succ])
    have hne : xs ≠ ys := by rintro rfl; simp at h
    simp [hne]
  refine SW.skip ?_
  have hlen : xs.length = ys.length := by
    have := of_decide_eq_true (by simpa using h : decide ((xs.length : Int) = ys.length) = true)
    omega
  simp only [go_sem]
  refine SW.seq ?_; refine SW.seq ?_; refine SW.row ?_; simp only [go_sem, Nat.reduceAdd, Nat.reduceEqDiff, Nat.reduceLeDiff, Nat.reduceMul, reduceIte, Nat.zero_ne_one, Nat.one_ne_zero, Nat.zero_add, Nat.add_zero, List.map_cons, List.map_nil, List.length_cons, List.length_nil, decide_true, decide_false, Bool.not_true, Bool.not_false, true_and, and_true, ne_eq, not_true_eq_false, not_false_eq_true, forall_const, List.getElem?_cons_zero, List.getElem?_cons_succ, ha1]
  intro _
  refine SW.block ?_
  refine SW.loop (fun k E H' => ∃ i : Nat, i ≤ xs.length ∧ k = xs.length - i ∧ E = [(1, b), (2, .fn g []), (15, a), (16, I xs.length), (17, I i)] ∧ H' = H ∧ xs.take i = ys.take i) xs.length ⟨0, by omega, by omega, rfl, rfl, rfl⟩ ?_
  rintro k E H' ⟨i, hi, rfl, rfl, rfl, heq⟩
  refine SW.seq ?_; refine SW.row ?_; simp only [go_sem, Nat.reduceAdd, Nat.reduceEqDiff, Nat.reduceLeDiff, Nat.reduceMul, reduceIte, Nat.zero_ne_one, Nat.one_ne_zero, Nat.zero_add, Nat.add_zero, List.map_cons, List.map_nil, List.length_cons, List.length_nil, decide_true, decide_false, Bool.not_true, Bool.not_false, true_and, and_true, ne_eq, not_true_eq_false, not_false_eq_true, forall_const, List.getElem?_cons_zero, List.getElem?_cons_succ]; refine SW.seq ?_; refine SW.cond rfl (fun h => ?_) (fun h => ?_)
  · have hlt : i < xs.length := by have := of_decide_eq_true h; omega
    have hlt' : i < ys.length := by omega
    have hca : i < ca.length := by omega
    have hcb' : i < cb.length := by omega
    refine SW.skip ?_; simp only [go_sem, Nat.reduceAdd, Nat.reduceEqDiff, Nat.reduceLeDiff, Nat.reduceMul, reduceIte, Nat.zero_ne_one, Nat.one_ne_zero, Nat.zero_add, Nat.add_zero, List.map_cons, List.map_nil, List.length_cons, List.length_nil, decide_true, decide_false, Bool.not_true, Bool.not_false, true_and, and_true, ne_eq, not_true_eq_false, not_false_eq_true, forall_const, List.getElem?_cons_zero, List.getElem?_cons_succ]
    refine SW.seq ?_; refine SW.block ?_; refine SW.seq ?_; refine SW.row ?_; simp only [go_sem, Nat.reduceAdd, Nat.reduceEqDiff, Nat.reduceLeDiff, Nat.reduceMul, reduceIte, Nat.zero_ne_one, Nat.one_ne_zero, Nat.zero_add, Nat.add_zero, List.map_cons, List.map_nil, List.length_cons, List.length_nil, decide_true, decide_false, Bool.not_true, Bool.not_false, true_and, and_true, ne_eq, not_true_eq_false, not_false_eq_true, forall_const, List.getElem?_cons_zero, List.getElem?_cons_succ, idxc ha1 hlt, ldc ha1 (List.getElem?_eq_getElem hca)]
    refine SW.seq ?_; refine SW.row ?_; simp only [go_sem, Nat.reduceAdd, Nat.reduceEqDiff, Nat.reduceLeDiff, Nat.reduceMul, reduceIte, Nat.zero_ne_one, Nat.one_ne_zero, Nat.zero_add, Nat.add_zero, List.map_cons, List.map_nil, List.length_cons, List.length_nil, decide_true, decide_false, Bool.not_true, Bool.not_false, true_and, and_true, ne_eq, not_true_eq_false, not_false_eq_true, forall_const, List.getElem?_cons_zero, List.getElem?_cons_succ, idxc hb1 hlt', ldc hb1 (List.getElem?_eq_getElem hcb')]
    refine SW.seq ?_; refine SW.row ?_; simp only [go_sem, Nat.reduceAdd, Nat.reduceEqDiff, Nat.reduceLeDiff, Nat.reduceMul, reduceIte, Nat.zero_ne_one, Nat.one_ne_zero, Nat.zero_add, Nat.add_zero, List.map_cons, List.map_nil, List.length_cons, List.length_nil, decide_true, decide_false, Bool.not_true, Bool.not_false, true_and, and_true, ne_eq, not_true_eq_false, not_false_eq_true, forall_const, List.getElem?_cons_zero, List.getElem?_cons_succ, hcb, List.append_nil]
    refine ACalls.fn (hg _ _ _ _ _ (ha3 i _ _ (List.getElem?_eq_getElem hca) (List.getElem?_eq_getElem hlt)) (hb3 i _ _ (List.getElem?_eq_getElem hcb') (List.getElem?_eq_getElem hlt'))) ?_
    simp only [go_sem, Nat.reduceAdd, Nat.reduceEqDiff, Nat.reduceLeDiff, Nat.reduceMul, reduceIte, Nat.zero_ne_one, Nat.one_ne_zero, Nat.zero_add, Nat.add_zero, List.map_cons, List.map_nil, List.length_cons, List.length_nil, decide_true, decide_false, Bool.not_true, Bool.not_false, true_and, and_true, ne_eq, not_true_eq_false, not_false_eq_true, forall_const, List.getElem?_cons_zero, List.getElem?_cons_succ]
    refine SW.cond rfl (fun h => ?_) (fun h => ?_)
    · refine SW.seq ?_; refine SW.row ?_; simp only [go_sem, Nat.reduceAdd, Nat.reduceEqDiff, Nat.reduceLeDiff, Nat.reduceMul, reduceIte, Nat.zero_ne_one, Nat.one_ne_zero, Nat.zero_add, Nat.add_zero, List.map_cons, List.map_nil, List.length_cons, List.length_nil, decide_true, decide_false, Bool.not_true, Bool.not_false, true_and, and_true, ne_eq, not_true_eq_false, not_false_eq_true, forall_const, List.getElem?_cons_zero, List.getElem?_cons_succ]
      refine SW.ret ?_; (try simp only [go_sem]); refine FunPost.one (GR.of ?_); (try simp only [go_sem, Nat.reduceAdd, Nat.reduceEqDiff, Nat.reduceLeDiff, Nat.reduceMul, reduceIte, Nat.zero_ne_one, Nat.one_ne_zero, Nat.zero_add, Nat.add_zero, List.map_cons, List.map_nil, List.length_cons, List.length_nil, decide_true, decide_false, Bool.not_true, Bool.not_false, true_and, and_true, ne_eq, not_true_eq_false, not_false_eq_true, forall_const, List.getElem?_cons_zero, List.getElem?_cons_succ])
      have hne : xs ≠ ys := by rintro rfl; simp at h
      simp [hne]
    · refine SW.skip ?_; simp only [go_sem, Nat.reduceAdd, Nat.reduceEqDiff, Nat.reduceLeDiff, Nat.reduceMul, reduceIte, Nat.zero_ne_one, Nat.one_ne_zero, Nat.zero_add, Nat.add_zero, List.map_cons, List.map_nil, List.length_cons, List.length_nil, decide_true, decide_false, Bool.not_true, Bool.not_false, true_and, and_true, ne_eq, not_true_eq_false, not_false_eq_true, forall_const, List.getElem?_cons_zero, List.getElem?_cons_succ]
      refine SW.row ?_; simp only [go_sem, Nat.reduceAdd, Nat.reduceEqDiff, Nat.reduceLeDiff, Nat.reduceMul, reduceIte, Nat.zero_ne_one, Nat.one_ne_zero, Nat.zero_add, Nat.add_zero, List.map_cons, List.map_nil, List.length_cons, List.length_nil, decide_true, decide_false, Bool.not_true, Bool.not_false, true_and, and_true, ne_eq, not_true_eq_false, not_false_eq_true, forall_const, List.getElem?_cons_zero, List.getElem?_cons_succ, w64_succ hlt hla]
      refine SLoop.next (xs.length - (i + 1)) (by omega) ⟨i + 1, by omega, rfl, ?_, rfl, ?_⟩
      · simp only [go_sem, Nat.reduceAdd, Nat.reduceEqDiff, Nat.reduceLeDiff, Nat.reduceMul, reduceIte, Nat.zero_ne_one, Nat.one_ne_zero, Nat.zero_add, Nat.add_zero, List.map_cons, List.map_nil, List.length_cons, List.length_nil, decide_true, decide_false, Bool.not_true, Bool.not_false, true_and, and_true, ne_eq, not_true_eq_false, not_false_eq_true, forall_const, List.getElem?_cons_zero, List.getElem?_cons_succ] <;> rfl
      · rw [List.take_add_one, List.take_add_one, heq, List.getElem?_eq_getElem hlt, List.getElem?_eq_getElem hlt']
        have : xs[i] = ys[i] := by simpa using h
        rw [this]
  · refine SW.exit ?_; simp only [go_sem, Nat.reduceAdd, Nat.reduceEqDiff, Nat.reduceLeDiff, Nat.reduceMul, reduceIte, Nat.zero_ne_one, Nat.one_ne_zero, Nat.zero_add, Nat.add_zero, List.map_cons, List.map_nil, List.length_cons, List.length_nil, decide_true, decide_false, Bool.not_true, Bool.not_false, true_and, and_true, ne_eq, not_true_eq_false, not_false_eq_true, forall_const, List.getElem?_cons_zero, List.getElem?_cons_succ]
    refine SW.seq ?_; refine SW.row ?_; simp only [go_sem, Nat.reduceAdd, Nat.reduceEqDiff, Nat.reduceLeDiff, Nat.reduceMul, reduceIte, Nat.zero_ne_one, Nat.one_ne_zero, Nat.zero_add, Nat.add_zero, List.map_cons, List.map_nil, List.length_cons, List.length_nil, decide_true, decide_false, Bool.not_true, Bool.not_false, true_and, and_true, ne_eq, not_true_eq_false, not_false_eq_true, forall_const, List.getElem?_cons_zero, List.getElem?_cons_succ]
    refine SW.ret ?_; (try simp only [go_sem]); refine FunPost.one (GR.of ?_); (try simp only [go_sem, Nat.reduceAdd, Nat.reduceEqDiff, Nat.reduceLeDiff, Nat.reduceMul, reduceIte, Nat.zero_ne_one, Nat.one_ne_zero, Nat.zero_add, Nat.add_zero, List.map_cons, List.map_nil, List.length_cons, List.length_nil, decide_true, decide_false, Bool.not_true, Bool.not_false, true_and, and_true, ne_eq, not_true_eq_false, not_false_eq_true, forall_const, List.getElem?_cons_zero, List.getElem?_cons_succ])
    have hi' : i = xs.length := by have := of_decide_eq_false h; omega
    subst hi'
    have : xs = ys := by
      rw [List.take_length] at heq
      rw [heq, hlen, List.take_length]
    simp [this]

theorem areSame_ok (H : List Blk) (a b : AV) (xs ys : List (List Int)) (ha : RdSS H a xs) (hb : RdSS H b ys) :
    ACalls Try.prog f_impl_areSame [a, b] H (fun r H' => r = Bv (decide (xs = ys)) ∧ H' = H) := by
  refine ACalls.intro s_impl_areSame (by simp) ?_
  refine SW.seq ?_; refine SW.row ?_; simp only [go_sem, Nat.reduceAdd, Nat.reduceEqDiff, Nat.reduceLeDiff, Nat.reduceMul, reduceIte, Nat.zero_ne_one, Nat.one_ne_zero, Nat.zero_add, Nat.add_zero, List.map_cons, List.map_nil, List.length_cons, List.length_nil, decide_true, decide_false, Bool.not_true, Bool.not_false, true_and, and_true, ne_eq, not_true_eq_false, not_false_eq_true, forall_const, List.getElem?_cons_zero, List.getElem?_cons_succ]
  refine SW.seq ?_; refine SW.row ?_; simp only [go_sem, Nat.reduceAdd, Nat.reduceEqDiff, Nat.reduceLeDiff, Nat.reduceMul, reduceIte, Nat.zero_ne_one, Nat.one_ne_zero, Nat.zero_add, Nat.add_zero, List.map_cons, List.map_nil, List.length_cons, List.length_nil, decide_true, decide_false, Bool.not_true, Bool.not_false, true_and, and_true, ne_eq, not_true_eq_false, not_false_eq_true, forall_const, List.getElem?_cons_zero, List.getElem?_cons_succ]
  refine ACalls.fn (equalFunc_ok (by kernel_rfl) slicesEqual_ok H a b xs ys ha hb) ?_
  simp only [go_sem, Nat.reduceAdd, Nat.reduceEqDiff, Nat.reduceLeDiff, Nat.reduceMul, reduceIte, Nat.zero_ne_one, Nat.one_ne_zero, Nat.zero_add, Nat.add_zero, List.map_cons, List.map_nil, List.length_cons, List.length_nil, decide_true, decide_false, Bool.not_true, Bool.not_false, true_and, and_true, ne_eq, not_true_eq_false, not_false_eq_true, forall_const, List.getElem?_cons_zero, List.getElem?_cons_succ]
  refine SW.ret ?_; (try simp only [go_sem]); refine FunPost.one (GR.of ?_); (try simp only [go_sem, Nat.reduceAdd, Nat.reduceEqDiff, Nat.reduceLeDiff, Nat.reduceMul, reduceIte, Nat.zero_ne_one, Nat.one_ne_zero, Nat.zero_add, Nat.add_zero, List.map_cons, List.map_nil, List.length_cons, List.length_nil, decide_true, decide_false, Bool.not_true, Bool.not_false, true_and, and_true, ne_eq, not_true_eq_false, not_false_eq_true, forall_const, List.getElem?_cons_zero, List.getElem?_cons_succ])

theorem sameCover_of {f g : Nat} {anns : List (List Nat)} {c : SC} (hs : stripF Try.prog f anns = some (c, [.tmp 4], 17)) (hc : c = .seq (.reg [⟨(some 2), .box 24 (.tmp 0), none⟩, ⟨(some 3), .box 24 (.tmp 1), none⟩, ⟨(some 4), .mv (.const (.bool false)), none⟩] [2, 3])
 (.seq (.reg [
     ⟨(some 5), .faddr 0 (.tmp 2), none⟩,
     ⟨(some 6), .load 1 false (.tmp 5), none⟩,
     ⟨(some 7), .faddr 0 (.tmp 3), none⟩,
     ⟨(some 8), .load 1 false (.tmp 7), none⟩,
     ⟨(some 9), .bin .eql (.tmp 6) (.tmp 8), none⟩,
     ⟨(some 10), .mv (.tmp 9), none⟩,
     ⟨(some 11), .faddr 1 (.tmp 2), (some (10, true))⟩,
     ⟨(some 12), .load 1 false (.tmp 11), (some (10, true))⟩,
     ⟨(some 13), .faddr 1 (.tmp 3), (some (10, true))⟩,
     ⟨(some 14), .load 1 false (.tmp 13), (some (10, true))⟩,
     ⟨(some 15), .call g [(.tmp 12), (.tmp 14)], (some (10, true))⟩,
     ⟨(some 16), .pick (.tmp 10) (.tmp 15) (.const (.bool false)), none⟩,
     ⟨(some 4), .mv (.tmp 16), none⟩] [4])
 (.ret)))
    (hg : ∀ (H : List Blk) (a b : AV) (xs ys : List (List Int)), RdSS H a xs → RdSS H b ys → ACalls Try.prog g [a, b] H (fun r H' => r = Bv (decide (xs = ys)) ∧ H' = H))
    (H : List Blk) (n m : Int) (a b : AV) (xs ys : List (List Int)) (ca : a.cell1 = true) (cb : b.cell1 = true) (ha : RdSS H a xs) (hb : RdSS H b ys) :
    ACalls Try.prog f [.agg [I n, a], .agg [I m, b]] H (fun r H' => r = Bv (decide (n = m) && decide (xs = ys)) ∧ H' = H) := by
  subst hc
  refine ACalls.intro hs (by simp) ?_
  refine SW.seq ?_; refine SW.row ?_; simp only [go_sem, Nat.reduceAdd, Nat.reduceEqDiff, Nat.reduceLeDiff, Nat.reduceMul, reduceIte, Nat.zero_ne_one, Nat.one_ne_zero, Nat.zero_add, Nat.add_zero, List.map_cons, List.map_nil, List.length_cons, List.length_nil, decide_true, decide_false, Bool.not_true, Bool.not_false, true_and, and_true, ne_eq, not_true_eq_false, not_false_eq_true, forall_const, List.getElem?_cons_zero, List.getElem?_cons_succ, List.all_nil, List.all_cons, List.length_set, List.append_assoc, List.cons_append, List.nil_append, List.length_append, List.length_set, List.set_cons_zero, List.set_cons_succ, acell1_own, acell1_own0, alive_own, alive_own0, acells_own, acells_own0, astore_own, astore_own0, aview_own, aview_own0, PcL_some, PcV_some, PcG_some, PcS_some, NmV_some, setMany_nil, setMany_cons, partsOf_agg, cell1_nm, cell1_nil, cell1_il, cell1_Bv, cell1_pc, partsOf_nm, partsOf_il, partsOf_nil, partsOf_Bv, afill_nil, afill_cons, List.drop_zero, List.drop_succ_cons, List.take_succ_cons, List.take_zero, List.take_nil, and_self, Nat.le_refl, ca, cb]
  refine SW.seq ?_; refine SW.row ?_; simp only [go_sem, Nat.reduceAdd, Nat.reduceEqDiff, Nat.reduceLeDiff, Nat.reduceMul, reduceIte, Nat.zero_ne_one, Nat.one_ne_zero, Nat.zero_add, Nat.add_zero, List.map_cons, List.map_nil, List.length_cons, List.length_nil, decide_true, decide_false, Bool.not_true, Bool.not_false, true_and, and_true, ne_eq, not_true_eq_false, not_false_eq_true, forall_const, List.getElem?_cons_zero, List.getElem?_cons_succ, List.all_nil, List.all_cons, List.length_set, List.append_assoc, List.cons_append, List.nil_append, List.length_append, List.length_set, List.set_cons_zero, List.set_cons_succ, acell1_own, acell1_own0, alive_own, alive_own0, acells_own, acells_own0, astore_own, astore_own0, aview_own, aview_own0, PcL_some, PcV_some, PcG_some, PcS_some, NmV_some, setMany_nil, setMany_cons, partsOf_agg, cell1_nm, cell1_nil, cell1_il, cell1_Bv, cell1_pc, partsOf_nm, partsOf_il, partsOf_nil, partsOf_Bv, afill_nil, afill_cons, List.drop_zero, List.drop_succ_cons, List.take_succ_cons, List.take_zero, List.take_nil, and_self, Nat.le_refl]
  refine ⟨fun h => ?_, fun h => ?_⟩
  · refine ACalls.fn (hg _ _ _ _ _ (ha.append _) (hb.append _)) ?_
    simp only [go_sem, Nat.reduceAdd, Nat.reduceEqDiff, Nat.reduceLeDiff, Nat.reduceMul, reduceIte, Nat.zero_ne_one, Nat.one_ne_zero, Nat.zero_add, Nat.add_zero, List.map_cons, List.map_nil, List.length_cons, List.length_nil, decide_true, decide_false, Bool.not_true, Bool.not_false, true_and, and_true, ne_eq, not_true_eq_false, not_false_eq_true, forall_const, List.getElem?_cons_zero, List.getElem?_cons_succ]
    refine SW.ret ?_
    refine FunPost.one (GR.drop (ext := [_, _]) (.lit _) ?_)
    rw [h]; simp [aget]
  · refine SW.ret ?_
    refine FunPost.one (GR.drop (ext := [_, _]) (.lit _) ?_)
    rw [h]; simp [aget]

theorem specSameCover_ok (H : List Blk) (n m : Int) (a b : AV) (xs ys : List (List Int)) (ca : a.cell1 = true) (cb : b.cell1 = true) (ha : RdSS H a xs) (hb : RdSS H b ys) :
    ACalls Try.prog f_spec_SameCover [.agg [I n, a], .agg [I m, b]] H (fun r H' => r = Bv (decide (n = m) && decide (xs = ys)) ∧ H' = H) := sameCover_of s_spec_SameCover rfl l10Same_ok H n m a b xs ys ca cb ha hb
theorem implSameCover_ok (H : List Blk) (n m : Int) (a b : AV) (xs ys : List (List Int)) (ca : a.cell1 = true) (cb : b.cell1 = true) (ha : RdSS H a xs) (hb : RdSS H b ys) :
    ACalls Try.prog f_impl_SameCover [.agg [I n, a], .agg [I m, b]] H (fun r H' => r = Bv (decide (n = m) && decide (xs = ys)) ∧ H' = H) := sameCover_of s_impl_SameCover rfl areSame_ok H n m a b xs ys ca cb ha hb
end Go.Proofs.Ytmgbglekgigkmaa
