/- Exact covers: what is covered; IsCover; OptionsWith. -/
import Derived.Test.YtmgbglekgigkmaaK6
import Derived.Test.YtmgbglekgigkmaaScV
set_option linter.unusedSimpArgs false
set_option linter.unusedVariables false
set_option maxHeartbeats 4000000
namespace Go.Proofs.Ytmgbglekgigkmaa
open Go.Av

theorem IndexB_ok (H : List Blk) (xs : List Bool) (v : Bool) : ACalls Try.prog f_slices_Index_Lbool_bool [ilB xs, Bv v] H (fun r H' => (∃ i : Int, r = I i ∧ (0 ≤ i ↔ xs.contains v = true)) ∧ H' = H) := by
  refine ACalls.introB s_slices_Index_Lbool_bool (by simp) ?_; intro hB hA; unfold c_slices_Index_Lbool_bool; simp (config := { maxSteps := 1000000 }) (disch := (first | omega | (simp only [go_sem]; try omega))) only [go_sem, ↓GSplit_t, ↓GSplit_f, ↓GSplit_tf, ↓GSplit_ft, Nat.reduceAdd, Nat.reduceEqDiff, Nat.reduceLeDiff, Nat.reduceMul, Nat.reduceLT, reduceIte, Int.reduceToNat, bne_self_eq_false, beq_self_eq_true, w64_id, cast_succ, Bool.false_eq_true, Bool.and_true, Bool.true_and, Bool.and_false, Bool.false_and, Bool.not_not]
  repeat (first | (with_reducible refine SW.seq ?_) | (with_reducible refine SW.block ?_) | (with_reducible refine SW.rowC ?_) | (with_reducible refine SW.skip ?_) | (with_reducible refine SW.exit ?_) | (with_reducible intro _) | (with_reducible refine And.intro (by omega) ?_) | (simp (config := { maxSteps := 1000000 }) (disch := (first | omega | (simp only [go_sem]; try omega))) only [go_sem, ↓GSplit_t, ↓GSplit_f, ↓GSplit_tf, ↓GSplit_ft, Nat.reduceAdd, Nat.reduceEqDiff, Nat.reduceLeDiff, Nat.reduceMul, Nat.reduceLT, reduceIte, Int.reduceToNat, bne_self_eq_false, beq_self_eq_true, w64_id, cast_succ, Bool.false_eq_true, Bool.and_true, Bool.true_and, Bool.and_false, Bool.false_and, Bool.not_not]))
  refine SW.loopE (fun E0 H0 q E' H' => ∃ (pre post : List Bool), xs = pre ++ post ∧ q = post.length ∧ E' = aput E0 8 (I pre.length) ∧ H' = H0 ∧ pre.contains v = false) xs.length ⟨[], xs, rfl, rfl, rfl, rfl, rfl⟩ ?_
  rintro q E' H' ⟨pre, post, hpp, rfl, rfl, rfl, hn⟩
  simp (config := { maxSteps := 1000000 }) (disch := (first | omega | (simp only [go_sem]; try omega))) only [go_sem, ↓GSplit_t, ↓GSplit_f, ↓GSplit_tf, ↓GSplit_ft, Nat.reduceAdd, Nat.reduceEqDiff, Nat.reduceLeDiff, Nat.reduceMul, Nat.reduceLT, reduceIte, Int.reduceToNat, bne_self_eq_false, beq_self_eq_true, w64_id, cast_succ, Bool.false_eq_true, Bool.and_true, Bool.true_and, Bool.and_false, Bool.false_and, Bool.not_not]
  repeat (first | (with_reducible refine SW.seq ?_) | (with_reducible refine SW.block ?_) | (with_reducible refine SW.rowC ?_) | (with_reducible refine SW.skip ?_) | (with_reducible refine SW.exit ?_) | (with_reducible intro _) | (with_reducible refine And.intro (by omega) ?_) | (simp (config := { maxSteps := 1000000 }) (disch := (first | omega | (simp only [go_sem]; try omega))) only [go_sem, ↓GSplit_t, ↓GSplit_f, ↓GSplit_tf, ↓GSplit_ft, Nat.reduceAdd, Nat.reduceEqDiff, Nat.reduceLeDiff, Nat.reduceMul, Nat.reduceLT, reduceIte, Int.reduceToNat, bne_self_eq_false, beq_self_eq_true, w64_id, cast_succ, Bool.false_eq_true, Bool.and_true, Bool.true_and, Bool.and_false, Bool.false_and, Bool.not_not]))
  (first | refine SW.condD rfl (fun h => ?_) (fun h => ?_) | refine SW.condN rfl (fun h => ?_) (fun h => ?_) | refine SW.condNB rfl (fun h => ?_) (fun h => ?_) | refine SW.condB rfl (fun h => ?_) (fun h => ?_))
  · cases post with
    | nil => exfalso; simp at hpp; subst hpp; omega
    | cons x post =>
      have hgx : xs.getD pre.length false = x := by subst hpp; simp
      repeat (first | (with_reducible refine SW.seq ?_) | (with_reducible refine SW.block ?_) | (with_reducible refine SW.rowC ?_) | (with_reducible refine SW.skip ?_) | (with_reducible refine SW.exit ?_) | (with_reducible intro _) | (with_reducible refine And.intro (by omega) ?_) | (simp (config := { maxSteps := 1000000 }) (disch := (first | omega | (simp only [go_sem]; try omega))) only [go_sem, ↓GSplit_t, ↓GSplit_f, ↓GSplit_tf, ↓GSplit_ft, Nat.reduceAdd, Nat.reduceEqDiff, Nat.reduceLeDiff, Nat.reduceMul, Nat.reduceLT, reduceIte, Int.reduceToNat, bne_self_eq_false, beq_self_eq_true, w64_id, cast_succ, Bool.false_eq_true, Bool.and_true, Bool.true_and, Bool.and_false, Bool.false_and, Bool.not_not, hgx]))
      (first | refine SW.condD rfl (fun h2 => ?_) (fun h2 => ?_) | refine SW.condN rfl (fun h2 => ?_) (fun h2 => ?_) | refine SW.condNB rfl (fun h2 => ?_) (fun h2 => ?_) | refine SW.condB rfl (fun h2 => ?_) (fun h2 => ?_))
      · repeat (first | (with_reducible refine SW.seq ?_) | (with_reducible refine SW.block ?_) | (with_reducible refine SW.rowC ?_) | (with_reducible refine SW.skip ?_) | (with_reducible refine SW.exit ?_) | (with_reducible intro _) | (with_reducible refine And.intro (by omega) ?_) | (simp (config := { maxSteps := 1000000 }) (disch := (first | omega | (simp only [go_sem]; try omega))) only [go_sem, ↓GSplit_t, ↓GSplit_f, ↓GSplit_tf, ↓GSplit_ft, Nat.reduceAdd, Nat.reduceEqDiff, Nat.reduceLeDiff, Nat.reduceMul, Nat.reduceLT, reduceIte, Int.reduceToNat, bne_self_eq_false, beq_self_eq_true, w64_id, cast_succ, Bool.false_eq_true, Bool.and_true, Bool.true_and, Bool.and_false, Bool.false_and, Bool.not_not]))
        refine SW.ret ?_; (try simp only [go_sem]); (first | refine FunPost.one ?_ | refine FunPost.two ?_ | refine FunPost.three ?_); (try simp (config := { maxSteps := 1000000 }) (disch := (first | omega | (simp only [go_sem]; try omega))) only [go_sem, ↓GSplit_t, ↓GSplit_f, ↓GSplit_tf, ↓GSplit_ft, Nat.reduceAdd, Nat.reduceEqDiff, Nat.reduceLeDiff, Nat.reduceMul, Nat.reduceLT, reduceIte, Int.reduceToNat, bne_self_eq_false, beq_self_eq_true, w64_id, cast_succ, Bool.false_eq_true, Bool.and_true, Bool.true_and, Bool.and_false, Bool.false_and, Bool.not_not]); (first | (with_reducible refine GR.drop ?_ ?_; (simp only [and_self, and_true, true_and, implies_true, Bel_lit, Bel_I, Bel_Bv, Bel_nil, Bel_junk, Bel_nm, Bel_pc, Bel_il, Bel_agg, Bel_tup, Bel_fn, Bel_el, all_mapI, all_mapB, all_mapS, all_nilB, all_consB, EB_nil, EB_cons, BB_nil, BB_cons, Bel_ilS, Bel_ilSS, Bel_ilB, List.getElem?_cons_zero, List.take_succ_cons, List.take_zero, keep_nil, keep_cons])) | refine GR.of ?_); refine ⟨?_, rfl⟩; (try with_reducible rfl)
        exact ⟨_, rfl, by subst hpp; subst h2; simp⟩
      · repeat (first | (with_reducible refine SW.seq ?_) | (with_reducible refine SW.block ?_) | (with_reducible refine SW.rowC ?_) | (with_reducible refine SW.skip ?_) | (with_reducible refine SW.exit ?_) | (with_reducible intro _) | (with_reducible refine And.intro (by omega) ?_) | (simp (config := { maxSteps := 1000000 }) (disch := (first | omega | (simp only [go_sem]; try omega))) only [go_sem, ↓GSplit_t, ↓GSplit_f, ↓GSplit_tf, ↓GSplit_ft, Nat.reduceAdd, Nat.reduceEqDiff, Nat.reduceLeDiff, Nat.reduceMul, Nat.reduceLT, reduceIte, Int.reduceToNat, bne_self_eq_false, beq_self_eq_true, w64_id, cast_succ, Bool.false_eq_true, Bool.and_true, Bool.true_and, Bool.and_false, Bool.false_and, Bool.not_not]))
        refine SLoop.next post.length (by simp) ⟨pre ++ [x], post, by simp [hpp], rfl, ?_, rfl, ?_⟩
        · simp [go_sem]
        · simp at hn ⊢; exact ⟨hn, h2⟩
  · repeat (first | (with_reducible refine SW.seq ?_) | (with_reducible refine SW.block ?_) | (with_reducible refine SW.rowC ?_) | (with_reducible refine SW.skip ?_) | (with_reducible refine SW.exit ?_) | (with_reducible intro _) | (with_reducible refine And.intro (by omega) ?_) | (simp (config := { maxSteps := 1000000 }) (disch := (first | omega | (simp only [go_sem]; try omega))) only [go_sem, ↓GSplit_t, ↓GSplit_f, ↓GSplit_tf, ↓GSplit_ft, Nat.reduceAdd, Nat.reduceEqDiff, Nat.reduceLeDiff, Nat.reduceMul, Nat.reduceLT, reduceIte, Int.reduceToNat, bne_self_eq_false, beq_self_eq_true, w64_id, cast_succ, Bool.false_eq_true, Bool.and_true, Bool.true_and, Bool.and_false, Bool.false_and, Bool.not_not]))
    refine SW.ret ?_; (try simp only [go_sem]); (first | refine FunPost.one ?_ | refine FunPost.two ?_ | refine FunPost.three ?_); (try simp (config := { maxSteps := 1000000 }) (disch := (first | omega | (simp only [go_sem]; try omega))) only [go_sem, ↓GSplit_t, ↓GSplit_f, ↓GSplit_tf, ↓GSplit_ft, Nat.reduceAdd, Nat.reduceEqDiff, Nat.reduceLeDiff, Nat.reduceMul, Nat.reduceLT, reduceIte, Int.reduceToNat, bne_self_eq_false, beq_self_eq_true, w64_id, cast_succ, Bool.false_eq_true, Bool.and_true, Bool.true_and, Bool.and_false, Bool.false_and, Bool.not_not]); (first | (with_reducible refine GR.drop ?_ ?_; (simp only [and_self, and_true, true_and, implies_true, Bel_lit, Bel_I, Bel_Bv, Bel_nil, Bel_junk, Bel_nm, Bel_pc, Bel_il, Bel_agg, Bel_tup, Bel_fn, Bel_el, all_mapI, all_mapB, all_mapS, all_nilB, all_consB, EB_nil, EB_cons, BB_nil, BB_cons, Bel_ilS, Bel_ilSS, Bel_ilB, List.getElem?_cons_zero, List.take_succ_cons, List.take_zero, keep_nil, keep_cons])) | refine GR.of ?_); refine ⟨?_, rfl⟩; (try with_reducible rfl)
    have : post = [] := by cases post with
      | nil => rfl
      | cons x post => exfalso; subst hpp; simp at h; omega
    subst this
    refine ⟨-1, rfl, ?_⟩
    rw [List.append_nil] at hpp; subst hpp
    simpa using hn

theorem ContainsB_fn (xs : List Bool) (v : Bool) : PFn Try.prog f_slices_Contains_Lbool_bool [ilB xs, Bv v] (Bv (xs.contains v)) := by
  intro H; refine ACalls.introB s_slices_Contains_Lbool_bool (by simp) ?_; intro hB hA; unfold c_slices_Contains_Lbool_bool; simp (config := { maxSteps := 1000000 }) (disch := (first | omega | (simp only [go_sem]; try omega))) only [go_sem, ↓GSplit_t, ↓GSplit_f, ↓GSplit_tf, ↓GSplit_ft, Nat.reduceAdd, Nat.reduceEqDiff, Nat.reduceLeDiff, Nat.reduceMul, Nat.reduceLT, reduceIte, Int.reduceToNat, bne_self_eq_false, beq_self_eq_true, w64_id, cast_succ, Bool.false_eq_true, Bool.and_true, Bool.true_and, Bool.and_false, Bool.false_and, Bool.not_not]
  repeat (first | (with_reducible refine SW.seq ?_) | (with_reducible refine SW.block ?_) | (with_reducible refine SW.rowC ?_) | (with_reducible refine SW.skip ?_) | (with_reducible refine SW.exit ?_) | (with_reducible intro _) | (with_reducible refine And.intro (by omega) ?_) | (simp (config := { maxSteps := 1000000 }) (disch := (first | omega | (simp only [go_sem]; try omega))) only [go_sem, ↓GSplit_t, ↓GSplit_f, ↓GSplit_tf, ↓GSplit_ft, Nat.reduceAdd, Nat.reduceEqDiff, Nat.reduceLeDiff, Nat.reduceMul, Nat.reduceLT, reduceIte, Int.reduceToNat, bne_self_eq_false, beq_self_eq_true, w64_id, cast_succ, Bool.false_eq_true, Bool.and_true, Bool.true_and, Bool.and_false, Bool.false_and, Bool.not_not]))
  refine (IndexB_ok H xs v).mono ?_
  rintro r H' ⟨⟨i, rfl, h2⟩, rfl⟩
  repeat (first | (with_reducible refine SW.seq ?_) | (with_reducible refine SW.block ?_) | (with_reducible refine SW.rowC ?_) | (with_reducible refine SW.skip ?_) | (with_reducible refine SW.exit ?_) | (with_reducible intro _) | (with_reducible refine And.intro (by omega) ?_) | (simp (config := { maxSteps := 1000000 }) (disch := (first | omega | (simp only [go_sem]; try omega))) only [go_sem, ↓GSplit_t, ↓GSplit_f, ↓GSplit_tf, ↓GSplit_ft, Nat.reduceAdd, Nat.reduceEqDiff, Nat.reduceLeDiff, Nat.reduceMul, Nat.reduceLT, reduceIte, Int.reduceToNat, bne_self_eq_false, beq_self_eq_true, w64_id, cast_succ, Bool.false_eq_true, Bool.and_true, Bool.true_and, Bool.and_false, Bool.false_and, Bool.not_not]))
  refine SW.ret ?_; (try simp only [go_sem]); (first | refine FunPost.one ?_ | refine FunPost.two ?_ | refine FunPost.three ?_); (try simp (config := { maxSteps := 1000000 }) (disch := (first | omega | (simp only [go_sem]; try omega))) only [go_sem, ↓GSplit_t, ↓GSplit_f, ↓GSplit_tf, ↓GSplit_ft, Nat.reduceAdd, Nat.reduceEqDiff, Nat.reduceLeDiff, Nat.reduceMul, Nat.reduceLT, reduceIte, Int.reduceToNat, bne_self_eq_false, beq_self_eq_true, w64_id, cast_succ, Bool.false_eq_true, Bool.and_true, Bool.true_and, Bool.and_false, Bool.false_and, Bool.not_not]); (first | (with_reducible refine GR.drop ?_ ?_; (simp only [and_self, and_true, true_and, implies_true, Bel_lit, Bel_I, Bel_Bv, Bel_nil, Bel_junk, Bel_nm, Bel_pc, Bel_il, Bel_agg, Bel_tup, Bel_fn, Bel_el, all_mapI, all_mapB, all_mapS, all_nilB, all_consB, EB_nil, EB_cons, BB_nil, BB_cons, Bel_ilS, Bel_ilSS, Bel_ilB, List.getElem?_cons_zero, List.take_succ_cons, List.take_zero, keep_nil, keep_cons])) | refine GR.of ?_); refine ⟨?_, rfl⟩; (try with_reducible rfl)
  refine congrArg Bv ?_
  rw [Bool.eq_iff_iff, decide_eq_true_eq, h2]

/-- The items of some options. -/
def itemsOf (xss : List (List Int)) (cols : List Int) : List Int := cols.flatMap fun k => xss.getD k.toNat []
theorem itemsOf_mid (xss : List (List Int)) (pre post : List Int) (k : Int) : itemsOf xss (pre ++ k :: post) = itemsOf xss pre ++ xss.getD k.toNat [] ++ itemsOf xss post := by simp [itemsOf]
theorem itemsOf_snoc (xss : List (List Int)) (pre : List Int) (k : Int) : itemsOf xss (pre ++ [k]) = itemsOf xss pre ++ xss.getD k.toNat [] := by simp [itemsOf]
/-- Which of n items stand in a list. -/
def marks (n : Nat) (l : List Int) : List Bool := (List.range n).map fun (i : Nat) => l.contains (i : Int)
theorem marks_nil (n : Nat) : List.replicate n false = marks n [] := by
  unfold marks; apply List.ext_getElem <;> simp
theorem marks_length (n : Nat) (l : List Int) : (marks n l).length = n := by simp [marks]
theorem marks_set (n : Nat) (l : List Int) (x : Int) (h0 : 0 ≤ x) : (marks n l).set x.toNat true = marks n (l ++ [x]) := by
  unfold marks
  apply List.ext_getElem
  · simp
  · intro i h1 h2
    simp only [List.getElem_set, List.getElem_map, List.getElem_range]
    split
    · rename_i h; subst h; simp [Int.toNat_of_nonneg h0]
    · rename_i h
      have : ¬ (i : Int) = x := by intro he; apply h; rw [← he]; simp
      simp [this]
theorem marks_get (n : Nat) (l : List Int) (x : Int) (h0 : 0 ≤ x) (h1 : x < n) : (marks n l).getD x.toNat false = l.contains x := by
  have : x.toNat < n := by omega
  simp [marks, this, Int.toNat_of_nonneg h0]

theorem coveredBy_fn (n : Nat) (xss : List (List Int)) (cols : List Int) (hn : n ≤ 1000) (hc : ∀ k ∈ cols, 0 ≤ k ∧ k < xss.length) (hx : ∀ xs ∈ xss, ∀ x ∈ xs, 0 ≤ x ∧ x < n) :
    PFn Try.prog f_impl_coveredBy [.agg [I n, ilSS xss], ilS cols] (if (itemsOf xss cols).Nodup then .tup [ilB (marks n (itemsOf xss cols)), Bv true] else .tup [ilB [], Bv false]) := by
  intro H; refine ACalls.introB s_impl_coveredBy (by simp) ?_; intro hB hA; unfold c_impl_coveredBy; simp (config := { maxSteps := 1000000 }) (disch := (first | omega | (simp only [go_sem]; try omega))) only [go_sem, ↓GSplit_t, ↓GSplit_f, ↓GSplit_tf, ↓GSplit_ft, Nat.reduceAdd, Nat.reduceEqDiff, Nat.reduceLeDiff, Nat.reduceMul, Nat.reduceLT, reduceIte, Int.reduceToNat, bne_self_eq_false, beq_self_eq_true, w64_id, cast_succ, Bool.false_eq_true, Bool.and_true, Bool.true_and, Bool.and_false, Bool.false_and, Bool.not_not]
  repeat (first | (with_reducible refine SW.seq ?_) | (with_reducible refine SW.block ?_) | (with_reducible refine SW.rowC ?_) | (with_reducible refine SW.skip ?_) | (with_reducible refine SW.exit ?_) | (with_reducible intro _) | (with_reducible refine And.intro (by omega) ?_) | (simp (config := { maxSteps := 1000000 }) (disch := (first | omega | (simp only [go_sem]; try omega))) only [go_sem, ↓GSplit_t, ↓GSplit_f, ↓GSplit_tf, ↓GSplit_ft, Nat.reduceAdd, Nat.reduceEqDiff, Nat.reduceLeDiff, Nat.reduceMul, Nat.reduceLT, reduceIte, Int.reduceToNat, bne_self_eq_false, beq_self_eq_true, w64_id, cast_succ, Bool.false_eq_true, Bool.and_true, Bool.true_and, Bool.and_false, Bool.false_and, Bool.not_not]))
  rw [marks_nil]
  refine SW.loopE (fun E0 H0 q E' H' => ∃ (pre post : List Int), cols = pre ++ post ∧ q = post.length ∧ E' = aput E0 16 (I pre.length) ∧ H' = H ++ [⟨0, 24, 1, [I n, ilSS xss]⟩, ⟨0, 4, 1, (marks n (itemsOf xss pre)).map Bv⟩] ∧ (itemsOf xss pre).Nodup) cols.length ⟨[], cols, rfl, rfl, rfl, rfl, by simp [itemsOf]⟩ ?_
  rintro q E' H' ⟨pre, post, hp, rfl, rfl, rfl, hnd⟩
  simp (config := { maxSteps := 1000000 }) (disch := (first | omega | (simp only [go_sem]; try omega))) only [go_sem, ↓GSplit_t, ↓GSplit_f, ↓GSplit_tf, ↓GSplit_ft, Nat.reduceAdd, Nat.reduceEqDiff, Nat.reduceLeDiff, Nat.reduceMul, Nat.reduceLT, reduceIte, Int.reduceToNat, bne_self_eq_false, beq_self_eq_true, w64_id, cast_succ, Bool.false_eq_true, Bool.and_true, Bool.true_and, Bool.and_false, Bool.false_and, Bool.not_not]
  repeat (first | (with_reducible refine SW.seq ?_) | (with_reducible refine SW.block ?_) | (with_reducible refine SW.rowC ?_) | (with_reducible refine SW.skip ?_) | (with_reducible refine SW.exit ?_) | (with_reducible intro _) | (with_reducible refine And.intro (by omega) ?_) | (simp (config := { maxSteps := 1000000 }) (disch := (first | omega | (simp only [go_sem]; try omega))) only [go_sem, ↓GSplit_t, ↓GSplit_f, ↓GSplit_tf, ↓GSplit_ft, Nat.reduceAdd, Nat.reduceEqDiff, Nat.reduceLeDiff, Nat.reduceMul, Nat.reduceLT, reduceIte, Int.reduceToNat, bne_self_eq_false, beq_self_eq_true, w64_id, cast_succ, Bool.false_eq_true, Bool.and_true, Bool.true_and, Bool.and_false, Bool.false_and, Bool.not_not]))
  (first | refine SW.condD rfl (fun h => ?_) (fun h => ?_) | refine SW.condN rfl (fun h => ?_) (fun h => ?_) | refine SW.condNB rfl (fun h => ?_) (fun h => ?_) | refine SW.condB rfl (fun h => ?_) (fun h => ?_))
  · cases post with
    | nil => exfalso; simp at hp; subst hp; omega
    | cons k post =>
      have hg : cols.getD pre.length 0 = k := by subst hp; simp
      have hk := hc k (by subst hp; simp)
      repeat (first | (with_reducible refine SW.seq ?_) | (with_reducible refine SW.block ?_) | (with_reducible refine SW.rowC ?_) | (with_reducible refine SW.skip ?_) | (with_reducible refine SW.exit ?_) | (with_reducible intro _) | (with_reducible refine And.intro (by omega) ?_) | (simp (config := { maxSteps := 1000000 }) (disch := (first | omega | (simp only [go_sem]; try omega))) only [go_sem, ↓GSplit_t, ↓GSplit_f, ↓GSplit_tf, ↓GSplit_ft, Nat.reduceAdd, Nat.reduceEqDiff, Nat.reduceLeDiff, Nat.reduceMul, Nat.reduceLT, reduceIte, Int.reduceToNat, bne_self_eq_false, beq_self_eq_true, w64_id, cast_succ, Bool.false_eq_true, Bool.and_true, Bool.true_and, Bool.and_false, Bool.false_and, Bool.not_not, hg]))
      generalize hset : xss.getD k.toNat [] = set at *
      have hset' : ∀ x ∈ set, 0 ≤ x ∧ x < n := by
        intro x hxs
        refine hx set ?_ x hxs
        rw [← hset]; simp [List.getElem?_eq_getElem (show k.toNat < xss.length by omega)]
      refine SW.loopE (fun E0 H0 q E' H' => ∃ (pr po : List Int), set = pr ++ po ∧ q = po.length ∧ E' = aput E0 26 (I pr.length) ∧ H' = H ++ [⟨0, 24, 1, [I n, ilSS xss]⟩, ⟨0, 4, 1, (marks n (itemsOf xss pre ++ pr)).map Bv⟩] ∧ (itemsOf xss pre ++ pr).Nodup) set.length ⟨[], set, rfl, rfl, rfl, by simp, by simpa using hnd⟩ ?_
      rintro q E' H' ⟨pr, po, hpx, rfl, rfl, rfl, hnd2⟩
      simp (config := { maxSteps := 1000000 }) (disch := (first | omega | (simp only [go_sem]; try omega))) only [go_sem, ↓GSplit_t, ↓GSplit_f, ↓GSplit_tf, ↓GSplit_ft, Nat.reduceAdd, Nat.reduceEqDiff, Nat.reduceLeDiff, Nat.reduceMul, Nat.reduceLT, reduceIte, Int.reduceToNat, bne_self_eq_false, beq_self_eq_true, w64_id, cast_succ, Bool.false_eq_true, Bool.and_true, Bool.true_and, Bool.and_false, Bool.false_and, Bool.not_not]
      repeat (first | (with_reducible refine SW.seq ?_) | (with_reducible refine SW.block ?_) | (with_reducible refine SW.rowC ?_) | (with_reducible refine SW.skip ?_) | (with_reducible refine SW.exit ?_) | (with_reducible intro _) | (with_reducible refine And.intro (by omega) ?_) | (simp (config := { maxSteps := 1000000 }) (disch := (first | omega | (simp only [go_sem]; try omega))) only [go_sem, ↓GSplit_t, ↓GSplit_f, ↓GSplit_tf, ↓GSplit_ft, Nat.reduceAdd, Nat.reduceEqDiff, Nat.reduceLeDiff, Nat.reduceMul, Nat.reduceLT, reduceIte, Int.reduceToNat, bne_self_eq_false, beq_self_eq_true, w64_id, cast_succ, Bool.false_eq_true, Bool.and_true, Bool.true_and, Bool.and_false, Bool.false_and, Bool.not_not]))
      (first | refine SW.condD rfl (fun h6 => ?_) (fun h6 => ?_) | refine SW.condN rfl (fun h6 => ?_) (fun h6 => ?_) | refine SW.condNB rfl (fun h6 => ?_) (fun h6 => ?_) | refine SW.condB rfl (fun h6 => ?_) (fun h6 => ?_))
      · cases po with
        | nil => exfalso; simp at hpx; subst hpx; omega
        | cons y po =>
          have hgy : set.getD pr.length 0 = y := by subst hpx; simp
          have hy := hset' y (by subst hpx; simp)
          have htk : ((marks n (itemsOf xss pre ++ pr)).map Bv).take n = (marks n (itemsOf xss pre ++ pr)).map Bv := List.take_of_length_le (by simp [marks_length])
          have hll := marks_length n (itemsOf xss pre ++ pr)
          repeat (first | (with_reducible refine SW.seq ?_) | (with_reducible refine SW.block ?_) | (with_reducible refine SW.rowC ?_) | (with_reducible refine SW.skip ?_) | (with_reducible refine SW.exit ?_) | (with_reducible intro _) | (with_reducible refine And.intro (by omega) ?_) | (simp (config := { maxSteps := 1000000 }) (disch := (first | omega | (simp only [go_sem]; try omega))) only [go_sem, ↓GSplit_t, ↓GSplit_f, ↓GSplit_tf, ↓GSplit_ft, Nat.reduceAdd, Nat.reduceEqDiff, Nat.reduceLeDiff, Nat.reduceMul, Nat.reduceLT, reduceIte, Int.reduceToNat, bne_self_eq_false, beq_self_eq_true, w64_id, cast_succ, Bool.false_eq_true, Bool.and_true, Bool.true_and, Bool.and_false, Bool.false_and, Bool.not_not, hgy, htk, marks_get n _ y hy.1 hy.2]))
          (first | refine SW.condD rfl (fun h7 => ?_) (fun h7 => ?_) | refine SW.condN rfl (fun h7 => ?_) (fun h7 => ?_) | refine SW.condNB rfl (fun h7 => ?_) (fun h7 => ?_) | refine SW.condB rfl (fun h7 => ?_) (fun h7 => ?_))
          · repeat (first | (with_reducible refine SW.seq ?_) | (with_reducible refine SW.block ?_) | (with_reducible refine SW.rowC ?_) | (with_reducible refine SW.skip ?_) | (with_reducible refine SW.exit ?_) | (with_reducible intro _) | (with_reducible refine And.intro (by omega) ?_) | (simp (config := { maxSteps := 1000000 }) (disch := (first | omega | (simp only [go_sem]; try omega))) only [go_sem, ↓GSplit_t, ↓GSplit_f, ↓GSplit_tf, ↓GSplit_ft, Nat.reduceAdd, Nat.reduceEqDiff, Nat.reduceLeDiff, Nat.reduceMul, Nat.reduceLT, reduceIte, Int.reduceToNat, bne_self_eq_false, beq_self_eq_true, w64_id, cast_succ, Bool.false_eq_true, Bool.and_true, Bool.true_and, Bool.and_false, Bool.false_and, Bool.not_not]))
            refine SW.ret ?_; (try simp only [go_sem]); (first | refine FunPost.one ?_ | refine FunPost.two ?_ | refine FunPost.three ?_); (try simp (config := { maxSteps := 1000000 }) (disch := (first | omega | (simp only [go_sem]; try omega))) only [go_sem, ↓GSplit_t, ↓GSplit_f, ↓GSplit_tf, ↓GSplit_ft, Nat.reduceAdd, Nat.reduceEqDiff, Nat.reduceLeDiff, Nat.reduceMul, Nat.reduceLT, reduceIte, Int.reduceToNat, bne_self_eq_false, beq_self_eq_true, w64_id, cast_succ, Bool.false_eq_true, Bool.and_true, Bool.true_and, Bool.and_false, Bool.false_and, Bool.not_not])
            refine GR.froz (r' := .tup [ilB [], Bv false]) (froz_tup2 .nil (froz_B' _)) ⟨?_, rfl⟩
            rw [if_neg]
            rw [hp, itemsOf_mid, hset, hpx]
            intro hnd3
            have h8 := (List.nodup_append.1 hnd3).1
            rw [← List.append_assoc] at h8
            exact (List.nodup_append.1 h8).2.2 y (by simpa using h7) y (by simp) rfl
          · repeat (first | (with_reducible refine SW.seq ?_) | (with_reducible refine SW.block ?_) | (with_reducible refine SW.rowC ?_) | (with_reducible refine SW.skip ?_) | (with_reducible refine SW.exit ?_) | (with_reducible intro _) | (with_reducible refine And.intro (by omega) ?_) | (simp (config := { maxSteps := 1000000 }) (disch := (first | omega | (simp only [go_sem]; try omega))) only [go_sem, ↓GSplit_t, ↓GSplit_f, ↓GSplit_tf, ↓GSplit_ft, Nat.reduceAdd, Nat.reduceEqDiff, Nat.reduceLeDiff, Nat.reduceMul, Nat.reduceLT, reduceIte, Int.reduceToNat, bne_self_eq_false, beq_self_eq_true, w64_id, cast_succ, Bool.false_eq_true, Bool.and_true, Bool.true_and, Bool.and_false, Bool.false_and, Bool.not_not, htk]))
            refine SLoop.next po.length (by simp) ⟨pr ++ [y], po, by simp [hpx], rfl, ?_, ?_, ?_⟩
            · simp [go_sem]
            · rw [marks_set n _ y hy.1, List.append_assoc]
            · rw [← List.append_assoc, List.nodup_append]
              refine ⟨hnd2, by simp, ?_⟩
              rintro a ha b hb rfl
              simp at hb; subst hb
              simp at h7 ha
              rcases ha with ha | ha
              · exact h7.1 ha
              · exact h7.2 ha
      · have : po = [] := by cases po with
          | nil => rfl
          | cons y po => exfalso; subst hpx; simp at h6; omega
        subst this
        rw [List.append_nil] at hpx
        subst hpx
        repeat (first | (with_reducible refine SW.seq ?_) | (with_reducible refine SW.block ?_) | (with_reducible refine SW.rowC ?_) | (with_reducible refine SW.skip ?_) | (with_reducible refine SW.exit ?_) | (with_reducible intro _) | (with_reducible refine And.intro (by omega) ?_) | (simp (config := { maxSteps := 1000000 }) (disch := (first | omega | (simp only [go_sem]; try omega))) only [go_sem, ↓GSplit_t, ↓GSplit_f, ↓GSplit_tf, ↓GSplit_ft, Nat.reduceAdd, Nat.reduceEqDiff, Nat.reduceLeDiff, Nat.reduceMul, Nat.reduceLT, reduceIte, Int.reduceToNat, bne_self_eq_false, beq_self_eq_true, w64_id, cast_succ, Bool.false_eq_true, Bool.and_true, Bool.true_and, Bool.and_false, Bool.false_and, Bool.not_not]))
        refine SLoop.next post.length (by simp) ⟨pre ++ [k], post, by simp [hp], rfl, ?_, ?_, ?_⟩
        · simp [go_sem]
        · rw [itemsOf_snoc, hset]
        · rw [itemsOf_snoc, hset]; exact hnd2
  · have : post = [] := by cases post with
      | nil => rfl
      | cons x post => exfalso; subst hp; simp at h; omega
    subst this
    rw [List.append_nil] at hp
    subst hp
    repeat (first | (with_reducible refine SW.seq ?_) | (with_reducible refine SW.block ?_) | (with_reducible refine SW.rowC ?_) | (with_reducible refine SW.skip ?_) | (with_reducible refine SW.exit ?_) | (with_reducible intro _) | (with_reducible refine And.intro (by omega) ?_) | (simp (config := { maxSteps := 1000000 }) (disch := (first | omega | (simp only [go_sem]; try omega))) only [go_sem, ↓GSplit_t, ↓GSplit_f, ↓GSplit_tf, ↓GSplit_ft, Nat.reduceAdd, Nat.reduceEqDiff, Nat.reduceLeDiff, Nat.reduceMul, Nat.reduceLT, reduceIte, Int.reduceToNat, bne_self_eq_false, beq_self_eq_true, w64_id, cast_succ, Bool.false_eq_true, Bool.and_true, Bool.true_and, Bool.and_false, Bool.false_and, Bool.not_not]))
    refine SW.ret ?_; (try simp only [go_sem]); (first | refine FunPost.one ?_ | refine FunPost.two ?_ | refine FunPost.three ?_); (try simp (config := { maxSteps := 1000000 }) (disch := (first | omega | (simp only [go_sem]; try omega))) only [go_sem, ↓GSplit_t, ↓GSplit_f, ↓GSplit_tf, ↓GSplit_ft, Nat.reduceAdd, Nat.reduceEqDiff, Nat.reduceLeDiff, Nat.reduceMul, Nat.reduceLT, reduceIte, Int.reduceToNat, bne_self_eq_false, beq_self_eq_true, w64_id, cast_succ, Bool.false_eq_true, Bool.and_true, Bool.true_and, Bool.and_false, Bool.false_and, Bool.not_not])
    have hll := marks_length n (itemsOf xss cols)
    have hf := froz_rowB (H := H ++ [⟨0, 24, 1, [I n, ilSS xss]⟩, ⟨0, 4, 1, (marks n (itemsOf xss cols)).map Bv⟩]) (b := H.length) (r := H.length + 1) (ver := 0) (ty := 4) (xs := marks n (itemsOf xss cols)) (by omega) (by simp)
    rw [hll] at hf
    refine GR.froz (froz_tup2 hf (froz_B' _)) ⟨?_, rfl⟩
    rw [if_pos hnd]

theorem asc_len : ∀ {xs : List Int} {lo hi : Int}, asc lo hi xs = true → xs = [] ∨ lo + xs.length ≤ hi + 1
  | [], _, _, _ => .inl rfl
  | y :: r, lo, hi, h => by
    simp only [asc, Bool.and_eq_true, decide_eq_true_eq] at h
    rcases asc_len h.2 with rfl | h2
    · right; simp; omega
    · right; simp; omega

def coverB (n : Int) (xss : List (List Int)) (cols : List Int) : Bool :=
  coverOk n xss && asc 0 (xss.length - 1) cols && decide (itemsOf xss cols).Nodup && !(marks n.toNat (itemsOf xss cols)).contains false

theorem coverOk_facts {n : Int} {xss : List (List Int)} (h : coverOk n xss = true) : 1 ≤ n ∧ n ≤ 64 ∧ xss.length ≤ 256 ∧ ∀ xs ∈ xss, (∀ x ∈ xs, 0 ≤ x ∧ x < n) ∧ xs.length ≤ 64 := by
  simp only [coverOk, Bool.and_eq_true, decide_eq_true_eq, List.all_eq_true] at h
  refine ⟨h.1.1.1, h.1.1.2, h.1.2, fun xs hx => ⟨fun x hxs => ?_, ?_⟩⟩
  · have := asc_mem (h.2 xs hx).2 x hxs; omega
  · rcases asc_len (h.2 xs hx).2 with h2 | h2
    · subst h2; simp
    · omega

theorem implIsCover_fn (n : Int) (xss : List (List Int)) (cols : List Int) (hx : ∀ xs ∈ xss, ∀ x ∈ xs, (Lit.int .i64 x).wf = true) (hx2 : ∀ x ∈ cols, (Lit.int .i64 x).wf = true) (hl : xss.length ≤ 1073741824) : PFn Try.prog f_impl_IsCover [.agg [I n, ilSS xss], ilS cols] (Bv (coverB n xss cols)) := by
  intro H; refine ACalls.introB s_impl_IsCover (by simp) ?_; intro hB hA; unfold c_impl_IsCover; simp (config := { maxSteps := 1000000 }) (disch := (first | omega | (simp only [go_sem]; try omega))) only [go_sem, ↓GSplit_t, ↓GSplit_f, ↓GSplit_tf, ↓GSplit_ft, Nat.reduceAdd, Nat.reduceEqDiff, Nat.reduceLeDiff, Nat.reduceMul, Nat.reduceLT, reduceIte, Int.reduceToNat, bne_self_eq_false, beq_self_eq_true, w64_id, cast_succ, Bool.false_eq_true, Bool.and_true, Bool.true_and, Bool.and_false, Bool.false_and, Bool.not_not]
  repeat (first | (with_reducible refine SW.seq ?_) | (with_reducible refine SW.block ?_) | (with_reducible refine SW.rowC ?_) | (with_reducible refine SW.skip ?_) | (with_reducible refine SW.exit ?_) | (with_reducible refine PFn.use (implValidCover_fn n xss hx) ?_) | (with_reducible refine PFn.useq (implValidCover_fn n xss hx) ?_) | (with_reducible intro _) | (with_reducible refine And.intro (by omega) ?_) | (simp (config := { maxSteps := 1000000 }) (disch := (first | omega | (simp only [go_sem]; try omega))) only [go_sem, ↓GSplit_t, ↓GSplit_f, ↓GSplit_tf, ↓GSplit_ft, Nat.reduceAdd, Nat.reduceEqDiff, Nat.reduceLeDiff, Nat.reduceMul, Nat.reduceLT, reduceIte, Int.reduceToNat, bne_self_eq_false, beq_self_eq_true, w64_id, cast_succ, Bool.false_eq_true, Bool.and_true, Bool.true_and, Bool.and_false, Bool.false_and, Bool.not_not]))
  (first | refine GSplit.df (fun h => ?_) (fun h => ?_) | refine GSplit.dt (fun h => ?_) (fun h => ?_) | refine GSplit.ndf (fun h => ?_) (fun h => ?_) | refine GSplit.ndt (fun h => ?_) (fun h => ?_) | refine GSplit.nbf (fun h => ?_) (fun h => ?_) | refine GSplit.nbt (fun h => ?_) (fun h => ?_) | refine GSplit.bf (fun h => ?_) (fun h => ?_) | refine GSplit.bt (fun h => ?_) (fun h => ?_))
  · have hf := coverOk_facts h
    obtain ⟨m, rfl⟩ := Int.eq_ofNat_of_zero_le (show 0 ≤ n by omega)
    repeat (first | (with_reducible refine SW.seq ?_) | (with_reducible refine SW.block ?_) | (with_reducible refine SW.rowC ?_) | (with_reducible refine SW.skip ?_) | (with_reducible refine SW.exit ?_) | (with_reducible refine PFn.use (sizeS_fn _) ?_) | (with_reducible refine PFn.useq (sizeS_fn _) ?_) | (with_reducible refine PFn.use (areIndices_fn cols xss.length hx2 (by omega) (by omega)) ?_) | (with_reducible refine PFn.useq (areIndices_fn cols xss.length hx2 (by omega) (by omega)) ?_) | (with_reducible intro _) | (with_reducible refine And.intro (by omega) ?_) | (simp (config := { maxSteps := 1000000 }) (disch := (first | omega | (simp only [go_sem]; try omega))) only [go_sem, ↓GSplit_t, ↓GSplit_f, ↓GSplit_tf, ↓GSplit_ft, Nat.reduceAdd, Nat.reduceEqDiff, Nat.reduceLeDiff, Nat.reduceMul, Nat.reduceLT, reduceIte, Int.reduceToNat, bne_self_eq_false, beq_self_eq_true, w64_id, cast_succ, Bool.false_eq_true, Bool.and_true, Bool.true_and, Bool.and_false, Bool.false_and, Bool.not_not]))
    (first | refine SW.condD rfl (fun h2 => ?_) (fun h2 => ?_) | refine SW.condN rfl (fun h2 => ?_) (fun h2 => ?_) | refine SW.condNB rfl (fun h2 => ?_) (fun h2 => ?_) | refine SW.condB rfl (fun h2 => ?_) (fun h2 => ?_))
    · repeat (first | (with_reducible refine SW.seq ?_) | (with_reducible refine SW.block ?_) | (with_reducible refine SW.rowC ?_) | (with_reducible refine SW.skip ?_) | (with_reducible refine SW.exit ?_) | (with_reducible intro _) | (with_reducible refine And.intro (by omega) ?_) | (simp (config := { maxSteps := 1000000 }) (disch := (first | omega | (simp only [go_sem]; try omega))) only [go_sem, ↓GSplit_t, ↓GSplit_f, ↓GSplit_tf, ↓GSplit_ft, Nat.reduceAdd, Nat.reduceEqDiff, Nat.reduceLeDiff, Nat.reduceMul, Nat.reduceLT, reduceIte, Int.reduceToNat, bne_self_eq_false, beq_self_eq_true, w64_id, cast_succ, Bool.false_eq_true, Bool.and_true, Bool.true_and, Bool.and_false, Bool.false_and, Bool.not_not]))
      refine SW.ret ?_; (try simp only [go_sem]); (first | refine FunPost.one ?_ | refine FunPost.two ?_ | refine FunPost.three ?_); (try simp (config := { maxSteps := 1000000 }) (disch := (first | omega | (simp only [go_sem]; try omega))) only [go_sem, ↓GSplit_t, ↓GSplit_f, ↓GSplit_tf, ↓GSplit_ft, Nat.reduceAdd, Nat.reduceEqDiff, Nat.reduceLeDiff, Nat.reduceMul, Nat.reduceLT, reduceIte, Int.reduceToNat, bne_self_eq_false, beq_self_eq_true, w64_id, cast_succ, Bool.false_eq_true, Bool.and_true, Bool.true_and, Bool.and_false, Bool.false_and, Bool.not_not]); (first | (with_reducible refine GR.drop ?_ ?_; (simp only [and_self, and_true, true_and, implies_true, Bel_lit, Bel_I, Bel_Bv, Bel_nil, Bel_junk, Bel_nm, Bel_pc, Bel_il, Bel_agg, Bel_tup, Bel_fn, Bel_el, all_mapI, all_mapB, all_mapS, all_nilB, all_consB, EB_nil, EB_cons, BB_nil, BB_cons, Bel_ilS, Bel_ilSS, Bel_ilB, List.getElem?_cons_zero, List.take_succ_cons, List.take_zero, keep_nil, keep_cons])) | refine GR.of ?_); refine ⟨?_, rfl⟩; (try with_reducible rfl)
      rw [coverB, h, h2]; rfl
    · have ha := asc_mem h2
      have hcb := coveredBy_fn m xss cols (by omega) (fun k hk => by have := ha k hk; omega) (fun xs hxs => (hf.2.2.2 xs hxs).1)
      by_cases hnd : (itemsOf xss cols).Nodup
      · rw [if_pos hnd] at hcb
        repeat (first | (with_reducible refine SW.seq ?_) | (with_reducible refine SW.block ?_) | (with_reducible refine SW.rowC ?_) | (with_reducible refine SW.skip ?_) | (with_reducible refine SW.exit ?_) | (with_reducible refine PFn.use (hcb) ?_) | (with_reducible refine PFn.useq (hcb) ?_) | (with_reducible refine PFn.use (ContainsB_fn _ _) ?_) | (with_reducible refine PFn.useq (ContainsB_fn _ _) ?_) | (with_reducible intro _) | (with_reducible refine And.intro (by omega) ?_) | (simp (config := { maxSteps := 1000000 }) (disch := (first | omega | (simp only [go_sem]; try omega))) only [go_sem, ↓GSplit_t, ↓GSplit_f, ↓GSplit_tf, ↓GSplit_ft, Nat.reduceAdd, Nat.reduceEqDiff, Nat.reduceLeDiff, Nat.reduceMul, Nat.reduceLT, reduceIte, Int.reduceToNat, bne_self_eq_false, beq_self_eq_true, w64_id, cast_succ, Bool.false_eq_true, Bool.and_true, Bool.true_and, Bool.and_false, Bool.false_and, Bool.not_not]))
        refine SW.ret ?_; (try simp only [go_sem]); (first | refine FunPost.one ?_ | refine FunPost.two ?_ | refine FunPost.three ?_); (try simp (config := { maxSteps := 1000000 }) (disch := (first | omega | (simp only [go_sem]; try omega))) only [go_sem, ↓GSplit_t, ↓GSplit_f, ↓GSplit_tf, ↓GSplit_ft, Nat.reduceAdd, Nat.reduceEqDiff, Nat.reduceLeDiff, Nat.reduceMul, Nat.reduceLT, reduceIte, Int.reduceToNat, bne_self_eq_false, beq_self_eq_true, w64_id, cast_succ, Bool.false_eq_true, Bool.and_true, Bool.true_and, Bool.and_false, Bool.false_and, Bool.not_not]); (first | (with_reducible refine GR.drop ?_ ?_; (simp only [and_self, and_true, true_and, implies_true, Bel_lit, Bel_I, Bel_Bv, Bel_nil, Bel_junk, Bel_nm, Bel_pc, Bel_il, Bel_agg, Bel_tup, Bel_fn, Bel_el, all_mapI, all_mapB, all_mapS, all_nilB, all_consB, EB_nil, EB_cons, BB_nil, BB_cons, Bel_ilS, Bel_ilSS, Bel_ilB, List.getElem?_cons_zero, List.take_succ_cons, List.take_zero, keep_nil, keep_cons])) | refine GR.of ?_); refine ⟨?_, rfl⟩; (try with_reducible rfl)
        rw [coverB, h, h2]; simp [hnd]
      · rw [if_neg hnd] at hcb
        repeat (first | (with_reducible refine SW.seq ?_) | (with_reducible refine SW.block ?_) | (with_reducible refine SW.rowC ?_) | (with_reducible refine SW.skip ?_) | (with_reducible refine SW.exit ?_) | (with_reducible refine PFn.use (hcb) ?_) | (with_reducible refine PFn.useq (hcb) ?_) | (with_reducible intro _) | (with_reducible refine And.intro (by omega) ?_) | (simp (config := { maxSteps := 1000000 }) (disch := (first | omega | (simp only [go_sem]; try omega))) only [go_sem, ↓GSplit_t, ↓GSplit_f, ↓GSplit_tf, ↓GSplit_ft, Nat.reduceAdd, Nat.reduceEqDiff, Nat.reduceLeDiff, Nat.reduceMul, Nat.reduceLT, reduceIte, Int.reduceToNat, bne_self_eq_false, beq_self_eq_true, w64_id, cast_succ, Bool.false_eq_true, Bool.and_true, Bool.true_and, Bool.and_false, Bool.false_and, Bool.not_not]))
        refine SW.ret ?_; (try simp only [go_sem]); (first | refine FunPost.one ?_ | refine FunPost.two ?_ | refine FunPost.three ?_); (try simp (config := { maxSteps := 1000000 }) (disch := (first | omega | (simp only [go_sem]; try omega))) only [go_sem, ↓GSplit_t, ↓GSplit_f, ↓GSplit_tf, ↓GSplit_ft, Nat.reduceAdd, Nat.reduceEqDiff, Nat.reduceLeDiff, Nat.reduceMul, Nat.reduceLT, reduceIte, Int.reduceToNat, bne_self_eq_false, beq_self_eq_true, w64_id, cast_succ, Bool.false_eq_true, Bool.and_true, Bool.true_and, Bool.and_false, Bool.false_and, Bool.not_not]); (first | (with_reducible refine GR.drop ?_ ?_; (simp only [and_self, and_true, true_and, implies_true, Bel_lit, Bel_I, Bel_Bv, Bel_nil, Bel_junk, Bel_nm, Bel_pc, Bel_il, Bel_agg, Bel_tup, Bel_fn, Bel_el, all_mapI, all_mapB, all_mapS, all_nilB, all_consB, EB_nil, EB_cons, BB_nil, BB_cons, Bel_ilS, Bel_ilSS, Bel_ilB, List.getElem?_cons_zero, List.take_succ_cons, List.take_zero, keep_nil, keep_cons])) | refine GR.of ?_); refine ⟨?_, rfl⟩; (try with_reducible rfl)
        rw [coverB, h, h2]; simp [hnd]
  · repeat (first | (with_reducible refine SW.seq ?_) | (with_reducible refine SW.block ?_) | (with_reducible refine SW.rowC ?_) | (with_reducible refine SW.skip ?_) | (with_reducible refine SW.exit ?_) | (with_reducible intro _) | (with_reducible refine And.intro (by omega) ?_) | (simp (config := { maxSteps := 1000000 }) (disch := (first | omega | (simp only [go_sem]; try omega))) only [go_sem, ↓GSplit_t, ↓GSplit_f, ↓GSplit_tf, ↓GSplit_ft, Nat.reduceAdd, Nat.reduceEqDiff, Nat.reduceLeDiff, Nat.reduceMul, Nat.reduceLT, reduceIte, Int.reduceToNat, bne_self_eq_false, beq_self_eq_true, w64_id, cast_succ, Bool.false_eq_true, Bool.and_true, Bool.true_and, Bool.and_false, Bool.false_and, Bool.not_not]))
    (first | refine SW.condD rfl (fun h2 => ?_) (fun h2 => ?_) | refine SW.condN rfl (fun h2 => ?_) (fun h2 => ?_) | refine SW.condNB rfl (fun h2 => ?_) (fun h2 => ?_) | refine SW.condB rfl (fun h2 => ?_) (fun h2 => ?_))
    · repeat (first | (with_reducible refine SW.seq ?_) | (with_reducible refine SW.block ?_) | (with_reducible refine SW.rowC ?_) | (with_reducible refine SW.skip ?_) | (with_reducible refine SW.exit ?_) | (with_reducible intro _) | (with_reducible refine And.intro (by omega) ?_) | (simp (config := { maxSteps := 1000000 }) (disch := (first | omega | (simp only [go_sem]; try omega))) only [go_sem, ↓GSplit_t, ↓GSplit_f, ↓GSplit_tf, ↓GSplit_ft, Nat.reduceAdd, Nat.reduceEqDiff, Nat.reduceLeDiff, Nat.reduceMul, Nat.reduceLT, reduceIte, Int.reduceToNat, bne_self_eq_false, beq_self_eq_true, w64_id, cast_succ, Bool.false_eq_true, Bool.and_true, Bool.true_and, Bool.and_false, Bool.false_and, Bool.not_not]))
      refine SW.ret ?_; (try simp only [go_sem]); (first | refine FunPost.one ?_ | refine FunPost.two ?_ | refine FunPost.three ?_); (try simp (config := { maxSteps := 1000000 }) (disch := (first | omega | (simp only [go_sem]; try omega))) only [go_sem, ↓GSplit_t, ↓GSplit_f, ↓GSplit_tf, ↓GSplit_ft, Nat.reduceAdd, Nat.reduceEqDiff, Nat.reduceLeDiff, Nat.reduceMul, Nat.reduceLT, reduceIte, Int.reduceToNat, bne_self_eq_false, beq_self_eq_true, w64_id, cast_succ, Bool.false_eq_true, Bool.and_true, Bool.true_and, Bool.and_false, Bool.false_and, Bool.not_not]); (first | (with_reducible refine GR.drop ?_ ?_; (simp only [and_self, and_true, true_and, implies_true, Bel_lit, Bel_I, Bel_Bv, Bel_nil, Bel_junk, Bel_nm, Bel_pc, Bel_il, Bel_agg, Bel_tup, Bel_fn, Bel_el, all_mapI, all_mapB, all_mapS, all_nilB, all_consB, EB_nil, EB_cons, BB_nil, BB_cons, Bel_ilS, Bel_ilSS, Bel_ilB, List.getElem?_cons_zero, List.take_succ_cons, List.take_zero, keep_nil, keep_cons])) | refine GR.of ?_); refine ⟨?_, rfl⟩; (try with_reducible rfl)
      rw [coverB, h]; rfl
    · cases h2

/-- How often each of n items stands in a list. -/
def counts (n : Nat) (l : List Int) : List Int := (List.range n).map fun (i : Nat) => (l.count (i : Int) : Int)
theorem counts_nil (n : Nat) : List.replicate n (0 : Int) = counts n [] := by
  unfold counts; apply List.ext_getElem <;> simp
theorem counts_length (n : Nat) (l : List Int) : (counts n l).length = n := by simp [counts]
theorem counts_get (n : Nat) (l : List Int) (x : Int) (h0 : 0 ≤ x) (h1 : x < n) : (counts n l).getD x.toNat 0 = l.count x := by
  have : x.toNat < n := by omega
  simp [counts, this, Int.toNat_of_nonneg h0]
theorem counts_set (n : Nat) (l : List Int) (x : Int) (h0 : 0 ≤ x) : (counts n l).set x.toNat ((l.count x + 1 : Nat) : Int) = counts n (l ++ [x]) := by
  unfold counts
  apply List.ext_getElem
  · simp
  · intro i h1 h2
    simp only [List.getElem_set, List.getElem_map, List.getElem_range]
    split
    · rename_i h; subst h; simp [Int.toNat_of_nonneg h0, List.count_append]
    · rename_i h
      have : ¬ x = (i : Int) := by intro he; apply h; rw [he]; simp
      simp [List.count_append, List.count_singleton, this]
theorem counts_all {n : Nat} {l : List Int} (hl : ∀ x ∈ l, 0 ≤ x ∧ x < n) : (counts n l).all (fun c => decide (c = 1)) = (decide l.Nodup && !(marks n l).contains false) := by
  have e1 : (counts n l).all (fun c => decide (c = 1)) = true ↔ ∀ i : Nat, i < n → l.count (i : Int) = 1 := by
    simp only [List.all_eq_true, decide_eq_true_eq, counts, List.mem_map, List.mem_range, forall_exists_index, and_imp, forall_apply_eq_imp_iff₂]
    exact ⟨fun h i hi => by have := h i hi; omega, fun h i hi => by have := h i hi; omega⟩
  have e2 : (marks n l).contains false = false ↔ ∀ i : Nat, i < n → (i : Int) ∈ l := by
    rw [Bool.eq_false_iff]
    constructor
    · intro h i hi
      refine Decidable.byContradiction fun hc => h ?_
      rw [List.contains_iff_mem]
      exact List.mem_map.2 ⟨i, by simpa using hi, by simpa using hc⟩
    · intro h hc
      rw [List.contains_iff_mem] at hc
      obtain ⟨i, hi, h2⟩ := List.mem_map.1 hc
      simp at hi h2
      exact h2 (h i hi)
  rw [Bool.eq_iff_iff, e1, Bool.and_eq_true, decide_eq_true_eq, Bool.not_eq_true', e2]
  constructor
  · intro h
    refine ⟨List.nodup_iff_count.2 fun a => ?_, fun i hi => ?_⟩
    · by_cases ha : a ∈ l
      · have h1 := hl a ha
        have := h a.toNat (by omega)
        rw [Int.toNat_of_nonneg h1.1] at this
        omega
      · rw [List.count_eq_zero.2 ha]; omega
    · have := h i hi
      have h4 : 0 < l.count (i : Int) := by omega
      exact List.count_pos_iff.1 h4
  · rintro ⟨h1, h2⟩ i hi
    have := List.nodup_iff_count.1 h1 (i : Int)
    have := List.count_pos_iff.2 (h2 i hi)
    omega

theorem specIsCover_fn (n : Int) (xss : List (List Int)) (cols : List Int) (hx : ∀ xs ∈ xss, ∀ x ∈ xs, (Lit.int .i64 x).wf = true) (hx2 : ∀ x ∈ cols, (Lit.int .i64 x).wf = true) : PFn Try.prog f_spec_IsCover [.agg [I n, ilSS xss], ilS cols] (Bv (coverB n xss cols)) := by
  intro H; refine ACalls.introB s_spec_IsCover (by simp) ?_; intro hB hA; unfold c_spec_IsCover; simp (config := { maxSteps := 1000000 }) (disch := (first | omega | (simp only [go_sem]; try omega))) only [go_sem, ↓GSplit_t, ↓GSplit_f, ↓GSplit_tf, ↓GSplit_ft, Nat.reduceAdd, Nat.reduceEqDiff, Nat.reduceLeDiff, Nat.reduceMul, Nat.reduceLT, reduceIte, Int.reduceToNat, bne_self_eq_false, beq_self_eq_true, w64_id, cast_succ, Bool.false_eq_true, Bool.and_true, Bool.true_and, Bool.and_false, Bool.false_and, Bool.not_not]
  repeat (first | (with_reducible refine SW.seq ?_) | (with_reducible refine SW.block ?_) | (with_reducible refine SW.rowC ?_) | (with_reducible refine SW.skip ?_) | (with_reducible refine SW.exit ?_) | (with_reducible intro _) | (with_reducible refine And.intro (by omega) ?_) | (simp (config := { maxSteps := 1000000 }) (disch := (first | omega | (simp only [go_sem]; try omega))) only [go_sem, ↓GSplit_t, ↓GSplit_f, ↓GSplit_tf, ↓GSplit_ft, Nat.reduceAdd, Nat.reduceEqDiff, Nat.reduceLeDiff, Nat.reduceMul, Nat.reduceLT, reduceIte, Int.reduceToNat, bne_self_eq_false, beq_self_eq_true, w64_id, cast_succ, Bool.false_eq_true, Bool.and_true, Bool.true_and, Bool.and_false, Bool.false_and, Bool.not_not]))
  refine ACalls.fn (l24Ok_ok _ H.length 0 n xss hx (by simp)) ?_
  repeat (first | (with_reducible refine SW.seq ?_) | (with_reducible refine SW.block ?_) | (with_reducible refine SW.rowC ?_) | (with_reducible refine SW.skip ?_) | (with_reducible refine SW.exit ?_) | (with_reducible intro _) | (with_reducible refine And.intro (by omega) ?_) | (simp (config := { maxSteps := 1000000 }) (disch := (first | omega | (simp only [go_sem]; try omega))) only [go_sem, ↓GSplit_t, ↓GSplit_f, ↓GSplit_tf, ↓GSplit_ft, Nat.reduceAdd, Nat.reduceEqDiff, Nat.reduceLeDiff, Nat.reduceMul, Nat.reduceLT, reduceIte, Int.reduceToNat, bne_self_eq_false, beq_self_eq_true, w64_id, cast_succ, Bool.false_eq_true, Bool.and_true, Bool.true_and, Bool.and_false, Bool.false_and, Bool.not_not]))
  (first | refine GSplit.df (fun h => ?_) (fun h => ?_) | refine GSplit.dt (fun h => ?_) (fun h => ?_) | refine GSplit.ndf (fun h => ?_) (fun h => ?_) | refine GSplit.ndt (fun h => ?_) (fun h => ?_) | refine GSplit.nbf (fun h => ?_) (fun h => ?_) | refine GSplit.nbt (fun h => ?_) (fun h => ?_) | refine GSplit.bf (fun h => ?_) (fun h => ?_) | refine GSplit.bt (fun h => ?_) (fun h => ?_))
  rotate_left
  · repeat (first | (with_reducible refine SW.seq ?_) | (with_reducible refine SW.block ?_) | (with_reducible refine SW.rowC ?_) | (with_reducible refine SW.skip ?_) | (with_reducible refine SW.exit ?_) | (with_reducible intro _) | (with_reducible refine And.intro (by omega) ?_) | (simp (config := { maxSteps := 1000000 }) (disch := (first | omega | (simp only [go_sem]; try omega))) only [go_sem, ↓GSplit_t, ↓GSplit_f, ↓GSplit_tf, ↓GSplit_ft, Nat.reduceAdd, Nat.reduceEqDiff, Nat.reduceLeDiff, Nat.reduceMul, Nat.reduceLT, reduceIte, Int.reduceToNat, bne_self_eq_false, beq_self_eq_true, w64_id, cast_succ, Bool.false_eq_true, Bool.and_true, Bool.true_and, Bool.and_false, Bool.false_and, Bool.not_not]))
    (first | refine SW.condD rfl (fun h2 => ?_) (fun h2 => ?_) | refine SW.condN rfl (fun h2 => ?_) (fun h2 => ?_) | refine SW.condNB rfl (fun h2 => ?_) (fun h2 => ?_) | refine SW.condB rfl (fun h2 => ?_) (fun h2 => ?_))
    · repeat (first | (with_reducible refine SW.seq ?_) | (with_reducible refine SW.block ?_) | (with_reducible refine SW.rowC ?_) | (with_reducible refine SW.skip ?_) | (with_reducible refine SW.exit ?_) | (with_reducible intro _) | (with_reducible refine And.intro (by omega) ?_) | (simp (config := { maxSteps := 1000000 }) (disch := (first | omega | (simp only [go_sem]; try omega))) only [go_sem, ↓GSplit_t, ↓GSplit_f, ↓GSplit_tf, ↓GSplit_ft, Nat.reduceAdd, Nat.reduceEqDiff, Nat.reduceLeDiff, Nat.reduceMul, Nat.reduceLT, reduceIte, Int.reduceToNat, bne_self_eq_false, beq_self_eq_true, w64_id, cast_succ, Bool.false_eq_true, Bool.and_true, Bool.true_and, Bool.and_false, Bool.false_and, Bool.not_not]))
      refine SW.ret ?_; (try simp only [go_sem]); (first | refine FunPost.one ?_ | refine FunPost.two ?_ | refine FunPost.three ?_); (try simp (config := { maxSteps := 1000000 }) (disch := (first | omega | (simp only [go_sem]; try omega))) only [go_sem, ↓GSplit_t, ↓GSplit_f, ↓GSplit_tf, ↓GSplit_ft, Nat.reduceAdd, Nat.reduceEqDiff, Nat.reduceLeDiff, Nat.reduceMul, Nat.reduceLT, reduceIte, Int.reduceToNat, bne_self_eq_false, beq_self_eq_true, w64_id, cast_succ, Bool.false_eq_true, Bool.and_true, Bool.true_and, Bool.and_false, Bool.false_and, Bool.not_not]); (first | (with_reducible refine GR.drop ?_ ?_; (simp only [and_self, and_true, true_and, implies_true, Bel_lit, Bel_I, Bel_Bv, Bel_nil, Bel_junk, Bel_nm, Bel_pc, Bel_il, Bel_agg, Bel_tup, Bel_fn, Bel_el, all_mapI, all_mapB, all_mapS, all_nilB, all_consB, EB_nil, EB_cons, BB_nil, BB_cons, Bel_ilS, Bel_ilSS, Bel_ilB, List.getElem?_cons_zero, List.take_succ_cons, List.take_zero, keep_nil, keep_cons])) | refine GR.of ?_); refine ⟨?_, rfl⟩; (try with_reducible rfl)
      rw [coverB, h]; rfl
    · cases h2
  have hf := coverOk_facts h
  obtain ⟨m, rfl⟩ := Int.eq_ofNat_of_zero_le (show 0 ≤ n by omega)
  repeat (first | (with_reducible refine SW.seq ?_) | (with_reducible refine SW.block ?_) | (with_reducible refine SW.rowC ?_) | (with_reducible refine SW.skip ?_) | (with_reducible refine SW.exit ?_) | (with_reducible refine PFn.use (l00Rises_fn cols 0 _ hx2) ?_) | (with_reducible refine PFn.useq (l00Rises_fn cols 0 _ hx2) ?_) | (with_reducible intro _) | (with_reducible refine And.intro (by omega) ?_) | (simp (config := { maxSteps := 1000000 }) (disch := (first | omega | (simp only [go_sem]; try omega))) only [go_sem, ↓GSplit_t, ↓GSplit_f, ↓GSplit_tf, ↓GSplit_ft, Nat.reduceAdd, Nat.reduceEqDiff, Nat.reduceLeDiff, Nat.reduceMul, Nat.reduceLT, reduceIte, Int.reduceToNat, bne_self_eq_false, beq_self_eq_true, w64_id, cast_succ, Bool.false_eq_true, Bool.and_true, Bool.true_and, Bool.and_false, Bool.false_and, Bool.not_not]))
  (first | refine SW.condD rfl (fun h2 => ?_) (fun h2 => ?_) | refine SW.condN rfl (fun h2 => ?_) (fun h2 => ?_) | refine SW.condNB rfl (fun h2 => ?_) (fun h2 => ?_) | refine SW.condB rfl (fun h2 => ?_) (fun h2 => ?_))
  · repeat (first | (with_reducible refine SW.seq ?_) | (with_reducible refine SW.block ?_) | (with_reducible refine SW.rowC ?_) | (with_reducible refine SW.skip ?_) | (with_reducible refine SW.exit ?_) | (with_reducible intro _) | (with_reducible refine And.intro (by omega) ?_) | (simp (config := { maxSteps := 1000000 }) (disch := (first | omega | (simp only [go_sem]; try omega))) only [go_sem, ↓GSplit_t, ↓GSplit_f, ↓GSplit_tf, ↓GSplit_ft, Nat.reduceAdd, Nat.reduceEqDiff, Nat.reduceLeDiff, Nat.reduceMul, Nat.reduceLT, reduceIte, Int.reduceToNat, bne_self_eq_false, beq_self_eq_true, w64_id, cast_succ, Bool.false_eq_true, Bool.and_true, Bool.true_and, Bool.and_false, Bool.false_and, Bool.not_not]))
    refine SW.ret ?_; (try simp only [go_sem]); (first | refine FunPost.one ?_ | refine FunPost.two ?_ | refine FunPost.three ?_); (try simp (config := { maxSteps := 1000000 }) (disch := (first | omega | (simp only [go_sem]; try omega))) only [go_sem, ↓GSplit_t, ↓GSplit_f, ↓GSplit_tf, ↓GSplit_ft, Nat.reduceAdd, Nat.reduceEqDiff, Nat.reduceLeDiff, Nat.reduceMul, Nat.reduceLT, reduceIte, Int.reduceToNat, bne_self_eq_false, beq_self_eq_true, w64_id, cast_succ, Bool.false_eq_true, Bool.and_true, Bool.true_and, Bool.and_false, Bool.false_and, Bool.not_not]); (first | (with_reducible refine GR.drop ?_ ?_; (simp only [and_self, and_true, true_and, implies_true, Bel_lit, Bel_I, Bel_Bv, Bel_nil, Bel_junk, Bel_nm, Bel_pc, Bel_il, Bel_agg, Bel_tup, Bel_fn, Bel_el, all_mapI, all_mapB, all_mapS, all_nilB, all_consB, EB_nil, EB_cons, BB_nil, BB_cons, Bel_ilS, Bel_ilSS, Bel_ilB, List.getElem?_cons_zero, List.take_succ_cons, List.take_zero, keep_nil, keep_cons])) | refine GR.of ?_); refine ⟨?_, rfl⟩; (try with_reducible rfl)
    rw [coverB, h, h2]; rfl
  have ha := asc_mem h2
  have hcl : cols.length ≤ 256 := by rcases asc_len h2 with h3 | h3 <;> simp_all; omega
  have hset0 : ∀ k ∈ cols, (∀ x ∈ xss.getD k.toNat [], 0 ≤ x ∧ x < m) ∧ (xss.getD k.toNat []).length ≤ 64 := by
    intro k hk
    have h3 := ha k hk
    refine hf.2.2.2 _ ?_
    simp [List.getElem?_eq_getElem (show k.toNat < xss.length by omega)]
  repeat (first | (with_reducible refine SW.seq ?_) | (with_reducible refine SW.block ?_) | (with_reducible refine SW.rowC ?_) | (with_reducible refine SW.skip ?_) | (with_reducible refine SW.exit ?_) | (with_reducible intro _) | (with_reducible refine And.intro (by omega) ?_) | (simp (config := { maxSteps := 1000000 }) (disch := (first | omega | (simp only [go_sem]; try omega))) only [go_sem, ↓GSplit_t, ↓GSplit_f, ↓GSplit_tf, ↓GSplit_ft, Nat.reduceAdd, Nat.reduceEqDiff, Nat.reduceLeDiff, Nat.reduceMul, Nat.reduceLT, reduceIte, Int.reduceToNat, bne_self_eq_false, beq_self_eq_true, w64_id, cast_succ, Bool.false_eq_true, Bool.and_true, Bool.true_and, Bool.and_false, Bool.false_and, Bool.not_not]))
  rw [counts_nil]
  have hlen : ∀ (l : List Int), (∀ k ∈ l, k ∈ cols) → (itemsOf xss l).length ≤ 64 * l.length := by
    intro l hl
    induction l with
    | nil => simp [itemsOf]
    | cons k l ih =>
      have h3 := (hset0 k (hl k (by simp))).2
      have := ih (fun k hk => hl k (by simp [hk]))
      simp only [itemsOf, List.flatMap_cons, List.length_append, List.length_cons] at this ⊢
      omega
  refine SW.loopE (fun E0 H0 q E' H' => ∃ (pre post : List Int), cols = pre ++ post ∧ q = post.length ∧ E' = aput E0 6 (I pre.length) ∧ H' = H ++ [⟨0, 24, 1, [I m, ilSS xss]⟩, ⟨0, 2, 1, (counts m (itemsOf xss pre)).map I⟩]) cols.length ⟨[], cols, rfl, rfl, rfl, rfl⟩ ?_
  rintro q E' H' ⟨pre, post, hp, rfl, rfl, rfl⟩
  simp (config := { maxSteps := 1000000 }) (disch := (first | omega | (simp only [go_sem]; try omega))) only [go_sem, ↓GSplit_t, ↓GSplit_f, ↓GSplit_tf, ↓GSplit_ft, Nat.reduceAdd, Nat.reduceEqDiff, Nat.reduceLeDiff, Nat.reduceMul, Nat.reduceLT, reduceIte, Int.reduceToNat, bne_self_eq_false, beq_self_eq_true, w64_id, cast_succ, Bool.false_eq_true, Bool.and_true, Bool.true_and, Bool.and_false, Bool.false_and, Bool.not_not]
  repeat (first | (with_reducible refine SW.seq ?_) | (with_reducible refine SW.block ?_) | (with_reducible refine SW.rowC ?_) | (with_reducible refine SW.skip ?_) | (with_reducible refine SW.exit ?_) | (with_reducible intro _) | (with_reducible refine And.intro (by omega) ?_) | (simp (config := { maxSteps := 1000000 }) (disch := (first | omega | (simp only [go_sem]; try omega))) only [go_sem, ↓GSplit_t, ↓GSplit_f, ↓GSplit_tf, ↓GSplit_ft, Nat.reduceAdd, Nat.reduceEqDiff, Nat.reduceLeDiff, Nat.reduceMul, Nat.reduceLT, reduceIte, Int.reduceToNat, bne_self_eq_false, beq_self_eq_true, w64_id, cast_succ, Bool.false_eq_true, Bool.and_true, Bool.true_and, Bool.and_false, Bool.false_and, Bool.not_not]))
  (first | refine SW.condD rfl (fun h3 => ?_) (fun h3 => ?_) | refine SW.condN rfl (fun h3 => ?_) (fun h3 => ?_) | refine SW.condNB rfl (fun h3 => ?_) (fun h3 => ?_) | refine SW.condB rfl (fun h3 => ?_) (fun h3 => ?_))
  · cases post with
    | nil => exfalso; simp at hp; subst hp; omega
    | cons k post =>
      have hg : cols.getD pre.length 0 = k := by subst hp; simp
      have hk := ha k (by subst hp; simp)
      have hk2 := hset0 k (by subst hp; simp)
      have hpl := hlen pre (fun y hy => by subst hp; simp [hy])
      repeat (first | (with_reducible refine SW.seq ?_) | (with_reducible refine SW.block ?_) | (with_reducible refine SW.rowC ?_) | (with_reducible refine SW.skip ?_) | (with_reducible refine SW.exit ?_) | (with_reducible intro _) | (with_reducible refine And.intro (by omega) ?_) | (simp (config := { maxSteps := 1000000 }) (disch := (first | omega | (simp only [go_sem]; try omega))) only [go_sem, ↓GSplit_t, ↓GSplit_f, ↓GSplit_tf, ↓GSplit_ft, Nat.reduceAdd, Nat.reduceEqDiff, Nat.reduceLeDiff, Nat.reduceMul, Nat.reduceLT, reduceIte, Int.reduceToNat, bne_self_eq_false, beq_self_eq_true, w64_id, cast_succ, Bool.false_eq_true, Bool.and_true, Bool.true_and, Bool.and_false, Bool.false_and, Bool.not_not, hg]))
      generalize hset : xss.getD k.toNat [] = set at *
      refine SW.loopE (fun E0 H0 q E' H' => ∃ (pr po : List Int), set = pr ++ po ∧ q = po.length ∧ E' = aput E0 8 (I pr.length) ∧ H' = H ++ [⟨0, 24, 1, [I m, ilSS xss]⟩, ⟨0, 2, 1, (counts m (itemsOf xss pre ++ pr)).map I⟩]) set.length ⟨[], set, rfl, rfl, rfl, by simp⟩ ?_
      rintro q E' H' ⟨pr, po, hpx, rfl, rfl, rfl⟩
      simp (config := { maxSteps := 1000000 }) (disch := (first | omega | (simp only [go_sem]; try omega))) only [go_sem, ↓GSplit_t, ↓GSplit_f, ↓GSplit_tf, ↓GSplit_ft, Nat.reduceAdd, Nat.reduceEqDiff, Nat.reduceLeDiff, Nat.reduceMul, Nat.reduceLT, reduceIte, Int.reduceToNat, bne_self_eq_false, beq_self_eq_true, w64_id, cast_succ, Bool.false_eq_true, Bool.and_true, Bool.true_and, Bool.and_false, Bool.false_and, Bool.not_not]
      repeat (first | (with_reducible refine SW.seq ?_) | (with_reducible refine SW.block ?_) | (with_reducible refine SW.rowC ?_) | (with_reducible refine SW.skip ?_) | (with_reducible refine SW.exit ?_) | (with_reducible intro _) | (with_reducible refine And.intro (by omega) ?_) | (simp (config := { maxSteps := 1000000 }) (disch := (first | omega | (simp only [go_sem]; try omega))) only [go_sem, ↓GSplit_t, ↓GSplit_f, ↓GSplit_tf, ↓GSplit_ft, Nat.reduceAdd, Nat.reduceEqDiff, Nat.reduceLeDiff, Nat.reduceMul, Nat.reduceLT, reduceIte, Int.reduceToNat, bne_self_eq_false, beq_self_eq_true, w64_id, cast_succ, Bool.false_eq_true, Bool.and_true, Bool.true_and, Bool.and_false, Bool.false_and, Bool.not_not]))
      (first | refine SW.condD rfl (fun h6 => ?_) (fun h6 => ?_) | refine SW.condN rfl (fun h6 => ?_) (fun h6 => ?_) | refine SW.condNB rfl (fun h6 => ?_) (fun h6 => ?_) | refine SW.condB rfl (fun h6 => ?_) (fun h6 => ?_))
      · cases po with
        | nil => exfalso; simp at hpx; subst hpx; omega
        | cons y po =>
          have hgy : set.getD pr.length 0 = y := by subst hpx; simp
          have hy := hk2.1 y (by subst hpx; simp)
          have hll := counts_length m (itemsOf xss pre ++ pr)
          have htk : ((counts m (itemsOf xss pre ++ pr)).map I).take m = (counts m (itemsOf xss pre ++ pr)).map I := List.take_of_length_le (by simp [hll])
          have hcnt : (itemsOf xss pre ++ pr).count y ≤ 64 * 256 + 64 := by
            have h7 := List.count_le_length (a := y) (l := itemsOf xss pre ++ pr)
            rw [List.length_append] at h7
            omega
          repeat (first | (with_reducible refine SW.seq ?_) | (with_reducible refine SW.block ?_) | (with_reducible refine SW.rowC ?_) | (with_reducible refine SW.skip ?_) | (with_reducible refine SW.exit ?_) | (with_reducible intro _) | (with_reducible refine And.intro (by omega) ?_) | (simp (config := { maxSteps := 1000000 }) (disch := (first | omega | (simp only [go_sem]; try omega))) only [go_sem, ↓GSplit_t, ↓GSplit_f, ↓GSplit_tf, ↓GSplit_ft, Nat.reduceAdd, Nat.reduceEqDiff, Nat.reduceLeDiff, Nat.reduceMul, Nat.reduceLT, reduceIte, Int.reduceToNat, bne_self_eq_false, beq_self_eq_true, w64_id, cast_succ, Bool.false_eq_true, Bool.and_true, Bool.true_and, Bool.and_false, Bool.false_and, Bool.not_not, hgy, htk, counts_get m _ y hy.1 hy.2]))
          refine SLoop.next po.length (by simp) ⟨pr ++ [y], po, by simp [hpx], rfl, ?_, ?_⟩
          · simp [go_sem]
          · rw [counts_set m _ y hy.1, List.append_assoc]
      · have : po = [] := by cases po with
          | nil => rfl
          | cons y po => exfalso; subst hpx; simp at h6; omega
        subst this
        rw [List.append_nil] at hpx
        subst hpx
        repeat (first | (with_reducible refine SW.seq ?_) | (with_reducible refine SW.block ?_) | (with_reducible refine SW.rowC ?_) | (with_reducible refine SW.skip ?_) | (with_reducible refine SW.exit ?_) | (with_reducible intro _) | (with_reducible refine And.intro (by omega) ?_) | (simp (config := { maxSteps := 1000000 }) (disch := (first | omega | (simp only [go_sem]; try omega))) only [go_sem, ↓GSplit_t, ↓GSplit_f, ↓GSplit_tf, ↓GSplit_ft, Nat.reduceAdd, Nat.reduceEqDiff, Nat.reduceLeDiff, Nat.reduceMul, Nat.reduceLT, reduceIte, Int.reduceToNat, bne_self_eq_false, beq_self_eq_true, w64_id, cast_succ, Bool.false_eq_true, Bool.and_true, Bool.true_and, Bool.and_false, Bool.false_and, Bool.not_not]))
        refine SLoop.next post.length (by simp) ⟨pre ++ [k], post, by simp [hp], rfl, ?_, ?_⟩
        · simp [go_sem]
        · rw [itemsOf_snoc, hset]
  · have : post = [] := by cases post with
      | nil => rfl
      | cons x post => exfalso; subst hp; simp at h3; omega
    subst this
    rw [List.append_nil] at hp
    subst hp
    have hit : ∀ x ∈ itemsOf xss cols, 0 ≤ x ∧ x < m := by
      intro x hx3
      obtain ⟨k, hk, hxk⟩ := List.mem_flatMap.1 hx3
      exact (hset0 k hk).1 x hxk
    have hco : coverB m xss cols = (counts m (itemsOf xss cols)).all (fun c => decide (c = 1)) := by
      rw [counts_all hit, coverB, h, h2]; simp
    rw [hco]
    have hll := counts_length m (itemsOf xss cols)
    have htk : ((counts m (itemsOf xss cols)).map I).take m = (counts m (itemsOf xss cols)).map I := List.take_of_length_le (by simp [hll])
    generalize counts m (itemsOf xss cols) = cs at *
    repeat (first | (with_reducible refine SW.seq ?_) | (with_reducible refine SW.block ?_) | (with_reducible refine SW.rowC ?_) | (with_reducible refine SW.skip ?_) | (with_reducible refine SW.exit ?_) | (with_reducible intro _) | (with_reducible refine And.intro (by omega) ?_) | (simp (config := { maxSteps := 1000000 }) (disch := (first | omega | (simp only [go_sem]; try omega))) only [go_sem, ↓GSplit_t, ↓GSplit_f, ↓GSplit_tf, ↓GSplit_ft, Nat.reduceAdd, Nat.reduceEqDiff, Nat.reduceLeDiff, Nat.reduceMul, Nat.reduceLT, reduceIte, Int.reduceToNat, bne_self_eq_false, beq_self_eq_true, w64_id, cast_succ, Bool.false_eq_true, Bool.and_true, Bool.true_and, Bool.and_false, Bool.false_and, Bool.not_not]))
    refine SW.loopE (fun E0 H0 q E' H' => ∃ (pr po : List Int), cs = pr ++ po ∧ q = po.length ∧ E' = aput E0 9 (I pr.length) ∧ H' = H0 ∧ ∀ c ∈ pr, c = 1) m ⟨[], cs, rfl, hll.symm, rfl, rfl, by simp⟩ ?_
    rintro q E' H' ⟨pr, po, hpx, rfl, rfl, rfl, h1⟩
    simp (config := { maxSteps := 1000000 }) (disch := (first | omega | (simp only [go_sem]; try omega))) only [go_sem, ↓GSplit_t, ↓GSplit_f, ↓GSplit_tf, ↓GSplit_ft, Nat.reduceAdd, Nat.reduceEqDiff, Nat.reduceLeDiff, Nat.reduceMul, Nat.reduceLT, reduceIte, Int.reduceToNat, bne_self_eq_false, beq_self_eq_true, w64_id, cast_succ, Bool.false_eq_true, Bool.and_true, Bool.true_and, Bool.and_false, Bool.false_and, Bool.not_not]
    repeat (first | (with_reducible refine SW.seq ?_) | (with_reducible refine SW.block ?_) | (with_reducible refine SW.rowC ?_) | (with_reducible refine SW.skip ?_) | (with_reducible refine SW.exit ?_) | (with_reducible intro _) | (with_reducible refine And.intro (by omega) ?_) | (simp (config := { maxSteps := 1000000 }) (disch := (first | omega | (simp only [go_sem]; try omega))) only [go_sem, ↓GSplit_t, ↓GSplit_f, ↓GSplit_tf, ↓GSplit_ft, Nat.reduceAdd, Nat.reduceEqDiff, Nat.reduceLeDiff, Nat.reduceMul, Nat.reduceLT, reduceIte, Int.reduceToNat, bne_self_eq_false, beq_self_eq_true, w64_id, cast_succ, Bool.false_eq_true, Bool.and_true, Bool.true_and, Bool.and_false, Bool.false_and, Bool.not_not, htk]))
    (first | refine SW.condD rfl (fun h6 => ?_) (fun h6 => ?_) | refine SW.condN rfl (fun h6 => ?_) (fun h6 => ?_) | refine SW.condNB rfl (fun h6 => ?_) (fun h6 => ?_) | refine SW.condB rfl (fun h6 => ?_) (fun h6 => ?_))
    · cases po with
      | nil => exfalso; simp at hpx; subst hpx; omega
      | cons y po =>
        have hgy : cs.getD pr.length 0 = y := by subst hpx; simp
        repeat (first | (with_reducible refine SW.seq ?_) | (with_reducible refine SW.block ?_) | (with_reducible refine SW.rowC ?_) | (with_reducible refine SW.skip ?_) | (with_reducible refine SW.exit ?_) | (with_reducible intro _) | (with_reducible refine And.intro (by omega) ?_) | (simp (config := { maxSteps := 1000000 }) (disch := (first | omega | (simp only [go_sem]; try omega))) only [go_sem, ↓GSplit_t, ↓GSplit_f, ↓GSplit_tf, ↓GSplit_ft, Nat.reduceAdd, Nat.reduceEqDiff, Nat.reduceLeDiff, Nat.reduceMul, Nat.reduceLT, reduceIte, Int.reduceToNat, bne_self_eq_false, beq_self_eq_true, w64_id, cast_succ, Bool.false_eq_true, Bool.and_true, Bool.true_and, Bool.and_false, Bool.false_and, Bool.not_not, hgy, htk]))
        (first | refine SW.condD rfl (fun h7 => ?_) (fun h7 => ?_) | refine SW.condN rfl (fun h7 => ?_) (fun h7 => ?_) | refine SW.condNB rfl (fun h7 => ?_) (fun h7 => ?_) | refine SW.condB rfl (fun h7 => ?_) (fun h7 => ?_))
        · repeat (first | (with_reducible refine SW.seq ?_) | (with_reducible refine SW.block ?_) | (with_reducible refine SW.rowC ?_) | (with_reducible refine SW.skip ?_) | (with_reducible refine SW.exit ?_) | (with_reducible intro _) | (with_reducible refine And.intro (by omega) ?_) | (simp (config := { maxSteps := 1000000 }) (disch := (first | omega | (simp only [go_sem]; try omega))) only [go_sem, ↓GSplit_t, ↓GSplit_f, ↓GSplit_tf, ↓GSplit_ft, Nat.reduceAdd, Nat.reduceEqDiff, Nat.reduceLeDiff, Nat.reduceMul, Nat.reduceLT, reduceIte, Int.reduceToNat, bne_self_eq_false, beq_self_eq_true, w64_id, cast_succ, Bool.false_eq_true, Bool.and_true, Bool.true_and, Bool.and_false, Bool.false_and, Bool.not_not]))
          refine SW.ret ?_; (try simp only [go_sem]); (first | refine FunPost.one ?_ | refine FunPost.two ?_ | refine FunPost.three ?_); (try simp (config := { maxSteps := 1000000 }) (disch := (first | omega | (simp only [go_sem]; try omega))) only [go_sem, ↓GSplit_t, ↓GSplit_f, ↓GSplit_tf, ↓GSplit_ft, Nat.reduceAdd, Nat.reduceEqDiff, Nat.reduceLeDiff, Nat.reduceMul, Nat.reduceLT, reduceIte, Int.reduceToNat, bne_self_eq_false, beq_self_eq_true, w64_id, cast_succ, Bool.false_eq_true, Bool.and_true, Bool.true_and, Bool.and_false, Bool.false_and, Bool.not_not]); (first | (with_reducible refine GR.drop ?_ ?_; (simp only [and_self, and_true, true_and, implies_true, Bel_lit, Bel_I, Bel_Bv, Bel_nil, Bel_junk, Bel_nm, Bel_pc, Bel_il, Bel_agg, Bel_tup, Bel_fn, Bel_el, all_mapI, all_mapB, all_mapS, all_nilB, all_consB, EB_nil, EB_cons, BB_nil, BB_cons, Bel_ilS, Bel_ilSS, Bel_ilB, List.getElem?_cons_zero, List.take_succ_cons, List.take_zero, keep_nil, keep_cons])) | refine GR.of ?_); refine ⟨?_, rfl⟩; (try with_reducible rfl)
          symm
          refine congrArg Bv ?_
          rw [List.all_eq_false]
          exact ⟨y, by subst hpx; simp, by simpa using h7⟩
        · repeat (first | (with_reducible refine SW.seq ?_) | (with_reducible refine SW.block ?_) | (with_reducible refine SW.rowC ?_) | (with_reducible refine SW.skip ?_) | (with_reducible refine SW.exit ?_) | (with_reducible intro _) | (with_reducible refine And.intro (by omega) ?_) | (simp (config := { maxSteps := 1000000 }) (disch := (first | omega | (simp only [go_sem]; try omega))) only [go_sem, ↓GSplit_t, ↓GSplit_f, ↓GSplit_tf, ↓GSplit_ft, Nat.reduceAdd, Nat.reduceEqDiff, Nat.reduceLeDiff, Nat.reduceMul, Nat.reduceLT, reduceIte, Int.reduceToNat, bne_self_eq_false, beq_self_eq_true, w64_id, cast_succ, Bool.false_eq_true, Bool.and_true, Bool.true_and, Bool.and_false, Bool.false_and, Bool.not_not]))
          refine SLoop.next po.length (by simp) ⟨pr ++ [y], po, by simp [hpx], rfl, ?_, rfl, ?_⟩
          · simp [go_sem]
          · intro c hc
            rcases List.mem_append.1 hc with hc | hc
            · exact h1 c hc
            · rw [List.mem_singleton.1 hc]; exact h7
    · have : po = [] := by cases po with
        | nil => rfl
        | cons y po => exfalso; subst hpx; simp at h6 hll; omega
      subst this
      rw [List.append_nil] at hpx
      repeat (first | (with_reducible refine SW.seq ?_) | (with_reducible refine SW.block ?_) | (with_reducible refine SW.rowC ?_) | (with_reducible refine SW.skip ?_) | (with_reducible refine SW.exit ?_) | (with_reducible intro _) | (with_reducible refine And.intro (by omega) ?_) | (simp (config := { maxSteps := 1000000 }) (disch := (first | omega | (simp only [go_sem]; try omega))) only [go_sem, ↓GSplit_t, ↓GSplit_f, ↓GSplit_tf, ↓GSplit_ft, Nat.reduceAdd, Nat.reduceEqDiff, Nat.reduceLeDiff, Nat.reduceMul, Nat.reduceLT, reduceIte, Int.reduceToNat, bne_self_eq_false, beq_self_eq_true, w64_id, cast_succ, Bool.false_eq_true, Bool.and_true, Bool.true_and, Bool.and_false, Bool.false_and, Bool.not_not]))
      refine SW.ret ?_; (try simp only [go_sem]); (first | refine FunPost.one ?_ | refine FunPost.two ?_ | refine FunPost.three ?_); (try simp (config := { maxSteps := 1000000 }) (disch := (first | omega | (simp only [go_sem]; try omega))) only [go_sem, ↓GSplit_t, ↓GSplit_f, ↓GSplit_tf, ↓GSplit_ft, Nat.reduceAdd, Nat.reduceEqDiff, Nat.reduceLeDiff, Nat.reduceMul, Nat.reduceLT, reduceIte, Int.reduceToNat, bne_self_eq_false, beq_self_eq_true, w64_id, cast_succ, Bool.false_eq_true, Bool.and_true, Bool.true_and, Bool.and_false, Bool.false_and, Bool.not_not]); (first | (with_reducible refine GR.drop ?_ ?_; (simp only [and_self, and_true, true_and, implies_true, Bel_lit, Bel_I, Bel_Bv, Bel_nil, Bel_junk, Bel_nm, Bel_pc, Bel_il, Bel_agg, Bel_tup, Bel_fn, Bel_el, all_mapI, all_mapB, all_mapS, all_nilB, all_consB, EB_nil, EB_cons, BB_nil, BB_cons, Bel_ilS, Bel_ilSS, Bel_ilB, List.getElem?_cons_zero, List.take_succ_cons, List.take_zero, keep_nil, keep_cons])) | refine GR.of ?_); refine ⟨?_, rfl⟩; (try with_reducible rfl)
      symm
      refine congrArg Bv ?_
      rw [List.all_eq_true, hpx]
      intro c hc; simpa using h1 c hc

theorem lawIsCover_ok (H : List Blk) (n : Int) (xss : List (List Int)) (cols : List Int) (hx : ∀ xs ∈ xss, ∀ x ∈ xs, (Lit.int .i64 x).wf = true) (hx2 : ∀ x ∈ cols, (Lit.int .i64 x).wf = true) : ACalls Try.prog f_laws_FnExactIsCover [.agg [I n, ilSS xss], ilS cols] H (fun r _ => r = Bv true) := by
  refine ACalls.introB s_laws_FnExactIsCover (by simp) ?_; intro hB hA; unfold c_laws_FnExactIsCover; simp (config := { maxSteps := 1000000 }) (disch := (first | omega | (simp only [go_sem]; try omega))) only [go_sem, ↓GSplit_t, ↓GSplit_f, ↓GSplit_tf, ↓GSplit_ft, Nat.reduceAdd, Nat.reduceEqDiff, Nat.reduceLeDiff, Nat.reduceMul, Nat.reduceLT, reduceIte, Int.reduceToNat, bne_self_eq_false, beq_self_eq_true, w64_id, cast_succ, Bool.false_eq_true, Bool.and_true, Bool.true_and, Bool.and_false, Bool.false_and, Bool.not_not]
  repeat (first | (with_reducible refine SW.seq ?_) | (with_reducible refine SW.block ?_) | (with_reducible refine SW.rowC ?_) | (with_reducible refine SW.skip ?_) | (with_reducible refine SW.exit ?_) | (with_reducible intro _) | (with_reducible refine And.intro (by omega) ?_) | (simp (config := { maxSteps := 1000000 }) (disch := (first | omega | (simp only [go_sem]; try omega))) only [go_sem, ↓GSplit_t, ↓GSplit_f, ↓GSplit_tf, ↓GSplit_ft, Nat.reduceAdd, Nat.reduceEqDiff, Nat.reduceLeDiff, Nat.reduceMul, Nat.reduceLT, reduceIte, Int.reduceToNat, bne_self_eq_false, beq_self_eq_true, w64_id, cast_succ, Bool.false_eq_true, Bool.and_true, Bool.true_and, Bool.and_false, Bool.false_and, Bool.not_not]))
  (first | refine SW.condD rfl (fun h => ?_) (fun h => ?_) | refine SW.condN rfl (fun h => ?_) (fun h => ?_) | refine SW.condNB rfl (fun h => ?_) (fun h => ?_) | refine SW.condB rfl (fun h => ?_) (fun h => ?_))
  · repeat (first | (with_reducible refine SW.seq ?_) | (with_reducible refine SW.block ?_) | (with_reducible refine SW.rowC ?_) | (with_reducible refine SW.skip ?_) | (with_reducible refine SW.exit ?_) | (with_reducible intro _) | (with_reducible refine And.intro (by omega) ?_) | (simp (config := { maxSteps := 1000000 }) (disch := (first | omega | (simp only [go_sem]; try omega))) only [go_sem, ↓GSplit_t, ↓GSplit_f, ↓GSplit_tf, ↓GSplit_ft, Nat.reduceAdd, Nat.reduceEqDiff, Nat.reduceLeDiff, Nat.reduceMul, Nat.reduceLT, reduceIte, Int.reduceToNat, bne_self_eq_false, beq_self_eq_true, w64_id, cast_succ, Bool.false_eq_true, Bool.and_true, Bool.true_and, Bool.and_false, Bool.false_and, Bool.not_not]))
    refine SW.ret ?_; (try simp only [go_sem]); (first | refine FunPost.one ?_ | refine FunPost.two ?_ | refine FunPost.three ?_); (try simp (config := { maxSteps := 1000000 }) (disch := (first | omega | (simp only [go_sem]; try omega))) only [go_sem, ↓GSplit_t, ↓GSplit_f, ↓GSplit_tf, ↓GSplit_ft, Nat.reduceAdd, Nat.reduceEqDiff, Nat.reduceLeDiff, Nat.reduceMul, Nat.reduceLT, reduceIte, Int.reduceToNat, bne_self_eq_false, beq_self_eq_true, w64_id, cast_succ, Bool.false_eq_true, Bool.and_true, Bool.true_and, Bool.and_false, Bool.false_and, Bool.not_not])
    exact GR.of rfl
  repeat (first | (with_reducible refine SW.seq ?_) | (with_reducible refine SW.block ?_) | (with_reducible refine SW.rowC ?_) | (with_reducible refine SW.skip ?_) | (with_reducible refine SW.exit ?_) | (with_reducible intro _) | (with_reducible refine And.intro (by omega) ?_) | (simp (config := { maxSteps := 1000000 }) (disch := (first | omega | (simp only [go_sem]; try omega))) only [go_sem, ↓GSplit_t, ↓GSplit_f, ↓GSplit_tf, ↓GSplit_ft, Nat.reduceAdd, Nat.reduceEqDiff, Nat.reduceLeDiff, Nat.reduceMul, Nat.reduceLT, reduceIte, Int.reduceToNat, bne_self_eq_false, beq_self_eq_true, w64_id, cast_succ, Bool.false_eq_true, Bool.and_true, Bool.true_and, Bool.and_false, Bool.false_and, Bool.not_not]))
  refine (szCover_ok _ n _ xss _ rfl (rd_ilSS _ _) (by omega) (by omega)).mono ?_
  rintro r H' ⟨⟨z, rfl, g1, g2, g3⟩, rfl⟩
  repeat (first | (with_reducible refine SW.seq ?_) | (with_reducible refine SW.block ?_) | (with_reducible refine SW.rowC ?_) | (with_reducible refine SW.skip ?_) | (with_reducible refine SW.exit ?_) | (with_reducible intro _) | (with_reducible refine And.intro (by omega) ?_) | (simp (config := { maxSteps := 1000000 }) (disch := (first | omega | (simp only [go_sem]; try omega))) only [go_sem, ↓GSplit_t, ↓GSplit_f, ↓GSplit_tf, ↓GSplit_ft, Nat.reduceAdd, Nat.reduceEqDiff, Nat.reduceLeDiff, Nat.reduceMul, Nat.reduceLT, reduceIte, Int.reduceToNat, bne_self_eq_false, beq_self_eq_true, w64_id, cast_succ, Bool.false_eq_true, Bool.and_true, Bool.true_and, Bool.and_false, Bool.false_and, Bool.not_not]))
  (first | refine SW.condD rfl (fun h2 => ?_) (fun h2 => ?_) | refine SW.condN rfl (fun h2 => ?_) (fun h2 => ?_) | refine SW.condNB rfl (fun h2 => ?_) (fun h2 => ?_) | refine SW.condB rfl (fun h2 => ?_) (fun h2 => ?_))
  · repeat (first | (with_reducible refine SW.seq ?_) | (with_reducible refine SW.block ?_) | (with_reducible refine SW.rowC ?_) | (with_reducible refine SW.skip ?_) | (with_reducible refine SW.exit ?_) | (with_reducible intro _) | (with_reducible refine And.intro (by omega) ?_) | (simp (config := { maxSteps := 1000000 }) (disch := (first | omega | (simp only [go_sem]; try omega))) only [go_sem, ↓GSplit_t, ↓GSplit_f, ↓GSplit_tf, ↓GSplit_ft, Nat.reduceAdd, Nat.reduceEqDiff, Nat.reduceLeDiff, Nat.reduceMul, Nat.reduceLT, reduceIte, Int.reduceToNat, bne_self_eq_false, beq_self_eq_true, w64_id, cast_succ, Bool.false_eq_true, Bool.and_true, Bool.true_and, Bool.and_false, Bool.false_and, Bool.not_not]))
    refine SW.ret ?_; (try simp only [go_sem]); (first | refine FunPost.one ?_ | refine FunPost.two ?_ | refine FunPost.three ?_); (try simp (config := { maxSteps := 1000000 }) (disch := (first | omega | (simp only [go_sem]; try omega))) only [go_sem, ↓GSplit_t, ↓GSplit_f, ↓GSplit_tf, ↓GSplit_ft, Nat.reduceAdd, Nat.reduceEqDiff, Nat.reduceLeDiff, Nat.reduceMul, Nat.reduceLT, reduceIte, Int.reduceToNat, bne_self_eq_false, beq_self_eq_true, w64_id, cast_succ, Bool.false_eq_true, Bool.and_true, Bool.true_and, Bool.and_false, Bool.false_and, Bool.not_not])
    exact GR.of rfl
  have hsx := small_rows (by omega) (g3 (by omega)) (by omega)
  have t1 := toCover_fn n xss hsx.1 hsx.2
  have t2 := toInt64S_fn cols (by omega)
  repeat (first | (with_reducible refine SW.seq ?_) | (with_reducible refine SW.block ?_) | (with_reducible refine SW.rowC ?_) | (with_reducible refine SW.skip ?_) | (with_reducible refine SW.exit ?_) | (with_reducible refine PFn.use (t1) ?_) | (with_reducible refine PFn.useq (t1) ?_) | (with_reducible refine PFn.use (t2) ?_) | (with_reducible refine PFn.useq (t2) ?_) | (with_reducible refine PFn.use (specIsCover_fn n xss cols hx hx2) ?_) | (with_reducible refine PFn.useq (specIsCover_fn n xss cols hx hx2) ?_) | (with_reducible refine PFn.use (implIsCover_fn n xss cols hx hx2 hsx.1) ?_) | (with_reducible refine PFn.useq (implIsCover_fn n xss cols hx hx2 hsx.1) ?_) | (with_reducible intro _) | (with_reducible refine And.intro (by omega) ?_) | (simp (config := { maxSteps := 1000000 }) (disch := (first | omega | (simp only [go_sem]; try omega))) only [go_sem, ↓GSplit_t, ↓GSplit_f, ↓GSplit_tf, ↓GSplit_ft, Nat.reduceAdd, Nat.reduceEqDiff, Nat.reduceLeDiff, Nat.reduceMul, Nat.reduceLT, reduceIte, Int.reduceToNat, bne_self_eq_false, beq_self_eq_true, w64_id, cast_succ, Bool.false_eq_true, Bool.and_true, Bool.true_and, Bool.and_false, Bool.false_and, Bool.not_not]))
  (first | refine SW.condD rfl (fun h3 => ?_) (fun h3 => ?_) | refine SW.condN rfl (fun h3 => ?_) (fun h3 => ?_) | refine SW.condNB rfl (fun h3 => ?_) (fun h3 => ?_) | refine SW.condB rfl (fun h3 => ?_) (fun h3 => ?_))
  · simp at h3
  repeat (first | (with_reducible refine SW.seq ?_) | (with_reducible refine SW.block ?_) | (with_reducible refine SW.rowC ?_) | (with_reducible refine SW.skip ?_) | (with_reducible refine SW.exit ?_) | (with_reducible refine PFn.use (t1) ?_) | (with_reducible refine PFn.useq (t1) ?_) | (with_reducible refine PFn.use (eqCover_fn2 n xss) ?_) | (with_reducible refine PFn.useq (eqCover_fn2 n xss) ?_) | (with_reducible intro _) | (with_reducible refine And.intro (by omega) ?_) | (simp (config := { maxSteps := 1000000 }) (disch := (first | omega | (simp only [go_sem]; try omega))) only [go_sem, ↓GSplit_t, ↓GSplit_f, ↓GSplit_tf, ↓GSplit_ft, Nat.reduceAdd, Nat.reduceEqDiff, Nat.reduceLeDiff, Nat.reduceMul, Nat.reduceLT, reduceIte, Int.reduceToNat, bne_self_eq_false, beq_self_eq_true, w64_id, cast_succ, Bool.false_eq_true, Bool.and_true, Bool.true_and, Bool.and_false, Bool.false_and, Bool.not_not]))
  (first | refine SW.condD rfl (fun h3 => ?_) (fun h3 => ?_) | refine SW.condN rfl (fun h3 => ?_) (fun h3 => ?_) | refine SW.condNB rfl (fun h3 => ?_) (fun h3 => ?_) | refine SW.condB rfl (fun h3 => ?_) (fun h3 => ?_))
  · cases h3
  repeat (first | (with_reducible refine SW.seq ?_) | (with_reducible refine SW.block ?_) | (with_reducible refine SW.rowC ?_) | (with_reducible refine SW.skip ?_) | (with_reducible refine SW.exit ?_) | (with_reducible refine PFn.use (t2) ?_) | (with_reducible refine PFn.useq (t2) ?_) | (with_reducible refine PFn.use (eqInt64S_fn2 cols) ?_) | (with_reducible refine PFn.useq (eqInt64S_fn2 cols) ?_) | (with_reducible intro _) | (with_reducible refine And.intro (by omega) ?_) | (simp (config := { maxSteps := 1000000 }) (disch := (first | omega | (simp only [go_sem]; try omega))) only [go_sem, ↓GSplit_t, ↓GSplit_f, ↓GSplit_tf, ↓GSplit_ft, Nat.reduceAdd, Nat.reduceEqDiff, Nat.reduceLeDiff, Nat.reduceMul, Nat.reduceLT, reduceIte, Int.reduceToNat, bne_self_eq_false, beq_self_eq_true, w64_id, cast_succ, Bool.false_eq_true, Bool.and_true, Bool.true_and, Bool.and_false, Bool.false_and, Bool.not_not]))
  (first | refine SW.condD rfl (fun h3 => ?_) (fun h3 => ?_) | refine SW.condN rfl (fun h3 => ?_) (fun h3 => ?_) | refine SW.condNB rfl (fun h3 => ?_) (fun h3 => ?_) | refine SW.condB rfl (fun h3 => ?_) (fun h3 => ?_))
  · cases h3
  repeat (first | (with_reducible refine SW.seq ?_) | (with_reducible refine SW.block ?_) | (with_reducible refine SW.rowC ?_) | (with_reducible refine SW.skip ?_) | (with_reducible refine SW.exit ?_) | (with_reducible intro _) | (with_reducible refine And.intro (by omega) ?_) | (simp (config := { maxSteps := 1000000 }) (disch := (first | omega | (simp only [go_sem]; try omega))) only [go_sem, ↓GSplit_t, ↓GSplit_f, ↓GSplit_tf, ↓GSplit_ft, Nat.reduceAdd, Nat.reduceEqDiff, Nat.reduceLeDiff, Nat.reduceMul, Nat.reduceLT, reduceIte, Int.reduceToNat, bne_self_eq_false, beq_self_eq_true, w64_id, cast_succ, Bool.false_eq_true, Bool.and_true, Bool.true_and, Bool.and_false, Bool.false_and, Bool.not_not]))
  refine SW.ret ?_; (try simp only [go_sem]); (first | refine FunPost.one ?_ | refine FunPost.two ?_ | refine FunPost.three ?_); (try simp (config := { maxSteps := 1000000 }) (disch := (first | omega | (simp only [go_sem]; try omega))) only [go_sem, ↓GSplit_t, ↓GSplit_f, ↓GSplit_tf, ↓GSplit_ft, Nat.reduceAdd, Nat.reduceEqDiff, Nat.reduceLeDiff, Nat.reduceMul, Nat.reduceLT, reduceIte, Int.reduceToNat, bne_self_eq_false, beq_self_eq_true, w64_id, cast_succ, Bool.false_eq_true, Bool.and_true, Bool.true_and, Bool.and_false, Bool.false_and, Bool.not_not])
  exact GR.of rfl
end Go.Proofs.Ytmgbglekgigkmaa
