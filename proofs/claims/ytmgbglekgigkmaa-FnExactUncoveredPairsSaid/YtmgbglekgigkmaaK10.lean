/- Differences; new lists. -/
import Derived.Test.YtmgbglekgigkmaaProg
import Derived.KernelRfl
import Derived.Test.YtmgbglekgigkmaaK7
import Derived.Test.YtmgbglekgigkmaaK8
import Derived.Test.YtmgbglekgigkmaaAv17
set_option linter.unusedSimpArgs false
set_option linter.unusedVariables false
set_option maxHeartbeats 4000000
namespace Go.Proofs.Ytmgbglekgigkmaa
open Go.Av

/-! The abstract code of functions, printed by program and tied to the program by the kernel. -/
/-- loop.example/g00920/impl.differenceTable -/
abbrev f_impl_differenceTable : Nat := 132
def c_impl_differenceTable : SC :=
 .seq (.reg [
     ⟨(some 4), .mv (.const (.slice none 0 0)), none⟩] [0, 1])
 (.seq (.reg [
     ⟨(some 12), .mv (.tmp 0), none⟩,
     ⟨(some 13), .mslice 2 8 (.int .i64 0) (.tmp 12) (.tmp 12), none⟩,
     ⟨(some 5), .mv (.tmp 13), none⟩] [0, 1, 5])
 (.seq (.seq (.reg [
     ⟨(some 14), .mv (.tmp 1), none⟩,
     ⟨(some 15), .len (.tmp 14), none⟩,
     ⟨(some 16), .mv (.const (.int .i64 0)), none⟩] [0, 5, 14, 15, 16])
 (.block 0 (.loop [0, 5, 14, 15, 16]
   (.seq (.reg [
       ⟨(some 17), .bin .lss (.tmp 16) (.tmp 15), none⟩] [0, 5, 14, 15, 16, 17])
   (.seq (.cond (.tmp 17)
    (.skip)
    (.exit 0))
   (.seq (.block 1 (.seq (.reg [
        ⟨(some 18), .iaddr 1 (.tmp 14) (.tmp 16), none⟩,
        ⟨(some 19), .load 1 false (.tmp 18), none⟩,
        ⟨(some 7), .mv (.tmp 19), none⟩] [0, 5, 7, 14, 15, 16])
    (.seq (.reg [
        ⟨(some 20), .mv (.tmp 7), none⟩,
        ⟨(some 21), .len (.tmp 20), none⟩,
        ⟨(some 22), .mv (.const (.int .i64 0)), none⟩] [0, 5, 7, 14, 15, 16, 20, 21, 22])
    (.block 2 (.loop [0, 5, 7, 14, 15, 16, 20, 21, 22]
      (.seq (.reg [
          ⟨(some 23), .bin .lss (.tmp 22) (.tmp 21), none⟩] [0, 5, 7, 14, 15, 16, 20, 21, 22, 23])
      (.seq (.cond (.tmp 23)
       (.skip)
       (.exit 2))
      (.seq (.block 3 (.seq (.reg [
           ⟨(some 24), .iaddr 1 (.tmp 20) (.tmp 22), none⟩,
           ⟨(some 25), .load 1 false (.tmp 24), none⟩,
           ⟨(some 9), .mv (.tmp 25), none⟩] [0, 5, 7, 9, 14, 15, 16, 20, 21, 22])
       (.seq (.reg [
           ⟨(some 26), .mv (.tmp 7), none⟩,
           ⟨(some 27), .len (.tmp 26), none⟩,
           ⟨(some 28), .mv (.const (.int .i64 0)), none⟩] [0, 5, 7, 9, 14, 15, 16, 20, 21, 22, 26, 27, 28])
       (.block 4 (.loop [0, 5, 7, 9, 14, 15, 16, 20, 21, 22, 26, 27, 28]
         (.seq (.reg [
             ⟨(some 29), .bin .lss (.tmp 28) (.tmp 27), none⟩] [0, 5, 7, 9, 14, 15, 16, 20, 21, 22, 26, 27, 28, 29])
         (.seq (.cond (.tmp 29)
          (.skip)
          (.exit 4))
         (.seq (.block 5 (.seq (.reg [
              ⟨(some 30), .iaddr 1 (.tmp 26) (.tmp 28), none⟩,
              ⟨(some 31), .load 1 false (.tmp 30), none⟩,
              ⟨(some 11), .mv (.tmp 31), none⟩] [0, 5, 7, 9, 11, 14, 15, 16, 20, 21, 22, 26, 27, 28])
          (.seq (.reg [
              ⟨(some 32), .mv (.tmp 9), none⟩,
              ⟨(some 33), .mv (.tmp 11), none⟩,
              ⟨(some 34), .bin .neq (.tmp 32) (.tmp 33), none⟩] [0, 5, 7, 9, 11, 14, 15, 16, 20, 21, 22, 26, 27, 28, 34])
          (.cond (.tmp 34)
           (.reg [
               ⟨(some 35), .mv (.tmp 5), none⟩,
               ⟨(some 36), .mv (.tmp 9), none⟩,
               ⟨(some 37), .mv (.tmp 11), none⟩,
               ⟨(some 38), .bin .sub (.tmp 36) (.tmp 37), none⟩,
               ⟨(some 39), .mv (.tmp 0), none⟩,
               ⟨(some 40), .bin .add (.tmp 38) (.tmp 39), none⟩,
               ⟨(some 41), .mv (.tmp 0), none⟩,
               ⟨(some 42), .bin .rem (.tmp 40) (.tmp 41), none⟩,
               ⟨(some 43), .iaddr 1 (.tmp 35) (.tmp 42), none⟩,
               ⟨(some 44), .load 1 false (.tmp 43), none⟩,
               ⟨(some 45), .bin .add (.tmp 44) (.const (.int .i64 1)), none⟩,
               ⟨(some 46), .iaddr 1 (.tmp 35) (.tmp 42), none⟩,
               ⟨none, .store 1 (.tmp 46) (.tmp 45), none⟩] [0, 5, 7, 9, 14, 15, 16, 20, 21, 22, 26, 27, 28])
           (.skip)))))
         (.reg [
             ⟨(some 47), .bin .add (.tmp 28) (.const (.int .i64 1)), none⟩,
             ⟨(some 28), .mv (.tmp 47), none⟩] [0, 5, 7, 9, 14, 15, 16, 20, 21, 22, 26, 27, 28])))))))))
      (.reg [
          ⟨(some 48), .bin .add (.tmp 22) (.const (.int .i64 1)), none⟩,
          ⟨(some 22), .mv (.tmp 48), none⟩] [0, 5, 7, 14, 15, 16, 20, 21, 22])))))))))
   (.reg [
       ⟨(some 49), .bin .add (.tmp 16) (.const (.int .i64 1)), none⟩,
       ⟨(some 16), .mv (.tmp 49), none⟩] [0, 5, 14, 15, 16])))))))
 (.seq (.reg [
     ⟨(some 50), .mv (.tmp 5), none⟩,
     ⟨(some 4), .mv (.tmp 50), none⟩] [4])
 (.ret))))
theorem s_impl_differenceTable : stripF Try.prog 132 [[0, 1], [0, 1, 5], [0, 5, 14, 15, 16], [0, 5, 14, 15, 16], [0, 5, 14, 15, 16, 17], [0, 5, 7, 14, 15, 16], [0, 5, 7, 14, 15, 16, 20, 21, 22], [0, 5, 7, 14, 15, 16, 20, 21, 22], [0, 5, 7, 14, 15, 16, 20, 21, 22, 23], [0, 5, 7, 9, 14, 15, 16, 20, 21, 22], [0, 5, 7, 9, 14, 15, 16, 20, 21, 22, 26, 27, 28], [0, 5, 7, 9, 14, 15, 16, 20, 21, 22, 26, 27, 28], [0, 5, 7, 9, 14, 15, 16, 20, 21, 22, 26, 27, 28, 29], [0, 5, 7, 9, 11, 14, 15, 16, 20, 21, 22, 26, 27, 28], [0, 5, 7, 9, 11, 14, 15, 16, 20, 21, 22, 26, 27, 28, 34], [0, 5, 7, 9, 14, 15, 16, 20, 21, 22, 26, 27, 28], [0, 5, 7, 9, 14, 15, 16, 20, 21, 22, 26, 27, 28], [0, 5, 7, 14, 15, 16, 20, 21, 22], [0, 5, 14, 15, 16], [4]] = some (c_impl_differenceTable, [.tmp 4], 51) := by kernel_rfl


/-- A call that returns a new list. -/
def NewL (P : Program) (f : FuncId) (args : List AV) (xs : List Int) : Prop :=
  ∀ H, ACalls P f args H fun r H' => ∃ ext, H' = H ++ ext ∧ OwnS H' (Btw H.length H'.length) H'.length r xs

theorem NewL.lend {P : Program} {f : FuncId} {args args' : List AV} {xs : List Int} (h : NewL P f args' xs) {H : List Blk} (hf : Frozs H args args') : ACalls P f args H fun r H' => ∃ ext, H' = H ++ ext ∧ OwnS H' (Btw H.length H'.length) H'.length r xs := by
  refine ((h []).lend hf ?_).mono ?_
  · rintro r H0 ⟨ext, rfl, ho⟩
    exact ho.ov
  · rintro r H' ⟨r0, H0, ⟨ext, rfl, ho⟩, rfl, rfl⟩
    refine ⟨_, rfl, ?_⟩
    have h2 := ho.sh (H := H) (N' := Btw H.length (H ++ H0.map (shB H.length)).length) (fun i hi => by
      unfold Btw at hi ⊢
      simp at hi ⊢; omega)
    have e : H.length + H0.length = (H ++ H0.map (shB H.length)).length := by simp
    rw [e] at h2
    exact h2
theorem NewL.lendf {P : Program} {f : FuncId} {args args' : List AV} {xs : List Int} (h : NewL P f args' xs) {H : List Blk} (hf : Frozs H args args') : ACalls P f args H fun r H' => r = ilS xs ∧ H' = H := by
  refine (h.lend hf).gr ?_
  rintro r H' ⟨ext, rfl, ho⟩
  exact GR.froz (ho.froz (fun i hi => hi.1)) ⟨rfl, rfl⟩
theorem NewL.lendq {P : Program} {f : FuncId} {args args' : List AV} {xs : List Int} (h : NewL P f args' xs) {H : List Blk} (hf : Frozs H args args') : AFn P f args H (ilS xs) := fun ext => h.lendf (hf.append ext)
theorem NewL.pfn {P : Program} {f : FuncId} {args : List AV} {xs : List Int} (h : NewL P f args xs) : PFn P f args (ilS xs) := by
  intro H
  refine (h H).gr ?_
  rintro r H' ⟨ext, rfl, ho⟩
  exact GR.froz (ho.froz (fun i hi => hi.1)) ⟨rfl, rfl⟩
theorem newL_of {H : List Blk} {k ver ty : Nat} {xs : List Int} {ext : List Blk} (hk : H.length ≤ k) (hr : (H ++ ext)[k]? = some ⟨ver, ty, 1, xs.map I⟩) : ∃ ext', H ++ ext = H ++ ext' ∧ OwnS (H ++ ext) (Btw H.length (H ++ ext).length) (H ++ ext).length (.nm k ver 0 xs.length) xs := by
  have := (List.getElem?_eq_some_iff.1 hr).1
  exact ⟨ext, rfl, .inl ⟨k, ver, ty, rfl, ⟨hk, this⟩, by omega, hr⟩⟩

def da (n a : Int) (l : List Int) : List Int := (l.filter fun b => decide (b ≠ a)).map fun b => (a - b + n).tmod n
def dl (n : Int) (set l : List Int) : List Int := l.flatMap fun a => da n a set
theorem da_snoc (n a : Int) (l : List Int) (b : Int) : da n a (l ++ [b]) = da n a l ++ (if b = a then [] else [(a - b + n).tmod n]) := by
  unfold da; rw [List.filter_append]; by_cases h : b = a <;> simp [h]
theorem dl_snoc (n : Int) (set l : List Int) (a : Int) : dl n set (l ++ [a]) = dl n set l ++ da n a set := by simp [dl]
theorem da_len (n a : Int) (l : List Int) : (da n a l).length ≤ l.length := by
  unfold da; rw [List.length_map]; exact List.length_filter_le _ _
theorem dl_len (n : Int) (set l : List Int) : (dl n set l).length ≤ l.length * set.length := by
  induction l with
  | nil => simp [dl]
  | cons a l ih =>
    have := da_len n a set
    simp only [dl, List.flatMap_cons, List.length_append, List.length_cons, Nat.succ_mul] at ih ⊢
    omega
theorem diff_range {n : Nat} {a b : Int} (ha : 0 ≤ a ∧ a < n) (hb : 0 ≤ b ∧ b < n) : 0 ≤ (a - b + n).tmod n ∧ (a - b + n).tmod n < n := by
  rw [Int.tmod_eq_emod_of_nonneg (by omega)]
  exact ⟨Int.emod_nonneg _ (by omega), Int.emod_lt_of_pos _ (by omega)⟩
theorem diff_ne {n : Nat} {a b : Int} (ha : 0 ≤ a ∧ a < n) (hb : 0 ≤ b ∧ b < n) (h : b ≠ a) : (a - b + n).tmod n ≠ 0 := by
  rw [Int.tmod_eq_emod_of_nonneg (by omega)]
  intro h0
  rcases Int.lt_or_gt_of_ne h with h1 | h1
  · have : (a - b + n) % n = (a - b) := by
      rw [Int.add_emod_right, Int.emod_eq_of_lt (by omega) (by omega)]
    omega
  · rw [Int.emod_eq_of_lt (by omega) (by omega)] at h0
    omega

theorem differenceTable_new (n : Nat) (set : List Int) (hn : 1 ≤ n ∧ n ≤ 1000) (hs : ∀ x ∈ set, 0 ≤ x ∧ x < n) (hl : set.length ≤ 1000) : NewL Try.prog f_impl_differenceTable [I n, ilSS [set]] (counts n (dl n set set)) := by
  intro H
  refine ACalls.introB s_impl_differenceTable (by simp) ?_; intro hB hA; unfold c_impl_differenceTable; simp (config := { maxSteps := 1000000 }) (disch := (first | omega | (simp only [go_sem]; try omega))) only [go_sem, ↓GSplit_t, ↓GSplit_f, ↓GSplit_tf, ↓GSplit_ft, Nat.reduceAdd, Nat.reduceEqDiff, Nat.reduceLeDiff, Nat.reduceMul, Nat.reduceLT, reduceIte, Int.reduceToNat, bne_self_eq_false, beq_self_eq_true, w64_id, cast_succ, Bool.false_eq_true, Bool.and_true, Bool.true_and, Bool.and_false, Bool.false_and, Bool.not_not]
  repeat (first | (with_reducible refine SW.seq ?_) | (with_reducible refine SW.block ?_) | (with_reducible refine SW.rowC ?_) | (with_reducible refine SW.skip ?_) | (with_reducible refine SW.exit ?_) | (with_reducible intro _) | (with_reducible refine And.intro (by omega) ?_) | (simp (config := { maxSteps := 1000000 }) (disch := (first | omega | (simp only [go_sem]; try omega))) only [go_sem, ↓GSplit_t, ↓GSplit_f, ↓GSplit_tf, ↓GSplit_ft, Nat.reduceAdd, Nat.reduceEqDiff, Nat.reduceLeDiff, Nat.reduceMul, Nat.reduceLT, reduceIte, Int.reduceToNat, bne_self_eq_false, beq_self_eq_true, w64_id, cast_succ, Bool.false_eq_true, Bool.and_true, Bool.true_and, Bool.and_false, Bool.false_and, Bool.not_not]))
  rw [counts_nil]
  refine SW.loopE (fun E0 H0 q E' H' => ∃ i : Nat, i ≤ 1 ∧ q = 1 - i ∧ E' = aput E0 16 (I i) ∧ H' = H ++ [⟨0, 2, 1, (counts n (if i = 0 then [] else dl n set set)).map I⟩]) 1 ⟨0, by omega, by omega, rfl, rfl⟩ ?_
  rintro q E' H' ⟨i, hi, rfl, rfl, rfl⟩
  simp (config := { maxSteps := 1000000 }) (disch := (first | omega | (simp only [go_sem]; try omega))) only [go_sem, ↓GSplit_t, ↓GSplit_f, ↓GSplit_tf, ↓GSplit_ft, Nat.reduceAdd, Nat.reduceEqDiff, Nat.reduceLeDiff, Nat.reduceMul, Nat.reduceLT, reduceIte, Int.reduceToNat, bne_self_eq_false, beq_self_eq_true, w64_id, cast_succ, Bool.false_eq_true, Bool.and_true, Bool.true_and, Bool.and_false, Bool.false_and, Bool.not_not]
  repeat (first | (with_reducible refine SW.seq ?_) | (with_reducible refine SW.block ?_) | (with_reducible refine SW.rowC ?_) | (with_reducible refine SW.skip ?_) | (with_reducible refine SW.exit ?_) | (with_reducible intro _) | (with_reducible refine And.intro (by omega) ?_) | (simp (config := { maxSteps := 1000000 }) (disch := (first | omega | (simp only [go_sem]; try omega))) only [go_sem, ↓GSplit_t, ↓GSplit_f, ↓GSplit_tf, ↓GSplit_ft, Nat.reduceAdd, Nat.reduceEqDiff, Nat.reduceLeDiff, Nat.reduceMul, Nat.reduceLT, reduceIte, Int.reduceToNat, bne_self_eq_false, beq_self_eq_true, w64_id, cast_succ, Bool.false_eq_true, Bool.and_true, Bool.true_and, Bool.and_false, Bool.false_and, Bool.not_not]))
  (first | refine SW.condD rfl (fun h => ?_) (fun h => ?_) | refine SW.condN rfl (fun h => ?_) (fun h => ?_) | refine SW.condNB rfl (fun h => ?_) (fun h => ?_) | refine SW.condB rfl (fun h => ?_) (fun h => ?_))
  · have : i = 0 := by omega
    subst this
    rw [if_pos rfl]
    repeat (first | (with_reducible refine SW.seq ?_) | (with_reducible refine SW.block ?_) | (with_reducible refine SW.rowC ?_) | (with_reducible refine SW.skip ?_) | (with_reducible refine SW.exit ?_) | (with_reducible intro _) | (with_reducible refine And.intro (by omega) ?_) | (simp (config := { maxSteps := 1000000 }) (disch := (first | omega | (simp only [go_sem]; try omega))) only [go_sem, ↓GSplit_t, ↓GSplit_f, ↓GSplit_tf, ↓GSplit_ft, Nat.reduceAdd, Nat.reduceEqDiff, Nat.reduceLeDiff, Nat.reduceMul, Nat.reduceLT, reduceIte, Int.reduceToNat, bne_self_eq_false, beq_self_eq_true, w64_id, cast_succ, Bool.false_eq_true, Bool.and_true, Bool.true_and, Bool.and_false, Bool.false_and, Bool.not_not, List.getD_cons_zero]))
    refine SW.loopE (fun E0 H0 q E' H' => ∃ (pre post : List Int), set = pre ++ post ∧ q = post.length ∧ E' = aput E0 22 (I pre.length) ∧ H' = H ++ [⟨0, 2, 1, (counts n (dl n set pre)).map I⟩]) set.length ⟨[], set, rfl, rfl, rfl, rfl⟩ ?_
    rintro q E' H' ⟨pre, post, hp, rfl, rfl, rfl⟩
    simp (config := { maxSteps := 1000000 }) (disch := (first | omega | (simp only [go_sem]; try omega))) only [go_sem, ↓GSplit_t, ↓GSplit_f, ↓GSplit_tf, ↓GSplit_ft, Nat.reduceAdd, Nat.reduceEqDiff, Nat.reduceLeDiff, Nat.reduceMul, Nat.reduceLT, reduceIte, Int.reduceToNat, bne_self_eq_false, beq_self_eq_true, w64_id, cast_succ, Bool.false_eq_true, Bool.and_true, Bool.true_and, Bool.and_false, Bool.false_and, Bool.not_not]
    repeat (first | (with_reducible refine SW.seq ?_) | (with_reducible refine SW.block ?_) | (with_reducible refine SW.rowC ?_) | (with_reducible refine SW.skip ?_) | (with_reducible refine SW.exit ?_) | (with_reducible intro _) | (with_reducible refine And.intro (by omega) ?_) | (simp (config := { maxSteps := 1000000 }) (disch := (first | omega | (simp only [go_sem]; try omega))) only [go_sem, ↓GSplit_t, ↓GSplit_f, ↓GSplit_tf, ↓GSplit_ft, Nat.reduceAdd, Nat.reduceEqDiff, Nat.reduceLeDiff, Nat.reduceMul, Nat.reduceLT, reduceIte, Int.reduceToNat, bne_self_eq_false, beq_self_eq_true, w64_id, cast_succ, Bool.false_eq_true, Bool.and_true, Bool.true_and, Bool.and_false, Bool.false_and, Bool.not_not]))
    (first | refine SW.condD rfl (fun h2 => ?_) (fun h2 => ?_) | refine SW.condN rfl (fun h2 => ?_) (fun h2 => ?_) | refine SW.condNB rfl (fun h2 => ?_) (fun h2 => ?_) | refine SW.condB rfl (fun h2 => ?_) (fun h2 => ?_))
    · cases post with
      | nil => exfalso; simp at hp; subst hp; omega
      | cons a post =>
        have hg : set.getD pre.length 0 = a := by subst hp; simp
        have ha := hs a (by subst hp; simp)
        have hdl := dl_len n set pre
        have hmul : pre.length * set.length ≤ 1000 * 1000 := Nat.mul_le_mul (by omega) hl
        repeat (first | (with_reducible refine SW.seq ?_) | (with_reducible refine SW.block ?_) | (with_reducible refine SW.rowC ?_) | (with_reducible refine SW.skip ?_) | (with_reducible refine SW.exit ?_) | (with_reducible intro _) | (with_reducible refine And.intro (by omega) ?_) | (simp (config := { maxSteps := 1000000 }) (disch := (first | omega | (simp only [go_sem]; try omega))) only [go_sem, ↓GSplit_t, ↓GSplit_f, ↓GSplit_tf, ↓GSplit_ft, Nat.reduceAdd, Nat.reduceEqDiff, Nat.reduceLeDiff, Nat.reduceMul, Nat.reduceLT, reduceIte, Int.reduceToNat, bne_self_eq_false, beq_self_eq_true, w64_id, cast_succ, Bool.false_eq_true, Bool.and_true, Bool.true_and, Bool.and_false, Bool.false_and, Bool.not_not, hg]))
        refine SW.loopE (fun E0 H0 q E' H' => ∃ (pr po : List Int), set = pr ++ po ∧ q = po.length ∧ E' = aput E0 28 (I pr.length) ∧ H' = H ++ [⟨0, 2, 1, (counts n (dl n set pre ++ da n a pr)).map I⟩]) set.length ⟨[], set, rfl, rfl, rfl, by simp [da]⟩ ?_
        rintro q E' H' ⟨pr, po, hpx, rfl, rfl, rfl⟩
        simp (config := { maxSteps := 1000000 }) (disch := (first | omega | (simp only [go_sem]; try omega))) only [go_sem, ↓GSplit_t, ↓GSplit_f, ↓GSplit_tf, ↓GSplit_ft, Nat.reduceAdd, Nat.reduceEqDiff, Nat.reduceLeDiff, Nat.reduceMul, Nat.reduceLT, reduceIte, Int.reduceToNat, bne_self_eq_false, beq_self_eq_true, w64_id, cast_succ, Bool.false_eq_true, Bool.and_true, Bool.true_and, Bool.and_false, Bool.false_and, Bool.not_not]
        repeat (first | (with_reducible refine SW.seq ?_) | (with_reducible refine SW.block ?_) | (with_reducible refine SW.rowC ?_) | (with_reducible refine SW.skip ?_) | (with_reducible refine SW.exit ?_) | (with_reducible intro _) | (with_reducible refine And.intro (by omega) ?_) | (simp (config := { maxSteps := 1000000 }) (disch := (first | omega | (simp only [go_sem]; try omega))) only [go_sem, ↓GSplit_t, ↓GSplit_f, ↓GSplit_tf, ↓GSplit_ft, Nat.reduceAdd, Nat.reduceEqDiff, Nat.reduceLeDiff, Nat.reduceMul, Nat.reduceLT, reduceIte, Int.reduceToNat, bne_self_eq_false, beq_self_eq_true, w64_id, cast_succ, Bool.false_eq_true, Bool.and_true, Bool.true_and, Bool.and_false, Bool.false_and, Bool.not_not]))
        (first | refine SW.condD rfl (fun h3 => ?_) (fun h3 => ?_) | refine SW.condN rfl (fun h3 => ?_) (fun h3 => ?_) | refine SW.condNB rfl (fun h3 => ?_) (fun h3 => ?_) | refine SW.condB rfl (fun h3 => ?_) (fun h3 => ?_))
        · cases po with
          | nil => exfalso; simp at hpx; rw [hpx] at h3; omega
          | cons b po =>
            have hgb : set.getD pr.length 0 = b := by rw [hpx]; simp
            have hb := hs b (by rw [hpx]; simp)
            have hne : (n : Int) ≠ 0 := by omega
            have hprl : pr.length ≤ set.length := by omega
            have hda := da_len n a pr
            have hdr := diff_range ha hb
            have hll := counts_length n (dl n set pre ++ da n a pr)
            have htk : ((counts n (dl n set pre ++ da n a pr)).map I).take n = (counts n (dl n set pre ++ da n a pr)).map I := List.take_of_length_le (by simp [hll])
            have hcnt : (dl n set pre ++ da n a pr).count ((a - b + n).tmod n) ≤ 1001000 := by
              have h7 := List.count_le_length (a := (a - b + n).tmod n) (l := dl n set pre ++ da n a pr)
              rw [List.length_append] at h7
              omega
            repeat (first | (with_reducible refine SW.seq ?_) | (with_reducible refine SW.block ?_) | (with_reducible refine SW.rowC ?_) | (with_reducible refine SW.skip ?_) | (with_reducible refine SW.exit ?_) | (with_reducible intro _) | (with_reducible refine And.intro (by omega) ?_) | (simp (config := { maxSteps := 1000000 }) (disch := (first | omega | (simp only [go_sem]; try omega))) only [go_sem, ↓GSplit_t, ↓GSplit_f, ↓GSplit_tf, ↓GSplit_ft, Nat.reduceAdd, Nat.reduceEqDiff, Nat.reduceLeDiff, Nat.reduceMul, Nat.reduceLT, reduceIte, Int.reduceToNat, bne_self_eq_false, beq_self_eq_true, w64_id, cast_succ, Bool.false_eq_true, Bool.and_true, Bool.true_and, Bool.and_false, Bool.false_and, Bool.not_not, hgb]))
            (first | refine SW.condD rfl (fun h4 => ?_) (fun h4 => ?_) | refine SW.condN rfl (fun h4 => ?_) (fun h4 => ?_) | refine SW.condNB rfl (fun h4 => ?_) (fun h4 => ?_) | refine SW.condB rfl (fun h4 => ?_) (fun h4 => ?_))
            · have h4' : ¬ b = a := fun h => h4 h.symm
              repeat (first | (with_reducible refine SW.seq ?_) | (with_reducible refine SW.block ?_) | (with_reducible refine SW.rowC ?_) | (with_reducible refine SW.skip ?_) | (with_reducible refine SW.exit ?_) | (with_reducible intro _) | (with_reducible refine And.intro (by omega) ?_) | (simp (config := { maxSteps := 1000000 }) (disch := (first | omega | (simp only [go_sem]; try omega))) only [go_sem, ↓GSplit_t, ↓GSplit_f, ↓GSplit_tf, ↓GSplit_ft, Nat.reduceAdd, Nat.reduceEqDiff, Nat.reduceLeDiff, Nat.reduceMul, Nat.reduceLT, reduceIte, Int.reduceToNat, bne_self_eq_false, beq_self_eq_true, w64_id, cast_succ, Bool.false_eq_true, Bool.and_true, Bool.true_and, Bool.and_false, Bool.false_and, Bool.not_not, hgb, hne, htk, counts_get n _ _ hdr.1 hdr.2]))
              refine SLoop.next po.length (by simp) ⟨pr ++ [b], po, by simp [hpx], rfl, ?_, ?_⟩
              · simp [go_sem]
              · rw [counts_set n _ _ hdr.1, da_snoc, if_neg h4', List.append_assoc]
            · have h4' : b = a := by omega
              repeat (first | (with_reducible refine SW.seq ?_) | (with_reducible refine SW.block ?_) | (with_reducible refine SW.rowC ?_) | (with_reducible refine SW.skip ?_) | (with_reducible refine SW.exit ?_) | (with_reducible intro _) | (with_reducible refine And.intro (by omega) ?_) | (simp (config := { maxSteps := 1000000 }) (disch := (first | omega | (simp only [go_sem]; try omega))) only [go_sem, ↓GSplit_t, ↓GSplit_f, ↓GSplit_tf, ↓GSplit_ft, Nat.reduceAdd, Nat.reduceEqDiff, Nat.reduceLeDiff, Nat.reduceMul, Nat.reduceLT, reduceIte, Int.reduceToNat, bne_self_eq_false, beq_self_eq_true, w64_id, cast_succ, Bool.false_eq_true, Bool.and_true, Bool.true_and, Bool.and_false, Bool.false_and, Bool.not_not]))
              refine SLoop.next po.length (by simp) ⟨pr ++ [b], po, by simp [hpx], rfl, ?_, ?_⟩
              · simp [go_sem]
              · rw [da_snoc, if_pos h4', List.append_nil]
        · have : po = [] := by cases po with
            | nil => rfl
            | cons y po => exfalso; rw [hpx] at h3; simp at h3; omega
          subst this
          rw [List.append_nil] at hpx
          subst hpx
          repeat (first | (with_reducible refine SW.seq ?_) | (with_reducible refine SW.block ?_) | (with_reducible refine SW.rowC ?_) | (with_reducible refine SW.skip ?_) | (with_reducible refine SW.exit ?_) | (with_reducible intro _) | (with_reducible refine And.intro (by omega) ?_) | (simp (config := { maxSteps := 1000000 }) (disch := (first | omega | (simp only [go_sem]; try omega))) only [go_sem, ↓GSplit_t, ↓GSplit_f, ↓GSplit_tf, ↓GSplit_ft, Nat.reduceAdd, Nat.reduceEqDiff, Nat.reduceLeDiff, Nat.reduceMul, Nat.reduceLT, reduceIte, Int.reduceToNat, bne_self_eq_false, beq_self_eq_true, w64_id, cast_succ, Bool.false_eq_true, Bool.and_true, Bool.true_and, Bool.and_false, Bool.false_and, Bool.not_not]))
          refine SLoop.next post.length (by simp) ⟨pre ++ [a], post, by simp [hp], rfl, ?_, ?_⟩
          · simp [go_sem]
          · rw [dl_snoc]
    · have : post = [] := by cases post with
        | nil => rfl
        | cons x post => exfalso; subst hp; simp at h2; omega
      subst this
      rw [List.append_nil] at hp
      subst hp
      repeat (first | (with_reducible refine SW.seq ?_) | (with_reducible refine SW.block ?_) | (with_reducible refine SW.rowC ?_) | (with_reducible refine SW.skip ?_) | (with_reducible refine SW.exit ?_) | (with_reducible intro _) | (with_reducible refine And.intro (by omega) ?_) | (simp (config := { maxSteps := 1000000 }) (disch := (first | omega | (simp only [go_sem]; try omega))) only [go_sem, ↓GSplit_t, ↓GSplit_f, ↓GSplit_tf, ↓GSplit_ft, Nat.reduceAdd, Nat.reduceEqDiff, Nat.reduceLeDiff, Nat.reduceMul, Nat.reduceLT, reduceIte, Int.reduceToNat, bne_self_eq_false, beq_self_eq_true, w64_id, cast_succ, Bool.false_eq_true, Bool.and_true, Bool.true_and, Bool.and_false, Bool.false_and, Bool.not_not]))
      refine SLoop.next 0 (by omega) ⟨1, by omega, by omega, ?_, ?_⟩
      · simp [go_sem]
      · rw [if_neg (by omega)]
  · have : i = 1 := by omega
    subst this
    rw [if_neg (by omega)]
    repeat (first | (with_reducible refine SW.seq ?_) | (with_reducible refine SW.block ?_) | (with_reducible refine SW.rowC ?_) | (with_reducible refine SW.skip ?_) | (with_reducible refine SW.exit ?_) | (with_reducible intro _) | (with_reducible refine And.intro (by omega) ?_) | (simp (config := { maxSteps := 1000000 }) (disch := (first | omega | (simp only [go_sem]; try omega))) only [go_sem, ↓GSplit_t, ↓GSplit_f, ↓GSplit_tf, ↓GSplit_ft, Nat.reduceAdd, Nat.reduceEqDiff, Nat.reduceLeDiff, Nat.reduceMul, Nat.reduceLT, reduceIte, Int.reduceToNat, bne_self_eq_false, beq_self_eq_true, w64_id, cast_succ, Bool.false_eq_true, Bool.and_true, Bool.true_and, Bool.and_false, Bool.false_and, Bool.not_not]))
    refine SW.ret ?_; (try simp only [go_sem]); (first | refine FunPost.one ?_ | refine FunPost.two ?_ | refine FunPost.three ?_); (try simp (config := { maxSteps := 1000000 }) (disch := (first | omega | (simp only [go_sem]; try omega))) only [go_sem, ↓GSplit_t, ↓GSplit_f, ↓GSplit_tf, ↓GSplit_ft, Nat.reduceAdd, Nat.reduceEqDiff, Nat.reduceLeDiff, Nat.reduceMul, Nat.reduceLT, reduceIte, Int.reduceToNat, bne_self_eq_false, beq_self_eq_true, w64_id, cast_succ, Bool.false_eq_true, Bool.and_true, Bool.true_and, Bool.and_false, Bool.false_and, Bool.not_not])
    refine GR.of ?_
    have h5 := newL_of (H := H) (k := H.length) (ver := 0) (ty := 2) (xs := counts n (dl n set set)) (ext := [⟨0, 2, 1, (counts n (dl n set set)).map I⟩]) (Nat.le_refl _) (by simp)
    rw [counts_length] at h5
    exact h5
end Go.Proofs.Ytmgbglekgigkmaa
