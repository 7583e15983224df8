/- Sets that a permutation keeps: counted by its cycles. -/
import Derived.Test.YtkifdjjnbplghaaProg
import Derived.KernelRfl
import Derived.Test.YtkifdjjnbplghaaW1
import Derived.Test.YtkifdjjnbplghaaT0
set_option linter.unusedSimpArgs false
set_option linter.unusedVariables false
set_option maxHeartbeats 4000000
set_option maxRecDepth 100000
namespace Go.Proofs.Ytkifdjjnbplghaa
open Go.Av

/-! The abstract code of functions, printed by program and tied to the program by the kernel. -/
/-- loop.example/g00920/spec.l25Fixed -/
abbrev f_spec_l25Fixed : Nat := 35
def c_spec_l25Fixed : SC :=
 .seq (.reg [
     ⟨(some 4), .mv (.const (.int .i64 0)), none⟩] [0, 1])
 (.seq (.reg [
     ⟨(some 10), .mv (.tmp 0), none⟩,
     ⟨(some 11), .call 59 [(.tmp 10)], none⟩,
     ⟨(some 5), .mv (.tmp 11), none⟩] [1, 5])
 (.seq (.reg [
     ⟨(some 12), .mv (.tmp 1), none⟩,
     ⟨(some 13), .bin .add (.tmp 12) (.const (.int .i64 1)), none⟩,
     ⟨(some 14), .mslice 2 8 (.int .i64 0) (.tmp 13) (.tmp 13), none⟩,
     ⟨(some 6), .mv (.tmp 14), none⟩] [1, 5, 6])
 (.seq (.reg [
     ⟨(some 15), .mv (.tmp 6), none⟩,
     ⟨(some 16), .iaddr 1 (.tmp 15) (.const (.int .i64 0)), none⟩,
     ⟨none, .store 1 (.tmp 16) (.const (.int .i64 1)), none⟩] [1, 5, 6])
 (.seq (.seq (.reg [
     ⟨(some 7), .mv (.const (.int .i64 0)), none⟩] [1, 5, 6, 7])
 (.block 0 (.loop [1, 5, 6, 7]
   (.seq (.seq (.reg [
       ⟨(some 17), .mv (.tmp 7), none⟩,
       ⟨(some 18), .mv (.tmp 5), none⟩,
       ⟨(some 19), .len (.tmp 18), none⟩,
       ⟨(some 20), .bin .lss (.tmp 17) (.tmp 19), none⟩] [1, 5, 6, 7, 20])
   (.cond (.tmp 20)
    (.skip)
    (.exit 0)))
   (.seq (.block 1 (.seq (.reg [
        ⟨(some 23), .mv (.tmp 5), none⟩,
        ⟨(some 24), .mv (.tmp 7), none⟩,
        ⟨(some 25), .iaddr 1 (.tmp 23) (.tmp 24), none⟩,
        ⟨(some 26), .load 1 false (.tmp 25), none⟩,
        ⟨(some 27), .len (.tmp 26), none⟩,
        ⟨(some 8), .mv (.tmp 27), none⟩] [1, 5, 6, 7, 8])
    (.seq (.reg [
        ⟨(some 28), .mv (.tmp 1), none⟩,
        ⟨(some 9), .mv (.tmp 28), none⟩] [1, 5, 6, 7, 8, 9])
    (.block 2 (.loop [1, 5, 6, 7, 8, 9]
      (.seq (.seq (.reg [
          ⟨(some 29), .mv (.tmp 9), none⟩,
          ⟨(some 30), .mv (.tmp 8), none⟩,
          ⟨(some 31), .bin .geq (.tmp 29) (.tmp 30), none⟩] [1, 5, 6, 7, 8, 9, 31])
      (.cond (.tmp 31)
       (.skip)
       (.exit 2)))
      (.seq (.block 3 (.reg [
           ⟨(some 34), .mv (.tmp 6), none⟩,
           ⟨(some 35), .mv (.tmp 9), none⟩,
           ⟨(some 36), .iaddr 1 (.tmp 34) (.tmp 35), none⟩,
           ⟨(some 37), .load 1 false (.tmp 36), none⟩,
           ⟨(some 38), .mv (.tmp 6), none⟩,
           ⟨(some 39), .mv (.tmp 9), none⟩,
           ⟨(some 40), .mv (.tmp 8), none⟩,
           ⟨(some 41), .bin .sub (.tmp 39) (.tmp 40), none⟩,
           ⟨(some 42), .iaddr 1 (.tmp 38) (.tmp 41), none⟩,
           ⟨(some 43), .load 1 false (.tmp 42), none⟩,
           ⟨(some 44), .bin .add (.tmp 37) (.tmp 43), none⟩,
           ⟨(some 45), .iaddr 1 (.tmp 34) (.tmp 35), none⟩,
           ⟨none, .store 1 (.tmp 45) (.tmp 44), none⟩] [1, 5, 6, 7, 8, 9]))
      (.reg [
          ⟨(some 32), .mv (.tmp 9), none⟩,
          ⟨(some 33), .bin .sub (.tmp 32) (.const (.int .i64 1)), none⟩,
          ⟨(some 9), .mv (.tmp 33), none⟩] [1, 5, 6, 7, 8, 9]))))))))
   (.reg [
       ⟨(some 21), .mv (.tmp 7), none⟩,
       ⟨(some 22), .bin .add (.tmp 21) (.const (.int .i64 1)), none⟩,
       ⟨(some 7), .mv (.tmp 22), none⟩] [1, 5, 6, 7]))))))
 (.seq (.reg [
     ⟨(some 46), .mv (.tmp 6), none⟩,
     ⟨(some 47), .mv (.tmp 1), none⟩,
     ⟨(some 48), .iaddr 1 (.tmp 46) (.tmp 47), none⟩,
     ⟨(some 49), .load 1 false (.tmp 48), none⟩,
     ⟨(some 4), .mv (.tmp 49), none⟩] [4])
 (.ret))))))
theorem s_spec_l25Fixed : stripF Try.prog 35 [[0, 1], [1, 5], [1, 5, 6], [1, 5, 6], [1, 5, 6, 7], [1, 5, 6, 7], [1, 5, 6, 7, 20], [1, 5, 6, 7, 8], [1, 5, 6, 7, 8, 9], [1, 5, 6, 7, 8, 9], [1, 5, 6, 7, 8, 9, 31], [1, 5, 6, 7, 8, 9], [1, 5, 6, 7, 8, 9], [1, 5, 6, 7], [4]] = some (c_spec_l25Fixed, [.tmp 4], 50) := by kernel_rfl

/-- loop.example/g00920/impl.fixedSets -/
abbrev f_impl_fixedSets : Nat := 38
def c_impl_fixedSets : SC :=
 .seq (.reg [
     ⟨(some 4), .mv (.const (.int .i64 0)), none⟩] [0, 1])
 (.seq (.reg [
     ⟨(some 9), .mv (.tmp 1), none⟩,
     ⟨(some 10), .bin .add (.tmp 9) (.const (.int .i64 1)), none⟩,
     ⟨(some 11), .mslice 2 8 (.int .i64 0) (.tmp 10) (.tmp 10), none⟩,
     ⟨(some 5), .mv (.tmp 11), none⟩] [0, 1, 5])
 (.seq (.reg [
     ⟨(some 12), .mv (.tmp 5), none⟩,
     ⟨(some 13), .iaddr 1 (.tmp 12) (.const (.int .i64 0)), none⟩,
     ⟨none, .store 1 (.tmp 13) (.const (.int .i64 1)), none⟩] [0, 1, 5])
 (.seq (.seq (.reg [
     ⟨(some 14), .mv (.tmp 0), none⟩,
     ⟨(some 15), .call 62 [(.tmp 14)], none⟩,
     ⟨(some 16), .len (.tmp 15), none⟩,
     ⟨(some 17), .mv (.const (.int .i64 0)), none⟩] [1, 5, 15, 16, 17])
 (.block 0 (.loop [1, 5, 15, 16, 17]
   (.seq (.reg [
       ⟨(some 18), .bin .lss (.tmp 17) (.tmp 16), none⟩] [1, 5, 15, 16, 17, 18])
   (.seq (.cond (.tmp 18)
    (.skip)
    (.exit 0))
   (.seq (.block 1 (.seq (.reg [
        ⟨(some 19), .iaddr 1 (.tmp 15) (.tmp 17), none⟩,
        ⟨(some 20), .load 1 false (.tmp 19), none⟩,
        ⟨(some 7), .mv (.tmp 20), none⟩] [1, 5, 7, 15, 16, 17])
    (.seq (.reg [
        ⟨(some 21), .mv (.tmp 1), none⟩,
        ⟨(some 8), .mv (.tmp 21), none⟩] [1, 5, 7, 8, 15, 16, 17])
    (.block 2 (.loop [1, 5, 7, 8, 15, 16, 17]
      (.seq (.seq (.reg [
          ⟨(some 22), .mv (.tmp 8), none⟩,
          ⟨(some 23), .mv (.tmp 7), none⟩,
          ⟨(some 24), .call 63 [(.tmp 23)], none⟩,
          ⟨(some 25), .bin .geq (.tmp 22) (.tmp 24), none⟩] [1, 5, 7, 8, 15, 16, 17, 25])
      (.cond (.tmp 25)
       (.skip)
       (.exit 2)))
      (.seq (.block 3 (.reg [
           ⟨(some 28), .mv (.tmp 5), none⟩,
           ⟨(some 29), .mv (.tmp 8), none⟩,
           ⟨(some 30), .iaddr 1 (.tmp 28) (.tmp 29), none⟩,
           ⟨(some 31), .load 1 false (.tmp 30), none⟩,
           ⟨(some 32), .mv (.tmp 5), none⟩,
           ⟨(some 33), .mv (.tmp 8), none⟩,
           ⟨(some 34), .mv (.tmp 7), none⟩,
           ⟨(some 35), .qcall 63 [(.tmp 34)], none⟩,
           ⟨(some 36), .bin .sub (.tmp 33) (.tmp 35), none⟩,
           ⟨(some 37), .iaddr 1 (.tmp 32) (.tmp 36), none⟩,
           ⟨(some 38), .load 1 false (.tmp 37), none⟩,
           ⟨(some 39), .bin .add (.tmp 31) (.tmp 38), none⟩,
           ⟨(some 40), .iaddr 1 (.tmp 28) (.tmp 29), none⟩,
           ⟨none, .store 1 (.tmp 40) (.tmp 39), none⟩] [1, 5, 7, 8, 15, 16, 17]))
      (.reg [
          ⟨(some 26), .mv (.tmp 8), none⟩,
          ⟨(some 27), .bin .sub (.tmp 26) (.const (.int .i64 1)), none⟩,
          ⟨(some 8), .mv (.tmp 27), none⟩] [1, 5, 7, 8, 15, 16, 17]))))))))
   (.reg [
       ⟨(some 41), .bin .add (.tmp 17) (.const (.int .i64 1)), none⟩,
       ⟨(some 17), .mv (.tmp 41), none⟩] [1, 5, 15, 16, 17])))))))
 (.seq (.reg [
     ⟨(some 42), .mv (.tmp 5), none⟩,
     ⟨(some 43), .mv (.tmp 1), none⟩,
     ⟨(some 44), .iaddr 1 (.tmp 42) (.tmp 43), none⟩,
     ⟨(some 45), .load 1 false (.tmp 44), none⟩,
     ⟨(some 4), .mv (.tmp 45), none⟩] [4])
 (.ret)))))
theorem s_impl_fixedSets : stripF Try.prog 38 [[0, 1], [0, 1, 5], [0, 1, 5], [1, 5, 15, 16, 17], [1, 5, 15, 16, 17], [1, 5, 15, 16, 17, 18], [1, 5, 7, 15, 16, 17], [1, 5, 7, 8, 15, 16, 17], [1, 5, 7, 8, 15, 16, 17], [1, 5, 7, 8, 15, 16, 17, 25], [1, 5, 7, 8, 15, 16, 17], [1, 5, 7, 8, 15, 16, 17], [1, 5, 15, 16, 17], [4]] = some (c_impl_fixedSets, [.tmp 4], 46) := by kernel_rfl


/-- One cycle of m points: places k, k-1, .. (j of them). -/
def wyL (m k : Nat) (w : List Int) : Nat → List Int
  | 0 => w
  | j + 1 => (wyL m k w j).set (k - j) ((wyL m k w j).getD (k - j) 0 + (wyL m k w j).getD (k - j - m) 0)
theorem wyL_len (m k : Nat) (w : List Int) : ∀ j, (wyL m k w j).length = w.length
  | 0 => rfl
  | j + 1 => by rw [wyL, List.length_set, wyL_len m k w j]
/-- All entries lie within. -/
def wIn (B : Int) (w : List Int) : Prop := ∀ i, 0 ≤ w.getD i 0 ∧ w.getD i 0 ≤ B
theorem getD_set (w : List Int) (a i : Nat) (v : Int) : (w.set a v).getD i 0 = if a = i ∧ a < w.length then v else w.getD i 0 := by
  rw [List.getD_eq_getElem?_getD, List.getElem?_set]
  by_cases h : a = i
  · subst h
    by_cases h2 : a < w.length
    · simp [h2]
    · simp [h2]
  · simp [h]
theorem wyL_in {m k : Nat} {w : List Int} {B : Int} (hw : wIn B w) : ∀ j, j ≤ k + 1 - m → wIn (2 * B) (wyL m k w j) ∧ ∀ i, i + j ≤ k → (wyL m k w j).getD i 0 = w.getD i 0
  | 0, _ => ⟨fun i => by have := hw i; rw [wyL]; omega, fun i _ => rfl⟩
  | j + 1, hj => by
    have ih := wyL_in (m := m) (k := k) hw j (by omega)
    rw [wyL]
    refine ⟨fun i => ?_, fun i hi => ?_⟩
    · rw [getD_set]
      split
      · rw [ih.2 (k - j) (by omega), ih.2 (k - j - m) (by omega)]
        have h1 := hw (k - j); have h2 := hw (k - j - m)
        omega
      · exact ih.1 i
    · rw [getD_set, if_neg (by omega)]
      exact ih.2 i (by omega)
/-- The numbers of unions of cycles, by points. -/
def fixW (k : Nat) (cs : List (List Int)) : List Int := cs.foldl (fun w c => wyL c.length k w (k + 1 - c.length)) ((List.replicate (k + 1) (0 : Int)).set 0 1)
theorem fixW_snoc (k : Nat) (cs : List (List Int)) (c : List Int) : fixW k (cs ++ [c]) = wyL c.length k (fixW k cs) (k + 1 - c.length) := by unfold fixW; rw [List.foldl_append]; rfl
theorem fixW_nil (k : Nat) : fixW k [] = (List.replicate (k + 1) (0 : Int)).set 0 1 := rfl
theorem fixW_len (k : Nat) (cs : List (List Int)) : (fixW k cs).length = k + 1 := by
  rw [← List.reverse_reverse cs]
  induction cs.reverse with
  | nil => simp [fixW]
  | cons c l ih => rw [List.reverse_cons, fixW_snoc, wyL_len, ih]
theorem fixW_in (k : Nat) (cs : List (List Int)) : wIn (2 ^ cs.length) (fixW k cs) := by
  rw [← List.reverse_reverse cs]
  induction cs.reverse with
  | nil =>
    intro i
    rw [List.reverse_nil, fixW_nil, getD_set]
    split
    · simp
    · rw [List.getD_eq_getElem?_getD, List.getElem?_replicate]
      split <;> simp
  | cons c l ih =>
    rw [List.reverse_cons, fixW_snoc]
    have := (wyL_in (m := c.length) (k := k) ih (k + 1 - c.length) (Nat.le_refl _)).1
    rw [List.length_append, List.length_singleton, Int.pow_succ]
    intro i
    have := this i
    omega
theorem pow32 {t : Nat} (h : t ≤ 32) : (2 : Int) ^ t ≤ 4294967296 := by
  have : (2 : Nat) ^ t ≤ 2 ^ 32 := Nat.pow_le_pow_right (by omega) h
  have h2 : ((2 ^ t : Nat) : Int) = (2 : Int) ^ t := by simp
  omega
theorem cyI_le (p : List Int) : ∀ (f : Nat) (c : List Int) (s : List Bool) (y : Int), (cyI f p c s y).1.length ≤ c.length + f
  | 0, _, _, _ => Nat.le_refl _
  | f + 1, c, s, y => by
    rw [cyI]; split
    · simp
    · have := cyI_le p f (c ++ [y]) (s.set y.toNat true) (pa p y)
      simp at this ⊢; omega
theorem cyL_row (p : List Int) (k : Nat) : ∀ c ∈ (cyL p k).1, c.length ≤ p.length := by
  induction k with
  | zero => rw [cyL_zero]; simp
  | succ k ih =>
    have hi := cyL_inv p k
    rw [cyL_succ]
    unfold cyS
    simp only
    split
    · exact ih
    · intro c hc
      rcases List.mem_append.1 hc with h | h
      · exact ih c h
      · rw [List.mem_singleton.1 h]
        have h1 := cyI_le p ((cyL p k).2.count false) [] (cyL p k).2 k
        have h2 := List.count_le_length (a := false) (l := (cyL p k).2)
        simp at h1; omega
def fxV (p : List Int) (k : Nat) : Int := (fixW k (cyL p p.length).1).getD k 0
theorem fxV_in {p : List Int} {k : Nat} (h : p.length ≤ 32) : 0 ≤ fxV p k ∧ fxV p k ≤ 4294967296 := by
  have h1 := fixW_in k (cyL p p.length).1 k
  have h2 := (cyL_inv p p.length).2
  have h3 := pow32 (t := (cyL p p.length).1.length) (by omega)
  unfold fxV; omega

theorem fixedSets_fn (n k : Nat) (p : List Int) (hn : n ≤ 32) (hk : k ≤ n) (hp : permOk n p) : PFn Try.prog f_impl_fixedSets [ilS p, I k] (I (fxV p k)) := by
  have hpl := hp.1
  have hcy := cyclesOf_fn n p hn hp
  have hinv := (cyL_inv p p.length).2
  have hrow := cyL_row p p.length
  unfold fxV
  rw [← hpl] at hcy
  generalize (cyL p p.length).1 = cs at *
  intro H; refine ACalls.introB s_impl_fixedSets (by simp) ?_; intro hB hA; unfold c_impl_fixedSets; simp (config := { maxSteps := 1000000 }) (disch := (first | omega | (simp only [go_sem]; try omega))) only [go_sem, Nat.reduceAdd, Nat.reduceEqDiff, Nat.reduceLeDiff, Nat.reduceMul, Nat.reduceLT, reduceIte, Int.reduceToNat, w64_id, cast_succ]
  have hpc : PcS H [⟨0, 2, 1, (List.replicate (k+1) (0:Int)).map I⟩] 0 0 0 [I 1] (some ⟨0, 2, 1, (List.replicate (k+1) (0:Int)).map I⟩) = some (H ++ [⟨0, 2, 1, (fixW k []).map I⟩]) := by
    unfold PcS
    simp only
    rw [if_pos ⟨trivial, by simp⟩, fixW_nil]
    simp [setMany]
  have hwl := fixW_len k
  have hwi := fixW_in k
  repeat (first | (with_reducible first | refine SW.seq ?_ | refine SW.block ?_ | refine SW.rowC ?_ | refine SW.skip ?_ | refine SW.exit ?_ | intro _ | refine And.intro (by omega) ?_) | simp (config := { maxSteps := 1000000 }) (disch := (first | omega | (simp only [go_sem]; try omega))) only [go_sem, Nat.reduceAdd, Nat.reduceEqDiff, Nat.reduceLeDiff, Nat.reduceMul, Nat.reduceLT, reduceIte, Int.reduceToNat, w64_id, cast_succ])
  rw [hpc]
  repeat (first | (with_reducible first | refine SW.seq ?_ | refine SW.block ?_ | refine SW.rowC ?_ | refine SW.skip ?_ | refine SW.exit ?_ | refine PFn.use (hcy) ?_ | refine PFn.useq (hcy) ?_ | intro _ | refine And.intro (by omega) ?_) | simp (config := { maxSteps := 1000000 }) (disch := (first | omega | (simp only [go_sem]; try omega))) only [go_sem, Nat.reduceAdd, Nat.reduceEqDiff, Nat.reduceLeDiff, Nat.reduceMul, Nat.reduceLT, reduceIte, Int.reduceToNat, w64_id, cast_succ])
  refine SW.loopE (fun E0 H0 q E' H' => ∃ pre post : List (List Int), cs = pre ++ post ∧ q = post.length ∧ E' = aput E0 17 (I pre.length) ∧ H' = H ++ [⟨0, 2, 1, (fixW k pre).map I⟩]) cs.length ⟨[], cs, rfl, rfl, rfl, rfl⟩ ?_
  rintro q E' H' ⟨pre, post, hpp, rfl, rfl, rfl⟩
  have hsn := fixW_snoc k pre
  replace hwl := hwl pre
  have hpl2 : pre.length ≤ 32 := by rw [hpp] at hinv; simp at hinv; omega
  have hp32 := pow32 hpl2
  replace hwi := hwi pre
  generalize hB0 : (2 : Int) ^ pre.length = B at *
  generalize hW : fixW k pre = w at *
  simp (config := { maxSteps := 1000000 }) (disch := (first | omega | (simp only [go_sem]; try omega))) only [go_sem, Nat.reduceAdd, Nat.reduceEqDiff, Nat.reduceLeDiff, Nat.reduceMul, Nat.reduceLT, reduceIte, Int.reduceToNat, w64_id, cast_succ]
  repeat (first | (with_reducible first | refine SW.seq ?_ | refine SW.block ?_ | refine SW.rowC ?_ | refine SW.skip ?_ | refine SW.exit ?_ | intro _ | refine And.intro (by omega) ?_) | simp (config := { maxSteps := 1000000 }) (disch := (first | omega | (simp only [go_sem]; try omega))) only [go_sem, Nat.reduceAdd, Nat.reduceEqDiff, Nat.reduceLeDiff, Nat.reduceMul, Nat.reduceLT, reduceIte, Int.reduceToNat, w64_id, cast_succ])
  (first | refine SW.condD rfl (fun h => ?_) (fun h => ?_) | refine SW.condN rfl (fun h => ?_) (fun h => ?_) | refine SW.condNB rfl (fun h => ?_) (fun h => ?_) | refine SW.condB rfl (fun h => ?_) (fun h => ?_))
  · cases post with
    | nil => exfalso; subst hpp; simp at h
    | cons c post =>
    have hgc : cs.getD pre.length [] = c := by subst hpp; simp
    have hcl := hrow c (by rw [hpp]; simp)
    replace hsn := hsn c
    have hwy := fun j => wyL_in (m := c.length) (k := k) hwi j
    have hwyl := wyL_len c.length k w
    repeat (first | (with_reducible first | refine SW.seq ?_ | refine SW.block ?_ | refine SW.rowC ?_ | refine SW.skip ?_ | refine SW.exit ?_ | intro _ | refine And.intro (by omega) ?_) | simp (config := { maxSteps := 1000000 }) (disch := (first | omega | (simp only [go_sem]; try omega))) only [go_sem, Nat.reduceAdd, Nat.reduceEqDiff, Nat.reduceLeDiff, Nat.reduceMul, Nat.reduceLT, reduceIte, Int.reduceToNat, w64_id, cast_succ, hgc])
    refine SW.loopE (fun E0 H0 q E' H' => ∃ j : Nat, j ≤ k + 1 - c.length ∧ q = k + 1 - c.length - j ∧ E' = aput E0 8 (I ((k : Int) - j)) ∧ H' = H ++ [⟨0, 2, 1, (wyL c.length k w j).map I⟩]) (k + 1 - c.length) ⟨0, by omega, by omega, by simp [go_sem], rfl⟩ ?_
    rintro q E' H' ⟨j, hj, rfl, rfl, rfl⟩
    have hs2 : wyL c.length k w (j + 1) = (wyL c.length k w j).set (k - j) ((wyL c.length k w j).getD (k - j) 0 + (wyL c.length k w j).getD (k - j - c.length) 0) := rfl
    have hy2 := hwy j hj
    replace hwyl := hwyl j
    generalize hV : wyL c.length k w j = v at *
    simp (config := { maxSteps := 1000000 }) (disch := (first | omega | (simp only [go_sem]; try omega))) only [go_sem, Nat.reduceAdd, Nat.reduceEqDiff, Nat.reduceLeDiff, Nat.reduceMul, Nat.reduceLT, reduceIte, Int.reduceToNat, w64_id, cast_succ]
    repeat (first | (with_reducible first | refine SW.seq ?_ | refine SW.block ?_ | refine SW.rowC ?_ | refine SW.skip ?_ | refine SW.exit ?_ | refine PFn.use (size_fn c) ?_ | refine PFn.useq (size_fn c) ?_ | intro _ | refine And.intro (by omega) ?_) | simp (config := { maxSteps := 1000000 }) (disch := (first | omega | (simp only [go_sem]; try omega))) only [go_sem, Nat.reduceAdd, Nat.reduceEqDiff, Nat.reduceLeDiff, Nat.reduceMul, Nat.reduceLT, reduceIte, Int.reduceToNat, w64_id, cast_succ])
    (first | refine SW.condD rfl (fun h2 => ?_) (fun h2 => ?_) | refine SW.condN rfl (fun h2 => ?_) (fun h2 => ?_) | refine SW.condNB rfl (fun h2 => ?_) (fun h2 => ?_) | refine SW.condB rfl (fun h2 => ?_) (fun h2 => ?_))
    · obtain ⟨a, ha⟩ : ∃ a : Nat, a = k - j := ⟨_, rfl⟩
      obtain ⟨b, hb⟩ : ∃ b : Nat, b = a - c.length := ⟨_, rfl⟩
      have ea : (k : Int) - (j : Int) = (a : Int) := by omega
      have eb : (a : Int) - (c.length : Int) = (b : Int) := by omega
      rw [← ha, ← hb] at hs2
      have hva := hy2.1 a
      have hvb := hy2.1 b
      have hal : a < v.length := by omega
      have hbl : b < v.length := by omega
      have htv : (v.map I).take (k + 1) = v.map I := List.take_of_length_le (by simp; omega)
      have ga : (v.map I)[a]? = some (I (v.getD a 0)) := getI hal
      have gb : (v.map I)[b]? = some (I (v.getD b 0)) := getI hbl
      rw [ea]
      repeat (first | (with_reducible first | refine SW.seq ?_ | refine SW.block ?_ | refine SW.rowC ?_ | refine SW.skip ?_ | refine SW.exit ?_ | refine PFn.use (size_fn c) ?_ | refine PFn.useq (size_fn c) ?_ | intro _ | refine And.intro (by omega) ?_) | simp (config := { maxSteps := 1000000 }) (disch := (first | omega | (simp only [go_sem]; try omega))) only [go_sem, Nat.reduceAdd, Nat.reduceEqDiff, Nat.reduceLeDiff, Nat.reduceMul, Nat.reduceLT, reduceIte, Int.reduceToNat, w64_id, cast_succ, eb, htv, ga, gb])
      refine SLoop.nextT 1 (k + 1 - c.length - (j + 1)) hB (by omega) (by omega) (by simp) ?_ ?_ ⟨j + 1, by omega, rfl, ?_, ?_⟩
      · (simp only [go_sem, Nat.reduceAdd, Nat.reduceEqDiff, reduceIte, go_sem, and_self, and_true, true_and, implies_true, List.take_succ_cons, List.take_zero, and_true, true_and]; try omega)
      · (simp only [go_sem, Nat.reduceAdd, Nat.reduceEqDiff, reduceIte, go_sem, and_self, and_true, true_and, implies_true, List.take_succ_cons, List.take_zero, and_true, true_and]; try omega)
      · rw [show (k : Int) - ((j + 1 : Nat) : Int) = (a : Int) - 1 by omega]; simp [go_sem]
      · rw [hs2]; simp
    · have hje : j = k + 1 - c.length := by omega
      repeat (first | (with_reducible first | refine SW.seq ?_ | refine SW.block ?_ | refine SW.rowC ?_ | refine SW.skip ?_ | refine SW.exit ?_ | intro _ | refine And.intro (by omega) ?_) | simp (config := { maxSteps := 1000000 }) (disch := (first | omega | (simp only [go_sem]; try omega))) only [go_sem, Nat.reduceAdd, Nat.reduceEqDiff, Nat.reduceLeDiff, Nat.reduceMul, Nat.reduceLT, reduceIte, Int.reduceToNat, w64_id, cast_succ])
      refine SLoop.next post.length (by simp) ⟨pre ++ [c], post, by simp [hpp], rfl, ?_, ?_⟩
      · simp [go_sem]
      · rw [hsn, ← hje, hV]
  · have : post = [] := by cases post with
      | nil => rfl
      | cons x post => exfalso; subst hpp; simp at h; omega
    subst this
    rw [List.append_nil] at hpp
    subst hpp
    have hkl : k < w.length := by omega
    have gk : (w.map I)[k]? = some (I (w.getD k 0)) := getI hkl
    have htw : (w.map I).take (k + 1) = w.map I := List.take_of_length_le (by simp; omega)
    repeat (first | (with_reducible first | refine SW.seq ?_ | refine SW.block ?_ | refine SW.rowC ?_ | refine SW.skip ?_ | refine SW.exit ?_ | intro _ | refine And.intro (by omega) ?_) | simp (config := { maxSteps := 1000000 }) (disch := (first | omega | (simp only [go_sem]; try omega))) only [go_sem, Nat.reduceAdd, Nat.reduceEqDiff, Nat.reduceLeDiff, Nat.reduceMul, Nat.reduceLT, reduceIte, Int.reduceToNat, w64_id, cast_succ, htw, gk])
    refine SW.ret ?_; (try simp only [go_sem]); (first | refine FunPost.one ?_ | refine FunPost.two ?_ | refine FunPost.three ?_); (try simp (config := { maxSteps := 1000000 }) (disch := (first | omega | (simp only [go_sem]; try omega))) only [go_sem, Nat.reduceAdd, Nat.reduceEqDiff, Nat.reduceLeDiff, Nat.reduceMul, Nat.reduceLT, reduceIte, Int.reduceToNat, w64_id, cast_succ]); (first | (with_reducible refine GR.drop ?_ ?_; (simp only [go_sem, and_self, and_true, true_and, implies_true, List.take_succ_cons, List.take_zero])) | refine GR.of ?_); refine ⟨?_, rfl⟩; (try with_reducible rfl)
    rw [hW]
theorem l25Fixed_fn (n k : Nat) (p : List Int) (hn : n ≤ 32) (hk : k ≤ n) (hp : permOk n p) : PFn Try.prog f_spec_l25Fixed [ilS p, I k] (I (fxV p k)) := by
  have hpl := hp.1
  have hcy := l04Cycles_fn n p hn hp
  have hinv := (cyL_inv p p.length).2
  have hrow := cyL_row p p.length
  unfold fxV
  rw [← hpl] at hcy
  generalize (cyL p p.length).1 = cs at *
  intro H; refine ACalls.introB s_spec_l25Fixed (by simp) ?_; intro hB hA; unfold c_spec_l25Fixed; simp (config := { maxSteps := 1000000 }) (disch := (first | omega | (simp only [go_sem]; try omega))) only [go_sem, Nat.reduceAdd, Nat.reduceEqDiff, Nat.reduceLeDiff, Nat.reduceMul, Nat.reduceLT, reduceIte, Int.reduceToNat, w64_id, cast_succ]
  have hpc : PcS H [⟨0, 2, 1, (List.replicate (k+1) (0:Int)).map I⟩] 0 0 0 [I 1] (some ⟨0, 2, 1, (List.replicate (k+1) (0:Int)).map I⟩) = some (H ++ [⟨0, 2, 1, (fixW k []).map I⟩]) := by
    unfold PcS
    simp only
    rw [if_pos ⟨trivial, by simp⟩, fixW_nil]
    simp [setMany]
  have hwl := fixW_len k
  have hwi := fixW_in k
  repeat (first | (with_reducible first | refine SW.seq ?_ | refine SW.block ?_ | refine SW.rowC ?_ | refine SW.skip ?_ | refine SW.exit ?_ | refine PFn.use (hcy) ?_ | refine PFn.useq (hcy) ?_ | intro _ | refine And.intro (by omega) ?_) | simp (config := { maxSteps := 1000000 }) (disch := (first | omega | (simp only [go_sem]; try omega))) only [go_sem, Nat.reduceAdd, Nat.reduceEqDiff, Nat.reduceLeDiff, Nat.reduceMul, Nat.reduceLT, reduceIte, Int.reduceToNat, w64_id, cast_succ])
  rw [hpc]
  repeat (first | (with_reducible first | refine SW.seq ?_ | refine SW.block ?_ | refine SW.rowC ?_ | refine SW.skip ?_ | refine SW.exit ?_ | intro _ | refine And.intro (by omega) ?_) | simp (config := { maxSteps := 1000000 }) (disch := (first | omega | (simp only [go_sem]; try omega))) only [go_sem, Nat.reduceAdd, Nat.reduceEqDiff, Nat.reduceLeDiff, Nat.reduceMul, Nat.reduceLT, reduceIte, Int.reduceToNat, w64_id, cast_succ])
  refine SW.loopE (fun E0 H0 q E' H' => ∃ pre post : List (List Int), cs = pre ++ post ∧ q = post.length ∧ E' = aput E0 7 (I pre.length) ∧ H' = H ++ [⟨0, 2, 1, (fixW k pre).map I⟩]) cs.length ⟨[], cs, rfl, rfl, rfl, rfl⟩ ?_
  rintro q E' H' ⟨pre, post, hpp, rfl, rfl, rfl⟩
  have hsn := fixW_snoc k pre
  replace hwl := hwl pre
  have hpl2 : pre.length ≤ 32 := by rw [hpp] at hinv; simp at hinv; omega
  have hp32 := pow32 hpl2
  replace hwi := hwi pre
  generalize hB0 : (2 : Int) ^ pre.length = B at *
  generalize hW : fixW k pre = w at *
  simp (config := { maxSteps := 1000000 }) (disch := (first | omega | (simp only [go_sem]; try omega))) only [go_sem, Nat.reduceAdd, Nat.reduceEqDiff, Nat.reduceLeDiff, Nat.reduceMul, Nat.reduceLT, reduceIte, Int.reduceToNat, w64_id, cast_succ]
  repeat (first | (with_reducible first | refine SW.seq ?_ | refine SW.block ?_ | refine SW.rowC ?_ | refine SW.skip ?_ | refine SW.exit ?_ | intro _ | refine And.intro (by omega) ?_) | simp (config := { maxSteps := 1000000 }) (disch := (first | omega | (simp only [go_sem]; try omega))) only [go_sem, Nat.reduceAdd, Nat.reduceEqDiff, Nat.reduceLeDiff, Nat.reduceMul, Nat.reduceLT, reduceIte, Int.reduceToNat, w64_id, cast_succ])
  (first | refine SW.condD rfl (fun h => ?_) (fun h => ?_) | refine SW.condN rfl (fun h => ?_) (fun h => ?_) | refine SW.condNB rfl (fun h => ?_) (fun h => ?_) | refine SW.condB rfl (fun h => ?_) (fun h => ?_))
  · cases post with
    | nil => exfalso; subst hpp; simp at h
    | cons c post =>
    have hgc : cs.getD pre.length [] = c := by subst hpp; simp
    have hcl := hrow c (by rw [hpp]; simp)
    replace hsn := hsn c
    have hwy := fun j => wyL_in (m := c.length) (k := k) hwi j
    have hwyl := wyL_len c.length k w
    repeat (first | (with_reducible first | refine SW.seq ?_ | refine SW.block ?_ | refine SW.rowC ?_ | refine SW.skip ?_ | refine SW.exit ?_ | intro _ | refine And.intro (by omega) ?_) | simp (config := { maxSteps := 1000000 }) (disch := (first | omega | (simp only [go_sem]; try omega))) only [go_sem, Nat.reduceAdd, Nat.reduceEqDiff, Nat.reduceLeDiff, Nat.reduceMul, Nat.reduceLT, reduceIte, Int.reduceToNat, w64_id, cast_succ, hgc])
    refine SW.loopE (fun E0 H0 q E' H' => ∃ j : Nat, j ≤ k + 1 - c.length ∧ q = k + 1 - c.length - j ∧ E' = aput E0 9 (I ((k : Int) - j)) ∧ H' = H ++ [⟨0, 2, 1, (wyL c.length k w j).map I⟩]) (k + 1 - c.length) ⟨0, by omega, by omega, by simp [go_sem], rfl⟩ ?_
    rintro q E' H' ⟨j, hj, rfl, rfl, rfl⟩
    have hs2 : wyL c.length k w (j + 1) = (wyL c.length k w j).set (k - j) ((wyL c.length k w j).getD (k - j) 0 + (wyL c.length k w j).getD (k - j - c.length) 0) := rfl
    have hy2 := hwy j hj
    replace hwyl := hwyl j
    generalize hV : wyL c.length k w j = v at *
    simp (config := { maxSteps := 1000000 }) (disch := (first | omega | (simp only [go_sem]; try omega))) only [go_sem, Nat.reduceAdd, Nat.reduceEqDiff, Nat.reduceLeDiff, Nat.reduceMul, Nat.reduceLT, reduceIte, Int.reduceToNat, w64_id, cast_succ]
    repeat (first | (with_reducible first | refine SW.seq ?_ | refine SW.block ?_ | refine SW.rowC ?_ | refine SW.skip ?_ | refine SW.exit ?_ | refine PFn.use (size_fn c) ?_ | refine PFn.useq (size_fn c) ?_ | intro _ | refine And.intro (by omega) ?_) | simp (config := { maxSteps := 1000000 }) (disch := (first | omega | (simp only [go_sem]; try omega))) only [go_sem, Nat.reduceAdd, Nat.reduceEqDiff, Nat.reduceLeDiff, Nat.reduceMul, Nat.reduceLT, reduceIte, Int.reduceToNat, w64_id, cast_succ])
    (first | refine SW.condD rfl (fun h2 => ?_) (fun h2 => ?_) | refine SW.condN rfl (fun h2 => ?_) (fun h2 => ?_) | refine SW.condNB rfl (fun h2 => ?_) (fun h2 => ?_) | refine SW.condB rfl (fun h2 => ?_) (fun h2 => ?_))
    · obtain ⟨a, ha⟩ : ∃ a : Nat, a = k - j := ⟨_, rfl⟩
      obtain ⟨b, hb⟩ : ∃ b : Nat, b = a - c.length := ⟨_, rfl⟩
      have ea : (k : Int) - (j : Int) = (a : Int) := by omega
      have eb : (a : Int) - (c.length : Int) = (b : Int) := by omega
      rw [← ha, ← hb] at hs2
      have hva := hy2.1 a
      have hvb := hy2.1 b
      have hal : a < v.length := by omega
      have hbl : b < v.length := by omega
      have htv : (v.map I).take (k + 1) = v.map I := List.take_of_length_le (by simp; omega)
      have ga : (v.map I)[a]? = some (I (v.getD a 0)) := getI hal
      have gb : (v.map I)[b]? = some (I (v.getD b 0)) := getI hbl
      rw [ea]
      repeat (first | (with_reducible first | refine SW.seq ?_ | refine SW.block ?_ | refine SW.rowC ?_ | refine SW.skip ?_ | refine SW.exit ?_ | intro _ | refine And.intro (by omega) ?_) | simp (config := { maxSteps := 1000000 }) (disch := (first | omega | (simp only [go_sem]; try omega))) only [go_sem, Nat.reduceAdd, Nat.reduceEqDiff, Nat.reduceLeDiff, Nat.reduceMul, Nat.reduceLT, reduceIte, Int.reduceToNat, w64_id, cast_succ, eb, htv, ga, gb])
      refine SLoop.nextT 1 (k + 1 - c.length - (j + 1)) hB (by omega) (by omega) (by simp) ?_ ?_ ⟨j + 1, by omega, rfl, ?_, ?_⟩
      · (simp only [go_sem, Nat.reduceAdd, Nat.reduceEqDiff, reduceIte, go_sem, and_self, and_true, true_and, implies_true, List.take_succ_cons, List.take_zero, and_true, true_and]; try omega)
      · (simp only [go_sem, Nat.reduceAdd, Nat.reduceEqDiff, reduceIte, go_sem, and_self, and_true, true_and, implies_true, List.take_succ_cons, List.take_zero, and_true, true_and]; try omega)
      · rw [show (k : Int) - ((j + 1 : Nat) : Int) = (a : Int) - 1 by omega]; simp [go_sem]
      · rw [hs2]; simp
    · have hje : j = k + 1 - c.length := by omega
      repeat (first | (with_reducible first | refine SW.seq ?_ | refine SW.block ?_ | refine SW.rowC ?_ | refine SW.skip ?_ | refine SW.exit ?_ | intro _ | refine And.intro (by omega) ?_) | simp (config := { maxSteps := 1000000 }) (disch := (first | omega | (simp only [go_sem]; try omega))) only [go_sem, Nat.reduceAdd, Nat.reduceEqDiff, Nat.reduceLeDiff, Nat.reduceMul, Nat.reduceLT, reduceIte, Int.reduceToNat, w64_id, cast_succ])
      refine SLoop.next post.length (by simp) ⟨pre ++ [c], post, by simp [hpp], rfl, ?_, ?_⟩
      · simp [go_sem]
      · rw [hsn, ← hje, hV]
  · have : post = [] := by cases post with
      | nil => rfl
      | cons x post => exfalso; subst hpp; simp at h; omega
    subst this
    rw [List.append_nil] at hpp
    subst hpp
    have hkl : k < w.length := by omega
    have gk : (w.map I)[k]? = some (I (w.getD k 0)) := getI hkl
    have htw : (w.map I).take (k + 1) = w.map I := List.take_of_length_le (by simp; omega)
    repeat (first | (with_reducible first | refine SW.seq ?_ | refine SW.block ?_ | refine SW.rowC ?_ | refine SW.skip ?_ | refine SW.exit ?_ | intro _ | refine And.intro (by omega) ?_) | simp (config := { maxSteps := 1000000 }) (disch := (first | omega | (simp only [go_sem]; try omega))) only [go_sem, Nat.reduceAdd, Nat.reduceEqDiff, Nat.reduceLeDiff, Nat.reduceMul, Nat.reduceLT, reduceIte, Int.reduceToNat, w64_id, cast_succ, htw, gk])
    refine SW.ret ?_; (try simp only [go_sem]); (first | refine FunPost.one ?_ | refine FunPost.two ?_ | refine FunPost.three ?_); (try simp (config := { maxSteps := 1000000 }) (disch := (first | omega | (simp only [go_sem]; try omega))) only [go_sem, Nat.reduceAdd, Nat.reduceEqDiff, Nat.reduceLeDiff, Nat.reduceMul, Nat.reduceLT, reduceIte, Int.reduceToNat, w64_id, cast_succ]); (first | (with_reducible refine GR.drop ?_ ?_; (simp only [go_sem, and_self, and_true, true_and, implies_true, List.take_succ_cons, List.take_zero])) | refine GR.of ?_); refine ⟨?_, rfl⟩; (try with_reducible rfl)
    rw [hW]
end Go.Proofs.Ytkifdjjnbplghaa
