/- TripleCover. -/
import Derived.Test.YtnlfokkljgbaaaaProg
import Derived.KernelRfl
import Derived.Test.YtnlfokkljgbaaaazK8
import Derived.Test.YtnlfokkljgbaaaazL5
import Derived.Test.YtnlfokkljgbaaaazAv17
set_option linter.unusedSimpArgs false
set_option linter.unusedVariables false
set_option maxHeartbeats 4000000
set_option maxRecDepth 100000
namespace Go.Proofs.Ytnlfokkljgbaaaa
open Go.Av
abbrev f_spec_l24Triples : Nat := 46
def c_spec_l24Triples : SC :=
 .seq (.reg [
     ⟨(some 2), .alloc 34 [(.int .i64 0), (.slice none 0 0)], none⟩] [0, 2])
 (.seq (.reg [
     ⟨(some 7), .mv (.tmp 0), none⟩,
     ⟨(some 8), .mv (.tmp 0), none⟩,
     ⟨(some 9), .bin .sub (.tmp 8) (.const (.int .i64 1)), none⟩,
     ⟨(some 10), .bin .mul (.tmp 7) (.tmp 9), none⟩,
     ⟨(some 11), .bin .quo (.tmp 10) (.const (.int .i64 2)), none⟩,
     ⟨(some 12), .build [(.int .i64 0), (.slice none 0 0)] [(0, 1, (.tmp 11))], none⟩,
     ⟨(some 3), .alloc 34 [(.int .i64 0), (.slice none 0 0)], none⟩,
     ⟨none, .store 2 (.tmp 3) (.tmp 12), none⟩] [0, 2, 3])
 (.seq (.seq (.reg [
     ⟨(some 4), .mv (.const (.int .i64 0)), none⟩] [0, 2, 3, 4])
 (.block 0 (.loop [0, 2, 3, 4]
   (.seq (.seq (.reg [
       ⟨(some 13), .mv (.tmp 4), none⟩,
       ⟨(some 14), .mv (.tmp 0), none⟩,
       ⟨(some 15), .bin .lss (.tmp 13) (.tmp 14), none⟩] [0, 2, 3, 4, 15])
   (.cond (.tmp 15)
    (.skip)
    (.exit 0)))
   (.seq (.block 1 (.seq (.reg [
        ⟨(some 18), .mv (.tmp 4), none⟩,
        ⟨(some 19), .bin .add (.tmp 18) (.const (.int .i64 1)), none⟩,
        ⟨(some 5), .mv (.tmp 19), none⟩] [0, 2, 3, 4, 5])
    (.block 2 (.loop [0, 2, 3, 4, 5]
      (.seq (.seq (.reg [
          ⟨(some 20), .mv (.tmp 5), none⟩,
          ⟨(some 21), .mv (.tmp 0), none⟩,
          ⟨(some 22), .bin .lss (.tmp 20) (.tmp 21), none⟩] [0, 2, 3, 4, 5, 22])
      (.cond (.tmp 22)
       (.skip)
       (.exit 2)))
      (.seq (.block 3 (.seq (.reg [
           ⟨(some 25), .mv (.tmp 5), none⟩,
           ⟨(some 26), .bin .add (.tmp 25) (.const (.int .i64 1)), none⟩,
           ⟨(some 6), .mv (.tmp 26), none⟩] [0, 2, 3, 4, 5, 6])
       (.block 4 (.loop [0, 2, 3, 4, 5, 6]
         (.seq (.seq (.reg [
             ⟨(some 27), .mv (.tmp 6), none⟩,
             ⟨(some 28), .mv (.tmp 0), none⟩,
             ⟨(some 29), .bin .lss (.tmp 27) (.tmp 28), none⟩] [0, 2, 3, 4, 5, 6, 29])
         (.cond (.tmp 29)
          (.skip)
          (.exit 4)))
         (.seq (.block 5 (.reg [
              ⟨(some 32), .faddr 1 (.tmp 3), none⟩,
              ⟨(some 33), .load 1 false (.tmp 32), none⟩,
              ⟨(some 34), .mv (.tmp 0), none⟩,
              ⟨(some 35), .mv (.tmp 4), none⟩,
              ⟨(some 36), .mv (.tmp 5), none⟩,
              ⟨(some 37), .qcall 73 [(.tmp 34), (.tmp 35), (.tmp 36)], none⟩,
              ⟨(some 38), .mv (.tmp 0), none⟩,
              ⟨(some 39), .mv (.tmp 4), none⟩,
              ⟨(some 40), .mv (.tmp 6), none⟩,
              ⟨(some 41), .qcall 73 [(.tmp 38), (.tmp 39), (.tmp 40)], none⟩,
              ⟨(some 42), .mv (.tmp 0), none⟩,
              ⟨(some 43), .mv (.tmp 5), none⟩,
              ⟨(some 44), .mv (.tmp 6), none⟩,
              ⟨(some 45), .qcall 73 [(.tmp 42), (.tmp 43), (.tmp 44)], none⟩,
              ⟨(some 46), .bslice 2 1 3 [(.int .i64 0), (.int .i64 0), (.int .i64 0)] [(0, (.tmp 37)), (1, (.tmp 41)), (2, (.tmp 45))], none⟩,
              ⟨(some 47), .bslice 29 1 1 [(.slice none 0 0)] [(0, (.tmp 46))], none⟩,
              ⟨(some 48), .app 29 1 24 (.tmp 33) (.tmp 47), none⟩,
              ⟨(some 49), .faddr 1 (.tmp 3), none⟩,
              ⟨none, .store 1 (.tmp 49) (.tmp 48), none⟩] [0, 2, 3, 4, 5, 6]))
         (.reg [
             ⟨(some 30), .mv (.tmp 6), none⟩,
             ⟨(some 31), .bin .add (.tmp 30) (.const (.int .i64 1)), none⟩,
             ⟨(some 6), .mv (.tmp 31), none⟩] [0, 2, 3, 4, 5, 6])))))))
      (.reg [
          ⟨(some 23), .mv (.tmp 5), none⟩,
          ⟨(some 24), .bin .add (.tmp 23) (.const (.int .i64 1)), none⟩,
          ⟨(some 5), .mv (.tmp 24), none⟩] [0, 2, 3, 4, 5])))))))
   (.reg [
       ⟨(some 16), .mv (.tmp 4), none⟩,
       ⟨(some 17), .bin .add (.tmp 16) (.const (.int .i64 1)), none⟩,
       ⟨(some 4), .mv (.tmp 17), none⟩] [0, 2, 3, 4]))))))
 (.seq (.reg [
     ⟨(some 50), .load 2 true (.tmp 3), none⟩,
     ⟨none, .store 2 (.tmp 2) (.tmp 50), none⟩] [2])
 (.ret))))
theorem s_spec_l24Triples : stripF Try.prog 46 [[0, 2], [0, 2, 3], [0, 2, 3, 4], [0, 2, 3, 4], [0, 2, 3, 4, 15], [0, 2, 3, 4, 5], [0, 2, 3, 4, 5], [0, 2, 3, 4, 5, 22], [0, 2, 3, 4, 5, 6], [0, 2, 3, 4, 5, 6], [0, 2, 3, 4, 5, 6, 29], [0, 2, 3, 4, 5, 6], [0, 2, 3, 4, 5, 6], [0, 2, 3, 4, 5], [0, 2, 3, 4], [2]] = some (c_spec_l24Triples, [.cell 2 2], 51) := by kernel_rfl
abbrev f_spec_l24Pair : Nat := 73
def c_spec_l24Pair : SC :=
 .seq (.reg [
     ⟨(some 6), .mv (.const (.int .i64 0)), none⟩] [0, 1, 2])
 (.seq (.reg [
     ⟨(some 7), .mv (.tmp 1), none⟩,
     ⟨(some 8), .mv (.tmp 0), none⟩,
     ⟨(some 9), .bin .mul (.const (.int .i64 2)) (.tmp 8), none⟩,
     ⟨(some 10), .mv (.tmp 1), none⟩,
     ⟨(some 11), .bin .sub (.tmp 9) (.tmp 10), none⟩,
     ⟨(some 12), .bin .sub (.tmp 11) (.const (.int .i64 1)), none⟩,
     ⟨(some 13), .bin .mul (.tmp 7) (.tmp 12), none⟩,
     ⟨(some 14), .bin .quo (.tmp 13) (.const (.int .i64 2)), none⟩,
     ⟨(some 15), .mv (.tmp 2), none⟩,
     ⟨(some 16), .bin .add (.tmp 14) (.tmp 15), none⟩,
     ⟨(some 17), .mv (.tmp 1), none⟩,
     ⟨(some 18), .bin .sub (.tmp 16) (.tmp 17), none⟩,
     ⟨(some 19), .bin .sub (.tmp 18) (.const (.int .i64 1)), none⟩,
     ⟨(some 6), .mv (.tmp 19), none⟩] [6])
 (.ret))
theorem s_spec_l24Pair : stripF Try.prog 73 [[0, 1, 2], [6]] = some (c_spec_l24Pair, [.tmp 6], 20) := by kernel_rfl
theorem GrowSS.appX {H : List Blk} {base ty rty : Nat} {v : AV} {xss : List (List Int)} {xs : List Int} (h : GrowSS H base ty v xss) (hb : base ≤ H.length) (hl : (xss.length + 1) * 24 ≤ 140737488355328)
    {K : AV → List Blk → Prop} (hk : ∀ v' H', GrowSS H' base ty v' (xss ++ [xs]) → H.length ≤ H'.length → (∀ j, j < base → H'[j]? = H[j]?) → K v' H') :
    AppX ty 1 24 (H ++ [⟨0, rty, 1, xs.map I⟩, ⟨0, ty, 1, [.nm H.length 0 0 xs.length]⟩]) v K (some (1, [.nm H.length 0 0 xs.length])) := by
  have h2 := h.app (rty := rty) hb hl hk
  rw [swpApp_eq] at h2
  have e : aview (H ++ [⟨0, rty, 1, xs.map I⟩, ⟨0, ty, 1, [.nm H.length 0 0 xs.length]⟩]) (.nm (H.length + 1) 0 0 1) = some (1, [.nm H.length 0 0 xs.length]) := by
    simp only [aview_own]; rfl
  rw [e] at h2
  exact h2
def pairS (n a b : Int) : Int := w64 (w64 (w64 (w64 ((w64 (a * (2 * n - a - 1))).tdiv 2) + b) - a) - 1)
theorem l24Pair_fn (n a b : Int) (hn : 0 ≤ n ∧ n ≤ 32) (ha : 0 ≤ a ∧ a < n) (hb : 0 ≤ b ∧ b < n) : PFn Try.prog f_spec_l24Pair [I n, I a, I b] (I (pairS n a b)) := by
  intro H; refine ACalls.introB s_spec_l24Pair (by simp) ?_; intro hB hA; unfold c_spec_l24Pair; simp (config := { maxSteps := 1000000 }) (disch := (first | omega | (simp only [go_sem]; try omega))) only [go_sem, Nat.reduceAdd, Nat.reduceEqDiff, Nat.reduceLeDiff, Nat.reduceMul, Nat.reduceLT, reduceIte, Int.reduceToNat, w64_id, cast_succ]
  repeat (first | (with_reducible first | refine SW.seq ?_ | refine SW.block ?_ | refine SW.rowC ?_ | refine SW.skip ?_ | refine SW.exit ?_ | intro _ | refine And.intro (by omega) ?_) | simp (config := { maxSteps := 1000000 }) (disch := (first | omega | (simp only [go_sem]; try omega))) only [go_sem, Nat.reduceAdd, Nat.reduceEqDiff, Nat.reduceLeDiff, Nat.reduceMul, Nat.reduceLT, reduceIte, Int.reduceToNat, w64_id, cast_succ])
  refine SW.ret ?_; (try simp only [go_sem]); (first | refine FunPost.one ?_ | refine FunPost.two ?_ | refine FunPost.three ?_); (try simp (config := { maxSteps := 1000000 }) (disch := (first | omega | (simp only [go_sem]; try omega))) only [go_sem, Nat.reduceAdd, Nat.reduceEqDiff, Nat.reduceLeDiff, Nat.reduceMul, Nat.reduceLT, reduceIte, Int.reduceToNat, w64_id, cast_succ]); (first | (with_reducible refine GR.drop ?_ ?_; (simp only [go_sem, and_self, and_true, true_and, implies_true, List.take_succ_cons, List.take_zero])) | refine GR.of ?_); refine ⟨?_, rfl⟩; (try with_reducible rfl)
  rfl
def triS (n a b c : Nat) : List Int := [pairS n a b, pairS n a c, pairS n b c]
def tc (n a b c : Nat) : List (List Int) := ((List.range c).filter fun c => decide (b < c)).map fun c => triS n a b c
def tb (n a b : Nat) : List (List Int) := ((List.range b).filter fun b => decide (a < b)).flatMap fun b => tc n a b n
def ta (n a : Nat) : List (List Int) := (List.range a).flatMap fun a => tb n a n
theorem tc_zero (n a b : Nat) : tc n a b (b + 1) = [] := by
  unfold tc
  rw [List.filter_eq_nil_iff.2]
  · rfl
  · intro c hc; simp at hc ⊢; omega
theorem tc_succ (n a b c : Nat) (h : b < c) : tc n a b (c + 1) = tc n a b c ++ [triS n a b c] := by
  unfold tc; rw [List.range_succ, List.filter_append]; simp [h]
theorem tb_zero (n a : Nat) : tb n a (a + 1) = [] := by
  unfold tb
  rw [List.filter_eq_nil_iff.2]
  · rfl
  · intro c hc; simp at hc ⊢; omega
theorem tb_succ (n a b : Nat) (h : a < b) : tb n a (b + 1) = tb n a b ++ tc n a b n := by
  unfold tb; rw [List.range_succ, List.filter_append]; simp [h]
theorem ta_succ (n a : Nat) : ta n (a + 1) = ta n a ++ tb n a n := by
  unfold ta; rw [List.range_succ, List.flatMap_append]; simp
theorem tc_len (n a b c : Nat) : (tc n a b c).length ≤ c := by
  unfold tc; rw [List.length_map]; exact Nat.le_trans (List.length_filter_le _ _) (by simp)
theorem flen {α : Type} (l : List α) (f : α → List (List Int)) (m : Nat) (h : ∀ x ∈ l, (f x).length ≤ m) : (l.flatMap f).length ≤ l.length * m := by
  induction l with
  | nil => simp
  | cons x l ih =>
    simp only [List.flatMap_cons, List.length_append, List.length_cons, Nat.succ_mul]
    have := h x (by simp)
    have := ih (fun y hy => h y (by simp [hy]))
    omega
theorem tb_len (n a b : Nat) : (tb n a b).length ≤ b * n := by
  unfold tb
  refine Nat.le_trans (flen _ _ n (fun x _ => tc_len n a x n)) ?_
  exact Nat.mul_le_mul_right _ (Nat.le_trans (List.length_filter_le _ _) (by simp))
theorem ta_len (n a : Nat) : (ta n a).length ≤ a * (n * n) := by
  unfold ta
  refine Nat.le_trans (flen _ _ (n * n) (fun x _ => tb_len n x n)) ?_
  simp
theorem Bx.of {Hb H' : List Blk} {p : Nat} {hd : AV} {xss yss : List (List Int)} (h : Bx Hb p hd xss H') (e : xss = yss) : Bx Hb p hd yss H' := e ▸ h
theorem l24Triples_ok (H : List Blk) (n : Nat) (h0 : 3 ≤ n ∧ n ≤ 11) : ACalls Try.prog f_spec_l24Triples [I n] H (fun r H' => r = .agg [I (w64 ((w64 (n * (n - 1) : Int)).tdiv 2)), ilSS (ta n n)] ∧ H' = H) := by
  refine ACalls.introB s_spec_l24Triples (by simp) ?_; intro hB hA; unfold c_spec_l24Triples; simp (config := { maxSteps := 1000000 }) (disch := (first | omega | (simp only [go_sem]; try omega))) only [go_sem, Nat.reduceAdd, Nat.reduceEqDiff, Nat.reduceLeDiff, Nat.reduceMul, Nat.reduceLT, reduceIte, Int.reduceToNat, w64_id, cast_succ]
  repeat (first | (with_reducible first | refine SW.seq ?_ | refine SW.block ?_ | refine SW.rowC ?_ | refine SW.skip ?_ | refine SW.exit ?_ | intro _ | refine And.intro (by omega) ?_) | simp (config := { maxSteps := 1000000 }) (disch := (first | omega | (simp only [go_sem]; try omega))) only [go_sem, Nat.reduceAdd, Nat.reduceEqDiff, Nat.reduceLeDiff, Nat.reduceMul, Nat.reduceLT, reduceIte, Int.reduceToNat, w64_id, cast_succ])
  generalize hit : w64 ((w64 (n * (n - 1) : Int)).tdiv 2) = items
  refine SW.loopE (fun E0 H0 q E' H' => ∃ a : Nat, a ≤ n ∧ q = n - a ∧ E' = aput E0 4 (I a) ∧
    Bx (H ++ [⟨0, tyCover, 1, [I 0, nilS]⟩]) (H.length + 1) (I items) (ta n a) H') n ⟨0, by omega, by omega, rfl, nilS, by simp, .inl ⟨rfl, rfl⟩, by simp, fun j hj => ?_⟩ ?_
  · rw [show H ++ [(⟨0, tyCover, 1, [I 0, nilS]⟩ : Blk), ⟨0, tyCover, 1, [I items, nilS]⟩] = (H ++ [⟨0, tyCover, 1, [I 0, nilS]⟩]) ++ [(⟨0, tyCover, 1, [I items, nilS]⟩ : Blk)] by simp]
    rw [List.getElem?_append_left (by simp; omega)]
  rintro q E' H1 ⟨a, ha, rfl, rfl, hbx⟩
  simp (config := { maxSteps := 1000000 }) (disch := (first | omega | (simp only [go_sem]; try omega))) only [go_sem, Nat.reduceAdd, Nat.reduceEqDiff, Nat.reduceLeDiff, Nat.reduceMul, Nat.reduceLT, reduceIte, Int.reduceToNat, w64_id, cast_succ]
  repeat (first | (with_reducible first | refine SW.seq ?_ | refine SW.block ?_ | refine SW.rowC ?_ | refine SW.skip ?_ | refine SW.exit ?_ | intro _ | refine And.intro (by omega) ?_) | simp (config := { maxSteps := 1000000 }) (disch := (first | omega | (simp only [go_sem]; try omega))) only [go_sem, Nat.reduceAdd, Nat.reduceEqDiff, Nat.reduceLeDiff, Nat.reduceMul, Nat.reduceLT, reduceIte, Int.reduceToNat, w64_id, cast_succ])
  (first | refine SW.condD rfl (fun h => ?_) (fun h => ?_) | refine SW.condN rfl (fun h => ?_) (fun h => ?_) | refine SW.condNB rfl (fun h => ?_) (fun h => ?_) | refine SW.condB rfl (fun h => ?_) (fun h => ?_))
  · repeat (first | (with_reducible first | refine SW.seq ?_ | refine SW.block ?_ | refine SW.rowC ?_ | refine SW.skip ?_ | refine SW.exit ?_ | intro _ | refine And.intro (by omega) ?_) | simp (config := { maxSteps := 1000000 }) (disch := (first | omega | (simp only [go_sem]; try omega))) only [go_sem, Nat.reduceAdd, Nat.reduceEqDiff, Nat.reduceLeDiff, Nat.reduceMul, Nat.reduceLT, reduceIte, Int.reduceToNat, w64_id, cast_succ])
    refine SW.loopE (fun E0 H0 q E' H' => ∃ b : Nat, a < b ∧ b ≤ n ∧ q = n - b ∧ E' = aput E0 5 (I b) ∧
      Bx (H ++ [⟨0, tyCover, 1, [I 0, nilS]⟩]) (H.length + 1) (I items) (ta n a ++ tb n a b) H') (n - (a + 1)) ⟨a + 1, by omega, by omega, rfl, rfl, hbx.of (by rw [tb_zero, List.append_nil])⟩ ?_
    rintro q E' H2 ⟨b, hab, hb, rfl, rfl, hbx2⟩
    simp (config := { maxSteps := 1000000 }) (disch := (first | omega | (simp only [go_sem]; try omega))) only [go_sem, Nat.reduceAdd, Nat.reduceEqDiff, Nat.reduceLeDiff, Nat.reduceMul, Nat.reduceLT, reduceIte, Int.reduceToNat, w64_id, cast_succ]
    repeat (first | (with_reducible first | refine SW.seq ?_ | refine SW.block ?_ | refine SW.rowC ?_ | refine SW.skip ?_ | refine SW.exit ?_ | intro _ | refine And.intro (by omega) ?_) | simp (config := { maxSteps := 1000000 }) (disch := (first | omega | (simp only [go_sem]; try omega))) only [go_sem, Nat.reduceAdd, Nat.reduceEqDiff, Nat.reduceLeDiff, Nat.reduceMul, Nat.reduceLT, reduceIte, Int.reduceToNat, w64_id, cast_succ])
    (first | refine SW.condD rfl (fun h2 => ?_) (fun h2 => ?_) | refine SW.condN rfl (fun h2 => ?_) (fun h2 => ?_) | refine SW.condNB rfl (fun h2 => ?_) (fun h2 => ?_) | refine SW.condB rfl (fun h2 => ?_) (fun h2 => ?_))
    · repeat (first | (with_reducible first | refine SW.seq ?_ | refine SW.block ?_ | refine SW.rowC ?_ | refine SW.skip ?_ | refine SW.exit ?_ | intro _ | refine And.intro (by omega) ?_) | simp (config := { maxSteps := 1000000 }) (disch := (first | omega | (simp only [go_sem]; try omega))) only [go_sem, Nat.reduceAdd, Nat.reduceEqDiff, Nat.reduceLeDiff, Nat.reduceMul, Nat.reduceLT, reduceIte, Int.reduceToNat, w64_id, cast_succ])
      refine SW.loopE (fun E0 H0 q E' H' => ∃ c : Nat, b < c ∧ c ≤ n ∧ q = n - c ∧ E' = aput E0 6 (I c) ∧
        Bx (H ++ [⟨0, tyCover, 1, [I 0, nilS]⟩]) (H.length + 1) (I items) (ta n a ++ tb n a b ++ tc n a b c) H') (n - (b + 1)) ⟨b + 1, by omega, by omega, rfl, rfl, hbx2.of (by rw [tc_zero, List.append_nil])⟩ ?_
      rintro q E' H3 ⟨c, hbc, hc, rfl, rfl, v, b1, b2, b3, b4⟩
      simp (config := { maxSteps := 1000000 }) (disch := (first | omega | (simp only [go_sem]; try omega))) only [go_sem, Nat.reduceAdd, Nat.reduceEqDiff, Nat.reduceLeDiff, Nat.reduceMul, Nat.reduceLT, reduceIte, Int.reduceToNat, w64_id, cast_succ]
      repeat (first | (with_reducible first | refine SW.seq ?_ | refine SW.block ?_ | refine SW.rowC ?_ | refine SW.skip ?_ | refine SW.exit ?_ | intro _ | refine And.intro (by omega) ?_) | simp (config := { maxSteps := 1000000 }) (disch := (first | omega | (simp only [go_sem]; try omega))) only [go_sem, Nat.reduceAdd, Nat.reduceEqDiff, Nat.reduceLeDiff, Nat.reduceMul, Nat.reduceLT, reduceIte, Int.reduceToNat, w64_id, cast_succ])
      (first | refine SW.condD rfl (fun h3 => ?_) (fun h3 => ?_) | refine SW.condN rfl (fun h3 => ?_) (fun h3 => ?_) | refine SW.condNB rfl (fun h3 => ?_) (fun h3 => ?_) | refine SW.condB rfl (fun h3 => ?_) (fun h3 => ?_))
      · repeat (first | (with_reducible first | refine SW.seq ?_ | refine SW.block ?_ | refine SW.rowC ?_ | refine SW.skip ?_ | refine SW.exit ?_ | refine PFn.use (l24Pair_fn n a b (by omega) (by omega) (by omega)) ?_ | refine PFn.useq (l24Pair_fn n a b (by omega) (by omega) (by omega)) ?_ | refine PFn.use (l24Pair_fn n a c (by omega) (by omega) (by omega)) ?_ | refine PFn.useq (l24Pair_fn n a c (by omega) (by omega) (by omega)) ?_ | refine PFn.use (l24Pair_fn n b c (by omega) (by omega) (by omega)) ?_ | refine PFn.useq (l24Pair_fn n b c (by omega) (by omega) (by omega)) ?_ | intro _ | refine And.intro (by omega) ?_) | simp (config := { maxSteps := 1000000 }) (disch := (first | omega | (simp only [go_sem]; try omega))) only [go_sem, Nat.reduceAdd, Nat.reduceEqDiff, Nat.reduceLeDiff, Nat.reduceMul, Nat.reduceLT, reduceIte, Int.reduceToNat, w64_id, cast_succ, pc_alive b1, pc_ld b1])
        refine GrowSS.appX (xs := triS n a b c) b2 b3 ?_ ?_
        · have g1 := ta_len n a
          have g2 := tb_len n a b
          have g3 := tc_len n a b c
          have g4 : a * (n * n) ≤ 11 * (11 * 11) := Nat.mul_le_mul (by omega) (Nat.mul_le_mul h0.2 h0.2)
          have g5 : b * n ≤ 11 * 11 := Nat.mul_le_mul (by omega) h0.2
          rw [List.length_append, List.length_append]; omega
        intro v3 H4 d1 d2 d3
        have e1 : H4[H.length + 1]? = some ⟨0, tyCover, 1, [I items, v]⟩ := by rw [d3 _ (by omega)]; exact b1
        repeat (first | (with_reducible first | refine SW.seq ?_ | refine SW.block ?_ | refine SW.rowC ?_ | refine SW.skip ?_ | refine SW.exit ?_ | intro _ | refine And.intro (by omega) ?_) | simp (config := { maxSteps := 1000000 }) (disch := (first | omega | (simp only [go_sem]; try omega))) only [go_sem, Nat.reduceAdd, Nat.reduceEqDiff, Nat.reduceLeDiff, Nat.reduceMul, Nat.reduceLT, reduceIte, Int.reduceToNat, w64_id, cast_succ, pc_alive e1, pc_ld e1, d1.parts, d1.cell1])
        rw [pc_st e1 (by simp)]
        repeat (first | (with_reducible first | refine SW.seq ?_ | refine SW.block ?_ | refine SW.rowC ?_ | refine SW.skip ?_ | refine SW.exit ?_ | intro _ | refine And.intro (by omega) ?_) | simp (config := { maxSteps := 1000000 }) (disch := (first | omega | (simp only [go_sem]; try omega))) only [go_sem, Nat.reduceAdd, Nat.reduceEqDiff, Nat.reduceLeDiff, Nat.reduceMul, Nat.reduceLT, reduceIte, Int.reduceToNat, w64_id, cast_succ])
        refine SLoop.next (n - (c + 1)) (by omega) ⟨c + 1, by omega, by omega, rfl, ?_, ?_⟩
        · simp [go_sem]
        · rw [tc_succ _ _ _ _ hbc]
          simp only [List.append_assoc] at d1 ⊢
          exact Bx.put (v2 := v) d1 (by omega) (fun j hj => by rw [d3 j (by omega)]; exact b4 j hj)
      · have : c = n := by omega
        subst this
        repeat (first | (with_reducible first | refine SW.seq ?_ | refine SW.block ?_ | refine SW.rowC ?_ | refine SW.skip ?_ | refine SW.exit ?_ | intro _ | refine And.intro (by omega) ?_) | simp (config := { maxSteps := 1000000 }) (disch := (first | omega | (simp only [go_sem]; try omega))) only [go_sem, Nat.reduceAdd, Nat.reduceEqDiff, Nat.reduceLeDiff, Nat.reduceMul, Nat.reduceLT, reduceIte, Int.reduceToNat, w64_id, cast_succ])
        refine SLoop.next (c - (b + 1)) (by omega) ⟨b + 1, by omega, by omega, rfl, ?_, ?_⟩
        · simp [go_sem]
        · rw [tb_succ _ _ _ hab]; simp only [List.append_assoc] at b2 ⊢; exact ⟨v, b1, b2, b3, b4⟩
    · have : b = n := by omega
      subst this
      repeat (first | (with_reducible first | refine SW.seq ?_ | refine SW.block ?_ | refine SW.rowC ?_ | refine SW.skip ?_ | refine SW.exit ?_ | intro _ | refine And.intro (by omega) ?_) | simp (config := { maxSteps := 1000000 }) (disch := (first | omega | (simp only [go_sem]; try omega))) only [go_sem, Nat.reduceAdd, Nat.reduceEqDiff, Nat.reduceLeDiff, Nat.reduceMul, Nat.reduceLT, reduceIte, Int.reduceToNat, w64_id, cast_succ])
      refine SLoop.next (b - (a + 1)) (by omega) ⟨a + 1, by omega, rfl, ?_, ?_⟩
      · simp [go_sem]
      · rw [ta_succ]; exact hbx2
  · have : a = n := by omega
    subst this
    obtain ⟨v, b1, b2, b3, b4⟩ := hbx
    have b5 : H1[H.length]? = some ⟨0, tyCover, 1, [I 0, nilS]⟩ := by rw [b4 _ (by omega)]; simp
    repeat (first | (with_reducible first | refine SW.seq ?_ | refine SW.block ?_ | refine SW.rowC ?_ | refine SW.skip ?_ | refine SW.exit ?_ | intro _ | refine And.intro (by omega) ?_) | simp (config := { maxSteps := 1000000 }) (disch := (first | omega | (simp only [go_sem]; try omega))) only [go_sem, Nat.reduceAdd, Nat.reduceEqDiff, Nat.reduceLeDiff, Nat.reduceMul, Nat.reduceLT, reduceIte, Int.reduceToNat, w64_id, cast_succ, pc_alive b1, pc_lds b1, b2.cell1])
    rw [pc_st b5 (by simp)]
    repeat (first | (with_reducible first | refine SW.seq ?_ | refine SW.block ?_ | refine SW.rowC ?_ | refine SW.skip ?_ | refine SW.exit ?_ | intro _ | refine And.intro (by omega) ?_) | simp (config := { maxSteps := 1000000 }) (disch := (first | omega | (simp only [go_sem]; try omega))) only [go_sem, Nat.reduceAdd, Nat.reduceEqDiff, Nat.reduceLeDiff, Nat.reduceMul, Nat.reduceLT, reduceIte, Int.reduceToNat, w64_id, cast_succ])
    refine SW.ret ?_
    refine FunPost.cell (cs := [I items, v]) ?_ ?_
    · simp (config := { maxSteps := 1000000 }) (disch := (first | omega | (simp only [go_sem]; try omega))) only [go_sem, Nat.reduceAdd, Nat.reduceEqDiff, Nat.reduceLeDiff, Nat.reduceMul, Nat.reduceLT, reduceIte, Int.reduceToNat, w64_id, cast_succ]
      rw [pc_lds (List.getElem?_set_self (List.getElem?_eq_some_iff.1 b5).1) (by simp)]
      rfl
    · obtain ⟨ext, he⟩ := prefix_of (H := H) (H' := H1.set H.length ⟨0, tyCover, 1, [I items, v]⟩) (by simp; omega) (fun j hj => by
        rw [List.getElem?_set_ne (by omega), b4 j (by omega), List.getElem?_append_left hj])
      have own : OwnSS (H1.set H.length ⟨0, tyCover, 1, [I items, v]⟩) (Btw H.length (H1.set H.length ⟨0, tyCover, 1, [I items, v]⟩).length) v (ta a a) := by
        refine GrowSS.own (b2.same (fun j b h1 h2 => ?_)) (by omega)
        rw [List.getElem?_set_ne (by omega)]; exact h2
      have fz := own.froz (base := H.length) (fun r hr => hr.1)
      revert fz
      show _ → GR H _ _ (H1.set H.length ⟨0, tyCover, 1, [I items, v]⟩)
      rw [he]
      intro fz
      exact GR.froz (froz_agg2 (froz_I' _) fz) ⟨rfl, rfl⟩
end Go.Proofs.Ytnlfokkljgbaaaa
