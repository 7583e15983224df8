/- Numbers and pieces of texts: the reference. -/
import Derived.Test.YtdgcgckehihboaaDoorProg
import Derived.KernelRfl
import Derived.Test.YtdgcgckehihboaaDoorZB
import Derived.Test.YtdgcgckehihboaaDoorZE
set_option linter.unusedSimpArgs false
set_option linter.unusedVariables false
set_option maxHeartbeats 4000000
set_option maxRecDepth 100000
namespace Go.Proofs.YtdgcgckehihboaaDoor
open Go.Av

end Go.Proofs.YtdgcgckehihboaaDoor
namespace Go.Av
theorem SW.thenZ {P : Program} {n k0 : Nat} {Q : SX → Env → List Blk → Prop} {E : Env} {H : List Blk} {x y : SC} (M : Env → List Blk → Prop) (h1 : Go.Av.SW P n k0 x (fun s E' H' => match s with | .nrm => M E' H' | s => Q s E' H') E H) (h2 : ∀ E' H', M E' H' → Go.Av.SW P n k0 y Q E' H') : Go.Av.SW P n k0 x (SThen P n k0 y Q) E H := by
  refine SW.mono ?_ h1
  intro s E' H' h
  cases s with
  | nrm => exact h2 _ _ h
  | ext id => exact h
  | ret => exact h
end Go.Av
namespace Go.Proofs.YtdgcgckehihboaaDoor
open Go.Av

/-! The abstract code of functions, printed by program and tied to the program by the kernel. -/
/-- loop.example/g00920/spec.l01Split -/
abbrev f_spec_l01Split : Nat := 9
def c_spec_l01Split : SC :=
 .seq (.reg [
     ⟨(some 4), .mv (.const (.slice none 0 0)), none⟩] [0, 1])
 (.seq (.reg [
     ⟨(some 8), .bslice 9 1 0 [] [], none⟩,
     ⟨(some 5), .mv (.tmp 8), none⟩] [0, 1, 5])
 (.seq (.reg [
     ⟨(some 6), .mv (.const (.int .i64 0)), none⟩] [0, 1, 5, 6])
 (.seq (.seq (.reg [
     ⟨(some 7), .mv (.const (.int .i64 0)), none⟩] [0, 1, 5, 6, 7])
 (.block 0 (.loop [0, 1, 5, 6, 7]
   (.seq (.seq (.reg [
       ⟨(some 9), .mv (.tmp 7), none⟩,
       ⟨(some 10), .mv (.tmp 0), none⟩,
       ⟨(some 11), .sop .len [(.tmp 10)], none⟩,
       ⟨(some 12), .bin .lss (.tmp 9) (.tmp 11), none⟩] [0, 1, 5, 6, 7, 12])
   (.cond (.tmp 12)
    (.skip)
    (.exit 0)))
   (.seq (.block 1 (.seq (.reg [
        ⟨(some 15), .mv (.tmp 0), none⟩,
        ⟨(some 16), .mv (.tmp 7), none⟩,
        ⟨(some 17), .sop .idx [(.tmp 15), (.tmp 16)], none⟩,
        ⟨(some 18), .mv (.tmp 1), none⟩,
        ⟨(some 19), .bin .eql (.tmp 17) (.tmp 18), none⟩] [0, 1, 5, 6, 7, 19])
    (.cond (.tmp 19)
     (.seq (.reg [
         ⟨(some 20), .mv (.tmp 5), none⟩,
         ⟨(some 21), .mv (.tmp 0), none⟩,
         ⟨(some 22), .mv (.tmp 6), none⟩,
         ⟨(some 23), .mv (.tmp 7), none⟩,
         ⟨(some 24), .sop (.slc true true) [(.tmp 21), (.tmp 22), (.tmp 23)], none⟩,
         ⟨(some 25), .bslice 9 1 1 [(.string ByteArray.empty)] [(0, (.tmp 24))], none⟩,
         ⟨(some 26), .app 9 1 16 (.tmp 20) (.tmp 25), none⟩,
         ⟨(some 5), .mv (.tmp 26), none⟩] [0, 1, 5, 7])
     (.reg [
         ⟨(some 27), .mv (.tmp 7), none⟩,
         ⟨(some 28), .bin .add (.tmp 27) (.const (.int .i64 1)), none⟩,
         ⟨(some 6), .mv (.tmp 28), none⟩] [0, 1, 5, 6, 7]))
     (.skip))))
   (.reg [
       ⟨(some 13), .mv (.tmp 7), none⟩,
       ⟨(some 14), .bin .add (.tmp 13) (.const (.int .i64 1)), none⟩,
       ⟨(some 7), .mv (.tmp 14), none⟩] [0, 1, 5, 6, 7]))))))
 (.seq (.reg [
     ⟨(some 29), .mv (.tmp 5), none⟩,
     ⟨(some 30), .mv (.tmp 0), none⟩,
     ⟨(some 31), .mv (.tmp 6), none⟩,
     ⟨(some 32), .sop (.slc true false) [(.tmp 30), (.tmp 31)], none⟩,
     ⟨(some 33), .bslice 9 1 1 [(.string ByteArray.empty)] [(0, (.tmp 32))], none⟩,
     ⟨(some 34), .app 9 1 16 (.tmp 29) (.tmp 33), none⟩,
     ⟨(some 4), .mv (.tmp 34), none⟩] [4])
 (.ret)))))
theorem s_spec_l01Split : stripF Tryd.prog 9 [[0, 1], [0, 1, 5], [0, 1, 5, 6], [0, 1, 5, 6, 7], [0, 1, 5, 6, 7], [0, 1, 5, 6, 7, 12], [0, 1, 5, 6, 7, 19], [0, 1, 5, 7], [0, 1, 5, 6, 7], [0, 1, 5, 6, 7], [4]] = some (c_spec_l01Split, [.tmp 4], 35) := by kernel_rfl

/-- loop.example/g00920/spec.l01Number -/
abbrev f_spec_l01Number : Nat := 11
def c_spec_l01Number : SC :=
 .seq (.reg [
     ⟨(some 2), .mv (.const (.int .i64 0)), none⟩,
     ⟨(some 3), .mv (.const (.bool false)), none⟩] [0])
 (.seq (.reg [
     ⟨(some 7), .mv (.tmp 0), none⟩,
     ⟨(some 4), .mv (.tmp 7), none⟩] [0, 4])
 (.seq (.seq (.reg [
     ⟨(some 8), .mv (.tmp 4), none⟩,
     ⟨(some 9), .sop (.eql true) [(.tmp 8), (.const (.string ByteArray.empty))], none⟩,
     ⟨(some 10), .mv (.tmp 9), none⟩,
     ⟨(some 11), .mv (.tmp 4), (some (10, true))⟩,
     ⟨(some 12), .sop .idx [(.tmp 11), (.const (.int .i64 0))], (some (10, true))⟩,
     ⟨(some 13), .bin .eql (.tmp 12) (.const (.int .u8 45)), (some (10, true))⟩,
     ⟨(some 14), .pick (.tmp 10) (.tmp 13) (.const (.bool false)), none⟩] [0, 4, 14])
 (.cond (.tmp 14)
  (.reg [
      ⟨(some 15), .mv (.tmp 4), none⟩,
      ⟨(some 16), .sop (.slc true false) [(.tmp 15), (.const (.int .i64 1))], none⟩,
      ⟨(some 4), .mv (.tmp 16), none⟩] [0, 4])
  (.skip)))
 (.seq (.seq (.reg [
     ⟨(some 17), .mv (.tmp 4), none⟩,
     ⟨(some 18), .sop .len [(.tmp 17)], none⟩,
     ⟨(some 19), .bin .lss (.tmp 18) (.const (.int .i64 1)), none⟩,
     ⟨(some 20), .mv (.tmp 19), none⟩,
     ⟨(some 21), .mv (.tmp 4), (some (20, false))⟩,
     ⟨(some 22), .sop .len [(.tmp 21)], (some (20, false))⟩,
     ⟨(some 23), .bin .gtr (.tmp 22) (.const (.int .i64 18)), (some (20, false))⟩,
     ⟨(some 24), .pick (.tmp 20) (.const (.bool true)) (.tmp 23), none⟩] [0, 4, 24])
 (.cond (.tmp 24)
  (.seq (.reg [
      ⟨(some 2), .mv (.const (.int .i64 0)), none⟩,
      ⟨(some 3), .mv (.const (.bool false)), none⟩] [2, 3])
  (.ret))
  (.skip)))
 (.seq (.reg [
     ⟨(some 5), .mv (.const (.int .i64 0)), none⟩] [0, 4, 5])
 (.seq (.seq (.reg [
     ⟨(some 6), .mv (.const (.int .i64 0)), none⟩] [0, 4, 5, 6])
 (.block 0 (.loop [0, 4, 5, 6]
   (.seq (.seq (.reg [
       ⟨(some 25), .mv (.tmp 6), none⟩,
       ⟨(some 26), .mv (.tmp 4), none⟩,
       ⟨(some 27), .sop .len [(.tmp 26)], none⟩,
       ⟨(some 28), .bin .lss (.tmp 25) (.tmp 27), none⟩] [0, 4, 5, 6, 28])
   (.cond (.tmp 28)
    (.skip)
    (.exit 0)))
   (.seq (.block 1 (.seq (.seq (.reg [
        ⟨(some 31), .mv (.tmp 4), none⟩,
        ⟨(some 32), .mv (.tmp 6), none⟩,
        ⟨(some 33), .sop .idx [(.tmp 31), (.tmp 32)], none⟩,
        ⟨(some 34), .call 26 [(.tmp 33)], none⟩,
        ⟨(some 35), .un .not (.tmp 34), none⟩] [0, 4, 5, 6, 35])
    (.cond (.tmp 35)
     (.seq (.reg [
         ⟨(some 2), .mv (.const (.int .i64 0)), none⟩,
         ⟨(some 3), .mv (.const (.bool false)), none⟩] [2, 3])
     (.ret))
     (.skip)))
    (.reg [
        ⟨(some 36), .mv (.tmp 5), none⟩,
        ⟨(some 37), .bin .mul (.const (.int .i64 10)) (.tmp 36), none⟩,
        ⟨(some 38), .mv (.tmp 4), none⟩,
        ⟨(some 39), .mv (.tmp 6), none⟩,
        ⟨(some 40), .sop .idx [(.tmp 38), (.tmp 39)], none⟩,
        ⟨(some 41), .bin .sub (.tmp 40) (.const (.int .u8 48)), none⟩,
        ⟨(some 42), .conv .i64 (.tmp 41), none⟩,
        ⟨(some 43), .bin .add (.tmp 37) (.tmp 42), none⟩,
        ⟨(some 5), .mv (.tmp 43), none⟩] [0, 4, 5, 6])))
   (.reg [
       ⟨(some 29), .mv (.tmp 6), none⟩,
       ⟨(some 30), .bin .add (.tmp 29) (.const (.int .i64 1)), none⟩,
       ⟨(some 6), .mv (.tmp 30), none⟩] [0, 4, 5, 6]))))))
 (.seq (.seq (.reg [
     ⟨(some 44), .mv (.tmp 4), none⟩,
     ⟨(some 45), .sop .len [(.tmp 44)], none⟩,
     ⟨(some 46), .mv (.tmp 0), none⟩,
     ⟨(some 47), .sop .len [(.tmp 46)], none⟩,
     ⟨(some 48), .bin .lss (.tmp 45) (.tmp 47), none⟩] [0, 5, 48])
 (.cond (.tmp 48)
  (.reg [
      ⟨(some 49), .mv (.tmp 5), none⟩,
      ⟨(some 50), .un .neg (.tmp 49), none⟩,
      ⟨(some 5), .mv (.tmp 50), none⟩] [0, 5])
  (.skip)))
 (.seq (.seq (.reg [
     ⟨(some 51), .mv (.tmp 5), none⟩,
     ⟨(some 52), .call 27 [(.tmp 51)], none⟩,
     ⟨(some 53), .mv (.tmp 0), none⟩,
     ⟨(some 54), .sop (.eql true) [(.tmp 52), (.tmp 53)], none⟩] [5, 54])
 (.cond (.tmp 54)
  (.seq (.reg [
      ⟨(some 2), .mv (.const (.int .i64 0)), none⟩,
      ⟨(some 3), .mv (.const (.bool false)), none⟩] [2, 3])
  (.ret))
  (.skip)))
 (.seq (.reg [
     ⟨(some 55), .mv (.tmp 5), none⟩,
     ⟨(some 2), .mv (.tmp 55), none⟩,
     ⟨(some 3), .mv (.const (.bool true)), none⟩] [2, 3])
 (.ret)))))))))
theorem s_spec_l01Number : stripF Tryd.prog 11 [[0], [0, 4], [0, 4, 14], [0, 4], [0, 4, 24], [2, 3], [0, 4, 5], [0, 4, 5, 6], [0, 4, 5, 6], [0, 4, 5, 6, 28], [0, 4, 5, 6, 35], [2, 3], [0, 4, 5, 6], [0, 4, 5, 6], [0, 5, 48], [0, 5], [5, 54], [2, 3], [2, 3]] = some (c_spec_l01Number, [.tmp 2, .tmp 3], 56) := by kernel_rfl

@[go_sem] theorem aview_ilT (H : List Blk) (ls : List (List UInt8)) : aview H (ilT ls) = some (ls.length, ls.map Tx) := rfl
@[go_sem] theorem cell1_ilT (ls : List (List UInt8)) : (ilT ls).cell1 = true := rfl
@[go_sem] theorem partsOf_ilT (ls : List (List UInt8)) : partsOf (ilT ls) = [ilT ls] := rfl
@[go_sem] theorem getTx {xs : List (List UInt8)} {i : Nat} (h : i < xs.length) : (xs.map Tx)[i]? = some (Tx (xs.getD i [])) := by simp [List.getElem?_eq_getElem h]
@[go_sem] theorem allT1 (xs : List (List UInt8)) : (xs.map Tx).all AV.cell1 = true := by rw [List.all_eq_true]; intro c hc; obtain ⟨x, _, rfl⟩ := List.mem_map.1 hc; rfl
theorem Bel_ilT (k : Nat) (ls : List (List UInt8)) : Bel k (ilT ls) := .il _ _ (by intro c hc; obtain ⟨x, _, rfl⟩ := List.mem_map.1 hc; exact .lit _)
theorem splA_len {b : UInt8} : ∀ {s cur p : List UInt8}, p ∈ splA b cur s → p.length ≤ cur.length + s.length
  | [], cur, p, h => by rw [splA, List.mem_singleton] at h; rw [h]; simp
  | c :: r, cur, p, h => by
    rw [splA] at h
    split at h
    · rcases List.mem_cons.1 h with h | h
      · rw [h]; omega
      · have := splA_len h; simp at this ⊢; omega
    · have := splA_len h; simp at this ⊢; omega
theorem spl_len {b : UInt8} {s p : List UInt8} (h : p ∈ spl b s) : p.length ≤ s.length := by have := splA_len h; simpa using this
theorem splA_num {b : UInt8} : ∀ {s cur : List UInt8}, (splA b cur s).length ≤ s.length + 1
  | [], cur => by simp [splA]
  | c :: r, cur => by
    rw [splA]
    split
    · have := splA_num (b := b) (s := r) (cur := []); simp; omega
    · have := splA_num (b := b) (s := r) (cur := cur ++ [c]); simp; omega
theorem spl_num (b : UInt8) (s : List UInt8) : (spl b s).length ≤ s.length + 1 := splA_num
theorem edW_len {s p : List UInt8} (h : p ∈ edW s) : p.length ≤ s.length := by
  unfold edW at h
  split at h
  · simp at h
  · exact spl_len h
theorem edW_num (s : List UInt8) : (edW s).length ≤ s.length + 1 := by
  unfold edW
  split
  · simp
  · exact spl_num 44 s
@[go_sem] theorem sopV_idx0 (c : UInt8) (r : List UInt8) : sopV .idx [Tx (c :: r), I 0] = some (U8 c) := sopV_idx (c :: r) 0 (by simp)
@[go_sem] theorem sopV_slc1 (c : UInt8) (r : List UInt8) : sopV (.slc true false) [Tx (c :: r), I 1] = some (Tx r) := sopV_slcL (c :: r) 1 (by simp)
theorem l01Number_fn (s : List UInt8) (hs : s.length ≤ 2000000) : PFn Tryd.prog f_spec_l01Number [Tx s] (.tup [I ((rdN s).getD 0), Bv (rdN s).isSome]) := by
  intro H
  refine ACalls.introB s_spec_l01Number (by simp) ?_; intro hB hA; unfold c_spec_l01Number; simp (config := { maxSteps := 1000000 }) (disch := (first | omega | (simp only [go_sem]; try omega))) only [go_sem, Nat.reduceAdd, Nat.reduceEqDiff, Nat.reduceLeDiff, Nat.reduceMul, Nat.reduceLT, reduceIte, Int.reduceToNat, w64_id, cast_succ]
  repeat (first | (with_reducible first | refine SW.seq ?_ | refine SW.block ?_ | refine SW.rowC ?_ | refine SW.skip ?_ | refine SW.exit ?_ | intro _ | refine And.intro (by omega) ?_) | simp (config := { maxSteps := 1000000 }) (disch := (first | omega | (simp only [go_sem]; try omega))) only [go_sem, Nat.reduceAdd, Nat.reduceEqDiff, Nat.reduceLeDiff, Nat.reduceMul, Nat.reduceLT, reduceIte, Int.reduceToNat, w64_id, cast_succ])
  obtain ⟨t, ht⟩ : ∃ t, bodyN s = t := ⟨_, rfl⟩
  have hrd : rdN s = if 1 ≤ t.length ∧ t.length ≤ 18 then (magF t 0).bind fun u => if Lib.itoa (if t.length < s.length then -(u : Int) else u) = s then some (if t.length < s.length then -(u : Int) else u) else none else none := by rw [← ht]; rfl
  generalize rdN s = o at *
  have h3 : t = s ∧ s = [] ∨ (t = s ∧ s ≠ [] ∧ ∃ c, sopV SK.idx [Tx s, I 0] = some (U8 c) ∧ c ≠ 45) ∨ (s ≠ [] ∧ sopV SK.idx [Tx s, I 0] = some (U8 45) ∧ sopV (.slc true false) [Tx s, I 1] = some (Tx t)) := by
    cases s with
    | nil => exact .inl ⟨ht.symm, rfl⟩
    | cons c r =>
      by_cases h : c = 45
      · subst h
        refine .inr (.inr ⟨by simp, sopV_idx0 _ _, ?_⟩)
        rw [sopV_slc1, ← ht]; rfl
      · exact .inr (.inl ⟨by rw [← ht]; exact if_neg (by simpa using h), by simp, c, sopV_idx0 _ _, h⟩)
  clear ht
  rcases h3 with ⟨h1, h2⟩ | ⟨h1, h2, c, h3, h4⟩ | ⟨h1, h2, h3⟩
  · have d1 : decide (s = []) = true := decide_eq_true h2
    repeat (first | (with_reducible first | refine SW.seq ?_ | refine SW.block ?_ | refine SW.rowC ?_ | refine SW.skip ?_ | refine SW.exit ?_ | intro _ | refine And.intro (by omega) ?_) | simp (config := { maxSteps := 1000000 }) (disch := (first | omega | (simp only [go_sem]; try omega))) only [go_sem, Nat.reduceAdd, Nat.reduceEqDiff, Nat.reduceLeDiff, Nat.reduceMul, Nat.reduceLT, reduceIte, Int.reduceToNat, w64_id, cast_succ, d1, Bool.not_true])
    subst h1
    refine SW.condF rfl ?_
    repeat (first | (with_reducible first | refine SW.seq ?_ | refine SW.block ?_ | refine SW.rowC ?_ | refine SW.skip ?_ | refine SW.exit ?_ | intro _ | refine And.intro (by omega) ?_) | simp (config := { maxSteps := 1000000 }) (disch := (first | omega | (simp only [go_sem]; try omega))) only [go_sem, Nat.reduceAdd, Nat.reduceEqDiff, Nat.reduceLeDiff, Nat.reduceMul, Nat.reduceLT, reduceIte, Int.reduceToNat, w64_id, cast_succ])
    by_cases hl : 1 ≤ t.length ∧ t.length ≤ 18
    · rw [if_pos hl] at hrd
      have d1 : decide ((t.length : Int) < 1) = false := decide_eq_false (by omega)
      have d2 : decide ((18 : Int) < (t.length : Int)) = false := decide_eq_false (by omega)
      repeat (first | (with_reducible first | refine SW.seq ?_ | refine SW.block ?_ | refine SW.rowC ?_ | refine SW.skip ?_ | refine SW.exit ?_ | intro _ | refine And.intro (by omega) ?_) | simp (config := { maxSteps := 1000000 }) (disch := (first | omega | (simp only [go_sem]; try omega))) only [go_sem, Nat.reduceAdd, Nat.reduceEqDiff, Nat.reduceLeDiff, Nat.reduceMul, Nat.reduceLT, reduceIte, Int.reduceToNat, w64_id, cast_succ, d1, d2])
      refine SW.condF rfl ?_
      repeat (first | (with_reducible first | refine SW.seq ?_ | refine SW.block ?_ | refine SW.rowC ?_ | refine SW.skip ?_ | refine SW.exit ?_ | intro _ | refine And.intro (by omega) ?_) | simp (config := { maxSteps := 1000000 }) (disch := (first | omega | (simp only [go_sem]; try omega))) only [go_sem, Nat.reduceAdd, Nat.reduceEqDiff, Nat.reduceLeDiff, Nat.reduceMul, Nat.reduceLT, reduceIte, Int.reduceToNat, w64_id, cast_succ])
      refine SW.loopE (fun E0 H0 q E' H' => ∃ (i n : Nat), i ≤ t.length ∧ n < 10 ^ i ∧ magF t 0 = magF (t.drop i) n ∧ q = t.length - i ∧ E' = aput (aput E0 5 (I n)) 6 (I i) ∧ H' = H0) t.length ⟨0, 0, by omega, by omega, rfl, by omega, rfl, rfl⟩ ?_
      rintro q E' H' ⟨i, n, hi, hn, hm, rfl, rfl, rfl⟩
      have hn18 : n < 10 ^ 18 := Nat.lt_of_lt_of_le hn (Nat.pow_le_pow_right (by omega) (by omega))
      simp (config := { maxSteps := 1000000 }) (disch := (first | omega | (simp only [go_sem]; try omega))) only [go_sem, Nat.reduceAdd, Nat.reduceEqDiff, Nat.reduceLeDiff, Nat.reduceMul, Nat.reduceLT, reduceIte, Int.reduceToNat, w64_id, cast_succ]
      repeat (first | (with_reducible first | refine SW.seq ?_ | refine SW.block ?_ | refine SW.rowC ?_ | refine SW.skip ?_ | refine SW.exit ?_ | intro _ | refine And.intro (by omega) ?_) | simp (config := { maxSteps := 1000000 }) (disch := (first | omega | (simp only [go_sem]; try omega))) only [go_sem, Nat.reduceAdd, Nat.reduceEqDiff, Nat.reduceLeDiff, Nat.reduceMul, Nat.reduceLT, reduceIte, Int.reduceToNat, w64_id, cast_succ])
      (first | refine SW.condD rfl (fun h => ?_) (fun h => ?_) | refine SW.condN rfl (fun h => ?_) (fun h => ?_) | refine SW.condNB rfl (fun h => ?_) (fun h => ?_) | refine SW.condB rfl (fun h => ?_) (fun h => ?_))
      · have hd : t.drop i = t.getD i 0 :: t.drop (i + 1) := by
          rw [List.drop_eq_getElem_cons (by omega)]; simp [List.getElem?_eq_getElem (show i < t.length by omega)]
        rw [hd, magF] at hm
        have hdg := l01Digit_fn (t.getD i 0)
        cases hD : isD (t.getD i 0)
        · rw [hD] at hdg hm
          rw [if_neg (by simp)] at hm
          rw [hm] at hrd
          rw [Option.bind_none] at hrd
          subst hrd
          repeat (first | (with_reducible first | refine SW.seq ?_ | refine SW.block ?_ | refine SW.rowC ?_ | refine SW.skip ?_ | refine SW.exit ?_ | refine PFn.use (hdg) ?_ | refine PFn.useq (hdg) ?_ | intro _ | refine And.intro (by omega) ?_) | simp (config := { maxSteps := 1000000 }) (disch := (first | omega | (simp only [go_sem]; try omega))) only [go_sem, Nat.reduceAdd, Nat.reduceEqDiff, Nat.reduceLeDiff, Nat.reduceMul, Nat.reduceLT, reduceIte, Int.reduceToNat, w64_id, cast_succ])
          refine SW.condT rfl ?_
          repeat (first | (with_reducible first | refine SW.seq ?_ | refine SW.block ?_ | refine SW.rowC ?_ | refine SW.skip ?_ | refine SW.exit ?_ | intro _ | refine And.intro (by omega) ?_) | simp (config := { maxSteps := 1000000 }) (disch := (first | omega | (simp only [go_sem]; try omega))) only [go_sem, Nat.reduceAdd, Nat.reduceEqDiff, Nat.reduceLeDiff, Nat.reduceMul, Nat.reduceLT, reduceIte, Int.reduceToNat, w64_id, cast_succ])
          refine SW.ret ?_; (try simp only [go_sem]); (first | refine FunPost.one ?_ | refine FunPost.two ?_ | refine FunPost.three ?_); (try simp (config := { maxSteps := 1000000 }) (disch := (first | omega | (simp only [go_sem]; try omega))) only [go_sem, Nat.reduceAdd, Nat.reduceEqDiff, Nat.reduceLeDiff, Nat.reduceMul, Nat.reduceLT, reduceIte, Int.reduceToNat, w64_id, cast_succ]); (first | (with_reducible refine GR.drop ?_ ?_; (simp only [go_sem, and_self, and_true, true_and, implies_true, List.take_succ_cons, List.take_zero])) | refine GR.of ?_); refine ⟨?_, rfl⟩; (try with_reducible rfl)
          rfl
        · rw [hD] at hdg hm
          rw [if_pos rfl] at hm
          have hD2 : 48 ≤ (t.getD i 0).toNat ∧ (t.getD i 0).toNat ≤ 57 := by
            unfold isD at hD
            simpa only [Bool.and_eq_true, decide_eq_true_eq] using hD
          have hsb : ((t.getD i 0) - 48).toNat = (t.getD i 0).toNat - 48 := UInt8.toNat_sub_of_le _ _ (UInt8.le_iff_toNat_le.2 hD2.1)
          have hw := fun H Kv => BinW_subU (H := H) (Kv := Kv) (t.getD i 0) 48 hD2.1
          have hpw : 10 * n + ((t.getD i 0).toNat - 48) < 10 ^ (i + 1) := by rw [Nat.pow_succ]; omega
          have hc : (10 : Int) * (n : Int) + (((t.getD i 0).toNat - 48 : Nat) : Int) = ((10 * n + ((t.getD i 0).toNat - 48) : Nat) : Int) := by omega
          repeat (first | (with_reducible first | refine SW.seq ?_ | refine SW.block ?_ | refine SW.rowC ?_ | refine SW.skip ?_ | refine SW.exit ?_ | refine PFn.use (hdg) ?_ | refine PFn.useq (hdg) ?_ | intro _ | refine And.intro (by omega) ?_) | simp (config := { maxSteps := 1000000 }) (disch := (first | omega | (simp only [go_sem]; try omega))) only [go_sem, Nat.reduceAdd, Nat.reduceEqDiff, Nat.reduceLeDiff, Nat.reduceMul, Nat.reduceLT, reduceIte, Int.reduceToNat, w64_id, cast_succ])
          refine SW.condF rfl ?_
          have hn17 : n < 10 ^ 17 := Nat.lt_of_lt_of_le hn (Nat.pow_le_pow_right (by omega) (by omega))
          repeat (first | (with_reducible first | refine SW.seq ?_ | refine SW.block ?_ | refine SW.rowC ?_ | refine SW.skip ?_ | refine SW.exit ?_ | intro _ | refine And.intro (by omega) ?_) | simp (config := { maxSteps := 1000000 }) (disch := (first | omega | (simp only [go_sem]; try omega))) only [go_sem, Nat.reduceAdd, Nat.reduceEqDiff, Nat.reduceLeDiff, Nat.reduceMul, Nat.reduceLT, reduceIte, Int.reduceToNat, w64_id, cast_succ, hw, hsb, hc])
          have hw1 : w64 ((10 : Int) * (n : Int)) = 10 * (n : Int) := w64_id (by omega) (by omega)
          have hw2 : w64 ((10 : Int) * (n : Int) + (((t.getD i 0).toNat - 48 : Nat) : Int)) = ((10 * n + ((t.getD i 0).toNat - 48) : Nat) : Int) := (w64_id (by omega) (by omega)).trans hc
          refine SLoop.next (t.length - (i + 1)) (by omega) ⟨i + 1, 10 * n + ((t.getD i 0).toNat - 48), by omega, hpw, hm, rfl, ?_, rfl⟩
          rfl
      · have hii : i = t.length := by omega
        subst hii
        rw [List.drop_length, magF] at hm
        rw [hm, Option.bind_some] at hrd
        repeat (first | (with_reducible first | refine SW.seq ?_ | refine SW.block ?_ | refine SW.rowC ?_ | refine SW.skip ?_ | refine SW.exit ?_ | intro _ | refine And.intro (by omega) ?_) | simp (config := { maxSteps := 1000000 }) (disch := (first | omega | (simp only [go_sem]; try omega))) only [go_sem, Nat.reduceAdd, Nat.reduceEqDiff, Nat.reduceLeDiff, Nat.reduceMul, Nat.reduceLT, reduceIte, Int.reduceToNat, w64_id, cast_succ])
        obtain ⟨z, hz, hzb⟩ : ∃ z : Int, z = (if t.length < t.length then -(n : Int) else n) ∧ z.natAbs < 10 ^ 18 := ⟨_, rfl, by split <;> omega⟩
        rw [← hz] at hrd
        have hdc := l01Dec_fn z hzb
        by_cases hts : t.length < t.length
        · rw [if_pos hts] at hz
          subst hz
          have d3 : decide ((t.length : Int) < (t.length : Int)) = true := decide_eq_true (by omega)
          repeat (first | (with_reducible first | refine SW.seq ?_ | refine SW.block ?_ | refine SW.rowC ?_ | refine SW.skip ?_ | refine SW.exit ?_ | intro _ | refine And.intro (by omega) ?_) | simp (config := { maxSteps := 1000000 }) (disch := (first | omega | (simp only [go_sem]; try omega))) only [go_sem, Nat.reduceAdd, Nat.reduceEqDiff, Nat.reduceLeDiff, Nat.reduceMul, Nat.reduceLT, reduceIte, Int.reduceToNat, w64_id, cast_succ, d3])
          refine SW.condT rfl ?_
          have hz0 : (0 : Int) - (n : Int) = -(n : Int) := by omega
          by_cases hi2 : Lib.itoa (-(n : Int)) = t
          · have d4 : decide (Lib.itoa (-(n : Int)) = t) = true := decide_eq_true hi2
            rw [if_pos hi2] at hrd
            subst hrd
            repeat (first | (with_reducible first | refine SW.seq ?_ | refine SW.block ?_ | refine SW.rowC ?_ | refine SW.skip ?_ | refine SW.exit ?_ | refine PFn.use (hdc) ?_ | refine PFn.useq (hdc) ?_ | intro _ | refine And.intro (by omega) ?_) | simp (config := { maxSteps := 1000000 }) (disch := (first | omega | (simp only [go_sem]; try omega))) only [go_sem, Nat.reduceAdd, Nat.reduceEqDiff, Nat.reduceLeDiff, Nat.reduceMul, Nat.reduceLT, reduceIte, Int.reduceToNat, w64_id, cast_succ, hz0, d4, Bool.not_true])
            refine SW.condF rfl ?_
            repeat (first | (with_reducible first | refine SW.seq ?_ | refine SW.block ?_ | refine SW.rowC ?_ | refine SW.skip ?_ | refine SW.exit ?_ | intro _ | refine And.intro (by omega) ?_) | simp (config := { maxSteps := 1000000 }) (disch := (first | omega | (simp only [go_sem]; try omega))) only [go_sem, Nat.reduceAdd, Nat.reduceEqDiff, Nat.reduceLeDiff, Nat.reduceMul, Nat.reduceLT, reduceIte, Int.reduceToNat, w64_id, cast_succ])
            refine SW.ret ?_; (try simp only [go_sem]); (first | refine FunPost.one ?_ | refine FunPost.two ?_ | refine FunPost.three ?_); (try simp (config := { maxSteps := 1000000 }) (disch := (first | omega | (simp only [go_sem]; try omega))) only [go_sem, Nat.reduceAdd, Nat.reduceEqDiff, Nat.reduceLeDiff, Nat.reduceMul, Nat.reduceLT, reduceIte, Int.reduceToNat, w64_id, cast_succ]); (first | (with_reducible refine GR.drop ?_ ?_; (simp only [go_sem, and_self, and_true, true_and, implies_true, List.take_succ_cons, List.take_zero])) | refine GR.of ?_); refine ⟨?_, rfl⟩; (try with_reducible rfl)
            rfl
          · have d4 : decide (Lib.itoa (-(n : Int)) = t) = false := decide_eq_false hi2
            rw [if_neg hi2] at hrd
            subst hrd
            repeat (first | (with_reducible first | refine SW.seq ?_ | refine SW.block ?_ | refine SW.rowC ?_ | refine SW.skip ?_ | refine SW.exit ?_ | refine PFn.use (hdc) ?_ | refine PFn.useq (hdc) ?_ | intro _ | refine And.intro (by omega) ?_) | simp (config := { maxSteps := 1000000 }) (disch := (first | omega | (simp only [go_sem]; try omega))) only [go_sem, Nat.reduceAdd, Nat.reduceEqDiff, Nat.reduceLeDiff, Nat.reduceMul, Nat.reduceLT, reduceIte, Int.reduceToNat, w64_id, cast_succ, hz0, d4, Bool.not_false])
            refine SW.condT rfl ?_
            repeat (first | (with_reducible first | refine SW.seq ?_ | refine SW.block ?_ | refine SW.rowC ?_ | refine SW.skip ?_ | refine SW.exit ?_ | intro _ | refine And.intro (by omega) ?_) | simp (config := { maxSteps := 1000000 }) (disch := (first | omega | (simp only [go_sem]; try omega))) only [go_sem, Nat.reduceAdd, Nat.reduceEqDiff, Nat.reduceLeDiff, Nat.reduceMul, Nat.reduceLT, reduceIte, Int.reduceToNat, w64_id, cast_succ])
            refine SW.ret ?_; (try simp only [go_sem]); (first | refine FunPost.one ?_ | refine FunPost.two ?_ | refine FunPost.three ?_); (try simp (config := { maxSteps := 1000000 }) (disch := (first | omega | (simp only [go_sem]; try omega))) only [go_sem, Nat.reduceAdd, Nat.reduceEqDiff, Nat.reduceLeDiff, Nat.reduceMul, Nat.reduceLT, reduceIte, Int.reduceToNat, w64_id, cast_succ]); (first | (with_reducible refine GR.drop ?_ ?_; (simp only [go_sem, and_self, and_true, true_and, implies_true, List.take_succ_cons, List.take_zero])) | refine GR.of ?_); refine ⟨?_, rfl⟩; (try with_reducible rfl)
            rfl
        · rw [if_neg hts] at hz
          subst hz
          have d3 : decide ((t.length : Int) < (t.length : Int)) = false := decide_eq_false (by omega)
          repeat (first | (with_reducible first | refine SW.seq ?_ | refine SW.block ?_ | refine SW.rowC ?_ | refine SW.skip ?_ | refine SW.exit ?_ | intro _ | refine And.intro (by omega) ?_) | simp (config := { maxSteps := 1000000 }) (disch := (first | omega | (simp only [go_sem]; try omega))) only [go_sem, Nat.reduceAdd, Nat.reduceEqDiff, Nat.reduceLeDiff, Nat.reduceMul, Nat.reduceLT, reduceIte, Int.reduceToNat, w64_id, cast_succ, d3])
          refine SW.condF rfl ?_
          repeat (first | (with_reducible first | refine SW.seq ?_ | refine SW.block ?_ | refine SW.rowC ?_ | refine SW.skip ?_ | refine SW.exit ?_ | refine PFn.use (hdc) ?_ | refine PFn.useq (hdc) ?_ | intro _ | refine And.intro (by omega) ?_) | simp (config := { maxSteps := 1000000 }) (disch := (first | omega | (simp only [go_sem]; try omega))) only [go_sem, Nat.reduceAdd, Nat.reduceEqDiff, Nat.reduceLeDiff, Nat.reduceMul, Nat.reduceLT, reduceIte, Int.reduceToNat, w64_id, cast_succ])
          by_cases hi2 : Lib.itoa ((n : Int)) = t
          · have d4 : decide (Lib.itoa ((n : Int)) = t) = true := decide_eq_true hi2
            rw [if_pos hi2] at hrd
            subst hrd
            repeat (first | (with_reducible first | refine SW.seq ?_ | refine SW.block ?_ | refine SW.rowC ?_ | refine SW.skip ?_ | refine SW.exit ?_ | intro _ | refine And.intro (by omega) ?_) | simp (config := { maxSteps := 1000000 }) (disch := (first | omega | (simp only [go_sem]; try omega))) only [go_sem, Nat.reduceAdd, Nat.reduceEqDiff, Nat.reduceLeDiff, Nat.reduceMul, Nat.reduceLT, reduceIte, Int.reduceToNat, w64_id, cast_succ, d4, Bool.not_true])
            refine SW.condF rfl ?_
            repeat (first | (with_reducible first | refine SW.seq ?_ | refine SW.block ?_ | refine SW.rowC ?_ | refine SW.skip ?_ | refine SW.exit ?_ | intro _ | refine And.intro (by omega) ?_) | simp (config := { maxSteps := 1000000 }) (disch := (first | omega | (simp only [go_sem]; try omega))) only [go_sem, Nat.reduceAdd, Nat.reduceEqDiff, Nat.reduceLeDiff, Nat.reduceMul, Nat.reduceLT, reduceIte, Int.reduceToNat, w64_id, cast_succ])
            refine SW.ret ?_; (try simp only [go_sem]); (first | refine FunPost.one ?_ | refine FunPost.two ?_ | refine FunPost.three ?_); (try simp (config := { maxSteps := 1000000 }) (disch := (first | omega | (simp only [go_sem]; try omega))) only [go_sem, Nat.reduceAdd, Nat.reduceEqDiff, Nat.reduceLeDiff, Nat.reduceMul, Nat.reduceLT, reduceIte, Int.reduceToNat, w64_id, cast_succ]); (first | (with_reducible refine GR.drop ?_ ?_; (simp only [go_sem, and_self, and_true, true_and, implies_true, List.take_succ_cons, List.take_zero])) | refine GR.of ?_); refine ⟨?_, rfl⟩; (try with_reducible rfl)
            rfl
          · have d4 : decide (Lib.itoa ((n : Int)) = t) = false := decide_eq_false hi2
            rw [if_neg hi2] at hrd
            subst hrd
            repeat (first | (with_reducible first | refine SW.seq ?_ | refine SW.block ?_ | refine SW.rowC ?_ | refine SW.skip ?_ | refine SW.exit ?_ | intro _ | refine And.intro (by omega) ?_) | simp (config := { maxSteps := 1000000 }) (disch := (first | omega | (simp only [go_sem]; try omega))) only [go_sem, Nat.reduceAdd, Nat.reduceEqDiff, Nat.reduceLeDiff, Nat.reduceMul, Nat.reduceLT, reduceIte, Int.reduceToNat, w64_id, cast_succ, d4, Bool.not_false])
            refine SW.condT rfl ?_
            repeat (first | (with_reducible first | refine SW.seq ?_ | refine SW.block ?_ | refine SW.rowC ?_ | refine SW.skip ?_ | refine SW.exit ?_ | intro _ | refine And.intro (by omega) ?_) | simp (config := { maxSteps := 1000000 }) (disch := (first | omega | (simp only [go_sem]; try omega))) only [go_sem, Nat.reduceAdd, Nat.reduceEqDiff, Nat.reduceLeDiff, Nat.reduceMul, Nat.reduceLT, reduceIte, Int.reduceToNat, w64_id, cast_succ])
            refine SW.ret ?_; (try simp only [go_sem]); (first | refine FunPost.one ?_ | refine FunPost.two ?_ | refine FunPost.three ?_); (try simp (config := { maxSteps := 1000000 }) (disch := (first | omega | (simp only [go_sem]; try omega))) only [go_sem, Nat.reduceAdd, Nat.reduceEqDiff, Nat.reduceLeDiff, Nat.reduceMul, Nat.reduceLT, reduceIte, Int.reduceToNat, w64_id, cast_succ]); (first | (with_reducible refine GR.drop ?_ ?_; (simp only [go_sem, and_self, and_true, true_and, implies_true, List.take_succ_cons, List.take_zero])) | refine GR.of ?_); refine ⟨?_, rfl⟩; (try with_reducible rfl)
            rfl
    · rw [if_neg hl] at hrd
      subst hrd
      (first | refine GSplit.df (fun h5 => ?_) (fun h5 => ?_) | refine GSplit.dt (fun h5 => ?_) (fun h5 => ?_) | refine GSplit.ndf (fun h5 => ?_) (fun h5 => ?_) | refine GSplit.ndt (fun h5 => ?_) (fun h5 => ?_) | refine GSplit.nbf (fun h5 => ?_) (fun h5 => ?_) | refine GSplit.nbt (fun h5 => ?_) (fun h5 => ?_) | refine GSplit.bf (fun h5 => ?_) (fun h5 => ?_) | refine GSplit.bt (fun h5 => ?_) (fun h5 => ?_))
      · have d2 : decide ((18 : Int) < (t.length : Int)) = true := decide_eq_true (by omega)
        repeat (first | (with_reducible first | refine SW.seq ?_ | refine SW.block ?_ | refine SW.rowC ?_ | refine SW.skip ?_ | refine SW.exit ?_ | intro _ | refine And.intro (by omega) ?_) | simp (config := { maxSteps := 1000000 }) (disch := (first | omega | (simp only [go_sem]; try omega))) only [go_sem, Nat.reduceAdd, Nat.reduceEqDiff, Nat.reduceLeDiff, Nat.reduceMul, Nat.reduceLT, reduceIte, Int.reduceToNat, w64_id, cast_succ, d2])
        refine SW.condT rfl ?_
        repeat (first | (with_reducible first | refine SW.seq ?_ | refine SW.block ?_ | refine SW.rowC ?_ | refine SW.skip ?_ | refine SW.exit ?_ | intro _ | refine And.intro (by omega) ?_) | simp (config := { maxSteps := 1000000 }) (disch := (first | omega | (simp only [go_sem]; try omega))) only [go_sem, Nat.reduceAdd, Nat.reduceEqDiff, Nat.reduceLeDiff, Nat.reduceMul, Nat.reduceLT, reduceIte, Int.reduceToNat, w64_id, cast_succ])
        refine SW.ret ?_; (try simp only [go_sem]); (first | refine FunPost.one ?_ | refine FunPost.two ?_ | refine FunPost.three ?_); (try simp (config := { maxSteps := 1000000 }) (disch := (first | omega | (simp only [go_sem]; try omega))) only [go_sem, Nat.reduceAdd, Nat.reduceEqDiff, Nat.reduceLeDiff, Nat.reduceMul, Nat.reduceLT, reduceIte, Int.reduceToNat, w64_id, cast_succ]); (first | (with_reducible refine GR.drop ?_ ?_; (simp only [go_sem, and_self, and_true, true_and, implies_true, List.take_succ_cons, List.take_zero])) | refine GR.of ?_); refine ⟨?_, rfl⟩; (try with_reducible rfl)
        rfl
      · refine SW.condT rfl ?_
        repeat (first | (with_reducible first | refine SW.seq ?_ | refine SW.block ?_ | refine SW.rowC ?_ | refine SW.skip ?_ | refine SW.exit ?_ | intro _ | refine And.intro (by omega) ?_) | simp (config := { maxSteps := 1000000 }) (disch := (first | omega | (simp only [go_sem]; try omega))) only [go_sem, Nat.reduceAdd, Nat.reduceEqDiff, Nat.reduceLeDiff, Nat.reduceMul, Nat.reduceLT, reduceIte, Int.reduceToNat, w64_id, cast_succ])
        refine SW.ret ?_; (try simp only [go_sem]); (first | refine FunPost.one ?_ | refine FunPost.two ?_ | refine FunPost.three ?_); (try simp (config := { maxSteps := 1000000 }) (disch := (first | omega | (simp only [go_sem]; try omega))) only [go_sem, Nat.reduceAdd, Nat.reduceEqDiff, Nat.reduceLeDiff, Nat.reduceMul, Nat.reduceLT, reduceIte, Int.reduceToNat, w64_id, cast_succ]); (first | (with_reducible refine GR.drop ?_ ?_; (simp only [go_sem, and_self, and_true, true_and, implies_true, List.take_succ_cons, List.take_zero])) | refine GR.of ?_); refine ⟨?_, rfl⟩; (try with_reducible rfl)
        rfl
  · have d1 : decide (s = []) = false := decide_eq_false h2
    have d2 : decide (c = 45) = false := decide_eq_false h4
    repeat (first | (with_reducible first | refine SW.seq ?_ | refine SW.block ?_ | refine SW.rowC ?_ | refine SW.skip ?_ | refine SW.exit ?_ | intro _ | refine And.intro (by omega) ?_) | simp (config := { maxSteps := 1000000 }) (disch := (first | omega | (simp only [go_sem]; try omega))) only [go_sem, Nat.reduceAdd, Nat.reduceEqDiff, Nat.reduceLeDiff, Nat.reduceMul, Nat.reduceLT, reduceIte, Int.reduceToNat, w64_id, cast_succ, d1, Bool.not_false, h3, d2])
    subst h1
    refine SW.condF rfl ?_
    repeat (first | (with_reducible first | refine SW.seq ?_ | refine SW.block ?_ | refine SW.rowC ?_ | refine SW.skip ?_ | refine SW.exit ?_ | intro _ | refine And.intro (by omega) ?_) | simp (config := { maxSteps := 1000000 }) (disch := (first | omega | (simp only [go_sem]; try omega))) only [go_sem, Nat.reduceAdd, Nat.reduceEqDiff, Nat.reduceLeDiff, Nat.reduceMul, Nat.reduceLT, reduceIte, Int.reduceToNat, w64_id, cast_succ])
    by_cases hl : 1 ≤ t.length ∧ t.length ≤ 18
    · rw [if_pos hl] at hrd
      have d1 : decide ((t.length : Int) < 1) = false := decide_eq_false (by omega)
      have d2 : decide ((18 : Int) < (t.length : Int)) = false := decide_eq_false (by omega)
      repeat (first | (with_reducible first | refine SW.seq ?_ | refine SW.block ?_ | refine SW.rowC ?_ | refine SW.skip ?_ | refine SW.exit ?_ | intro _ | refine And.intro (by omega) ?_) | simp (config := { maxSteps := 1000000 }) (disch := (first | omega | (simp only [go_sem]; try omega))) only [go_sem, Nat.reduceAdd, Nat.reduceEqDiff, Nat.reduceLeDiff, Nat.reduceMul, Nat.reduceLT, reduceIte, Int.reduceToNat, w64_id, cast_succ, d1, d2])
      refine SW.condF rfl ?_
      repeat (first | (with_reducible first | refine SW.seq ?_ | refine SW.block ?_ | refine SW.rowC ?_ | refine SW.skip ?_ | refine SW.exit ?_ | intro _ | refine And.intro (by omega) ?_) | simp (config := { maxSteps := 1000000 }) (disch := (first | omega | (simp only [go_sem]; try omega))) only [go_sem, Nat.reduceAdd, Nat.reduceEqDiff, Nat.reduceLeDiff, Nat.reduceMul, Nat.reduceLT, reduceIte, Int.reduceToNat, w64_id, cast_succ])
      refine SW.loopE (fun E0 H0 q E' H' => ∃ (i n : Nat), i ≤ t.length ∧ n < 10 ^ i ∧ magF t 0 = magF (t.drop i) n ∧ q = t.length - i ∧ E' = aput (aput E0 5 (I n)) 6 (I i) ∧ H' = H0) t.length ⟨0, 0, by omega, by omega, rfl, by omega, rfl, rfl⟩ ?_
      rintro q E' H' ⟨i, n, hi, hn, hm, rfl, rfl, rfl⟩
      have hn18 : n < 10 ^ 18 := Nat.lt_of_lt_of_le hn (Nat.pow_le_pow_right (by omega) (by omega))
      simp (config := { maxSteps := 1000000 }) (disch := (first | omega | (simp only [go_sem]; try omega))) only [go_sem, Nat.reduceAdd, Nat.reduceEqDiff, Nat.reduceLeDiff, Nat.reduceMul, Nat.reduceLT, reduceIte, Int.reduceToNat, w64_id, cast_succ]
      repeat (first | (with_reducible first | refine SW.seq ?_ | refine SW.block ?_ | refine SW.rowC ?_ | refine SW.skip ?_ | refine SW.exit ?_ | intro _ | refine And.intro (by omega) ?_) | simp (config := { maxSteps := 1000000 }) (disch := (first | omega | (simp only [go_sem]; try omega))) only [go_sem, Nat.reduceAdd, Nat.reduceEqDiff, Nat.reduceLeDiff, Nat.reduceMul, Nat.reduceLT, reduceIte, Int.reduceToNat, w64_id, cast_succ])
      (first | refine SW.condD rfl (fun h => ?_) (fun h => ?_) | refine SW.condN rfl (fun h => ?_) (fun h => ?_) | refine SW.condNB rfl (fun h => ?_) (fun h => ?_) | refine SW.condB rfl (fun h => ?_) (fun h => ?_))
      · have hd : t.drop i = t.getD i 0 :: t.drop (i + 1) := by
          rw [List.drop_eq_getElem_cons (by omega)]; simp [List.getElem?_eq_getElem (show i < t.length by omega)]
        rw [hd, magF] at hm
        have hdg := l01Digit_fn (t.getD i 0)
        cases hD : isD (t.getD i 0)
        · rw [hD] at hdg hm
          rw [if_neg (by simp)] at hm
          rw [hm] at hrd
          rw [Option.bind_none] at hrd
          subst hrd
          repeat (first | (with_reducible first | refine SW.seq ?_ | refine SW.block ?_ | refine SW.rowC ?_ | refine SW.skip ?_ | refine SW.exit ?_ | refine PFn.use (hdg) ?_ | refine PFn.useq (hdg) ?_ | intro _ | refine And.intro (by omega) ?_) | simp (config := { maxSteps := 1000000 }) (disch := (first | omega | (simp only [go_sem]; try omega))) only [go_sem, Nat.reduceAdd, Nat.reduceEqDiff, Nat.reduceLeDiff, Nat.reduceMul, Nat.reduceLT, reduceIte, Int.reduceToNat, w64_id, cast_succ])
          refine SW.condT rfl ?_
          repeat (first | (with_reducible first | refine SW.seq ?_ | refine SW.block ?_ | refine SW.rowC ?_ | refine SW.skip ?_ | refine SW.exit ?_ | intro _ | refine And.intro (by omega) ?_) | simp (config := { maxSteps := 1000000 }) (disch := (first | omega | (simp only [go_sem]; try omega))) only [go_sem, Nat.reduceAdd, Nat.reduceEqDiff, Nat.reduceLeDiff, Nat.reduceMul, Nat.reduceLT, reduceIte, Int.reduceToNat, w64_id, cast_succ])
          refine SW.ret ?_; (try simp only [go_sem]); (first | refine FunPost.one ?_ | refine FunPost.two ?_ | refine FunPost.three ?_); (try simp (config := { maxSteps := 1000000 }) (disch := (first | omega | (simp only [go_sem]; try omega))) only [go_sem, Nat.reduceAdd, Nat.reduceEqDiff, Nat.reduceLeDiff, Nat.reduceMul, Nat.reduceLT, reduceIte, Int.reduceToNat, w64_id, cast_succ]); (first | (with_reducible refine GR.drop ?_ ?_; (simp only [go_sem, and_self, and_true, true_and, implies_true, List.take_succ_cons, List.take_zero])) | refine GR.of ?_); refine ⟨?_, rfl⟩; (try with_reducible rfl)
          rfl
        · rw [hD] at hdg hm
          rw [if_pos rfl] at hm
          have hD2 : 48 ≤ (t.getD i 0).toNat ∧ (t.getD i 0).toNat ≤ 57 := by
            unfold isD at hD
            simpa only [Bool.and_eq_true, decide_eq_true_eq] using hD
          have hsb : ((t.getD i 0) - 48).toNat = (t.getD i 0).toNat - 48 := UInt8.toNat_sub_of_le _ _ (UInt8.le_iff_toNat_le.2 hD2.1)
          have hw := fun H Kv => BinW_subU (H := H) (Kv := Kv) (t.getD i 0) 48 hD2.1
          have hpw : 10 * n + ((t.getD i 0).toNat - 48) < 10 ^ (i + 1) := by rw [Nat.pow_succ]; omega
          have hc : (10 : Int) * (n : Int) + (((t.getD i 0).toNat - 48 : Nat) : Int) = ((10 * n + ((t.getD i 0).toNat - 48) : Nat) : Int) := by omega
          repeat (first | (with_reducible first | refine SW.seq ?_ | refine SW.block ?_ | refine SW.rowC ?_ | refine SW.skip ?_ | refine SW.exit ?_ | refine PFn.use (hdg) ?_ | refine PFn.useq (hdg) ?_ | intro _ | refine And.intro (by omega) ?_) | simp (config := { maxSteps := 1000000 }) (disch := (first | omega | (simp only [go_sem]; try omega))) only [go_sem, Nat.reduceAdd, Nat.reduceEqDiff, Nat.reduceLeDiff, Nat.reduceMul, Nat.reduceLT, reduceIte, Int.reduceToNat, w64_id, cast_succ])
          refine SW.condF rfl ?_
          have hn17 : n < 10 ^ 17 := Nat.lt_of_lt_of_le hn (Nat.pow_le_pow_right (by omega) (by omega))
          repeat (first | (with_reducible first | refine SW.seq ?_ | refine SW.block ?_ | refine SW.rowC ?_ | refine SW.skip ?_ | refine SW.exit ?_ | intro _ | refine And.intro (by omega) ?_) | simp (config := { maxSteps := 1000000 }) (disch := (first | omega | (simp only [go_sem]; try omega))) only [go_sem, Nat.reduceAdd, Nat.reduceEqDiff, Nat.reduceLeDiff, Nat.reduceMul, Nat.reduceLT, reduceIte, Int.reduceToNat, w64_id, cast_succ, hw, hsb, hc])
          have hw1 : w64 ((10 : Int) * (n : Int)) = 10 * (n : Int) := w64_id (by omega) (by omega)
          have hw2 : w64 ((10 : Int) * (n : Int) + (((t.getD i 0).toNat - 48 : Nat) : Int)) = ((10 * n + ((t.getD i 0).toNat - 48) : Nat) : Int) := (w64_id (by omega) (by omega)).trans hc
          refine SLoop.next (t.length - (i + 1)) (by omega) ⟨i + 1, 10 * n + ((t.getD i 0).toNat - 48), by omega, hpw, hm, rfl, ?_, rfl⟩
          rfl
      · have hii : i = t.length := by omega
        subst hii
        rw [List.drop_length, magF] at hm
        rw [hm, Option.bind_some] at hrd
        repeat (first | (with_reducible first | refine SW.seq ?_ | refine SW.block ?_ | refine SW.rowC ?_ | refine SW.skip ?_ | refine SW.exit ?_ | intro _ | refine And.intro (by omega) ?_) | simp (config := { maxSteps := 1000000 }) (disch := (first | omega | (simp only [go_sem]; try omega))) only [go_sem, Nat.reduceAdd, Nat.reduceEqDiff, Nat.reduceLeDiff, Nat.reduceMul, Nat.reduceLT, reduceIte, Int.reduceToNat, w64_id, cast_succ])
        obtain ⟨z, hz, hzb⟩ : ∃ z : Int, z = (if t.length < t.length then -(n : Int) else n) ∧ z.natAbs < 10 ^ 18 := ⟨_, rfl, by split <;> omega⟩
        rw [← hz] at hrd
        have hdc := l01Dec_fn z hzb
        by_cases hts : t.length < t.length
        · rw [if_pos hts] at hz
          subst hz
          have d3 : decide ((t.length : Int) < (t.length : Int)) = true := decide_eq_true (by omega)
          repeat (first | (with_reducible first | refine SW.seq ?_ | refine SW.block ?_ | refine SW.rowC ?_ | refine SW.skip ?_ | refine SW.exit ?_ | intro _ | refine And.intro (by omega) ?_) | simp (config := { maxSteps := 1000000 }) (disch := (first | omega | (simp only [go_sem]; try omega))) only [go_sem, Nat.reduceAdd, Nat.reduceEqDiff, Nat.reduceLeDiff, Nat.reduceMul, Nat.reduceLT, reduceIte, Int.reduceToNat, w64_id, cast_succ, d3])
          refine SW.condT rfl ?_
          have hz0 : (0 : Int) - (n : Int) = -(n : Int) := by omega
          by_cases hi2 : Lib.itoa (-(n : Int)) = t
          · have d4 : decide (Lib.itoa (-(n : Int)) = t) = true := decide_eq_true hi2
            rw [if_pos hi2] at hrd
            subst hrd
            repeat (first | (with_reducible first | refine SW.seq ?_ | refine SW.block ?_ | refine SW.rowC ?_ | refine SW.skip ?_ | refine SW.exit ?_ | refine PFn.use (hdc) ?_ | refine PFn.useq (hdc) ?_ | intro _ | refine And.intro (by omega) ?_) | simp (config := { maxSteps := 1000000 }) (disch := (first | omega | (simp only [go_sem]; try omega))) only [go_sem, Nat.reduceAdd, Nat.reduceEqDiff, Nat.reduceLeDiff, Nat.reduceMul, Nat.reduceLT, reduceIte, Int.reduceToNat, w64_id, cast_succ, hz0, d4, Bool.not_true])
            refine SW.condF rfl ?_
            repeat (first | (with_reducible first | refine SW.seq ?_ | refine SW.block ?_ | refine SW.rowC ?_ | refine SW.skip ?_ | refine SW.exit ?_ | intro _ | refine And.intro (by omega) ?_) | simp (config := { maxSteps := 1000000 }) (disch := (first | omega | (simp only [go_sem]; try omega))) only [go_sem, Nat.reduceAdd, Nat.reduceEqDiff, Nat.reduceLeDiff, Nat.reduceMul, Nat.reduceLT, reduceIte, Int.reduceToNat, w64_id, cast_succ])
            refine SW.ret ?_; (try simp only [go_sem]); (first | refine FunPost.one ?_ | refine FunPost.two ?_ | refine FunPost.three ?_); (try simp (config := { maxSteps := 1000000 }) (disch := (first | omega | (simp only [go_sem]; try omega))) only [go_sem, Nat.reduceAdd, Nat.reduceEqDiff, Nat.reduceLeDiff, Nat.reduceMul, Nat.reduceLT, reduceIte, Int.reduceToNat, w64_id, cast_succ]); (first | (with_reducible refine GR.drop ?_ ?_; (simp only [go_sem, and_self, and_true, true_and, implies_true, List.take_succ_cons, List.take_zero])) | refine GR.of ?_); refine ⟨?_, rfl⟩; (try with_reducible rfl)
            rfl
          · have d4 : decide (Lib.itoa (-(n : Int)) = t) = false := decide_eq_false hi2
            rw [if_neg hi2] at hrd
            subst hrd
            repeat (first | (with_reducible first | refine SW.seq ?_ | refine SW.block ?_ | refine SW.rowC ?_ | refine SW.skip ?_ | refine SW.exit ?_ | refine PFn.use (hdc) ?_ | refine PFn.useq (hdc) ?_ | intro _ | refine And.intro (by omega) ?_) | simp (config := { maxSteps := 1000000 }) (disch := (first | omega | (simp only [go_sem]; try omega))) only [go_sem, Nat.reduceAdd, Nat.reduceEqDiff, Nat.reduceLeDiff, Nat.reduceMul, Nat.reduceLT, reduceIte, Int.reduceToNat, w64_id, cast_succ, hz0, d4, Bool.not_false])
            refine SW.condT rfl ?_
            repeat (first | (with_reducible first | refine SW.seq ?_ | refine SW.block ?_ | refine SW.rowC ?_ | refine SW.skip ?_ | refine SW.exit ?_ | intro _ | refine And.intro (by omega) ?_) | simp (config := { maxSteps := 1000000 }) (disch := (first | omega | (simp only [go_sem]; try omega))) only [go_sem, Nat.reduceAdd, Nat.reduceEqDiff, Nat.reduceLeDiff, Nat.reduceMul, Nat.reduceLT, reduceIte, Int.reduceToNat, w64_id, cast_succ])
            refine SW.ret ?_; (try simp only [go_sem]); (first | refine FunPost.one ?_ | refine FunPost.two ?_ | refine FunPost.three ?_); (try simp (config := { maxSteps := 1000000 }) (disch := (first | omega | (simp only [go_sem]; try omega))) only [go_sem, Nat.reduceAdd, Nat.reduceEqDiff, Nat.reduceLeDiff, Nat.reduceMul, Nat.reduceLT, reduceIte, Int.reduceToNat, w64_id, cast_succ]); (first | (with_reducible refine GR.drop ?_ ?_; (simp only [go_sem, and_self, and_true, true_and, implies_true, List.take_succ_cons, List.take_zero])) | refine GR.of ?_); refine ⟨?_, rfl⟩; (try with_reducible rfl)
            rfl
        · rw [if_neg hts] at hz
          subst hz
          have d3 : decide ((t.length : Int) < (t.length : Int)) = false := decide_eq_false (by omega)
          repeat (first | (with_reducible first | refine SW.seq ?_ | refine SW.block ?_ | refine SW.rowC ?_ | refine SW.skip ?_ | refine SW.exit ?_ | intro _ | refine And.intro (by omega) ?_) | simp (config := { maxSteps := 1000000 }) (disch := (first | omega | (simp only [go_sem]; try omega))) only [go_sem, Nat.reduceAdd, Nat.reduceEqDiff, Nat.reduceLeDiff, Nat.reduceMul, Nat.reduceLT, reduceIte, Int.reduceToNat, w64_id, cast_succ, d3])
          refine SW.condF rfl ?_
          repeat (first | (with_reducible first | refine SW.seq ?_ | refine SW.block ?_ | refine SW.rowC ?_ | refine SW.skip ?_ | refine SW.exit ?_ | refine PFn.use (hdc) ?_ | refine PFn.useq (hdc) ?_ | intro _ | refine And.intro (by omega) ?_) | simp (config := { maxSteps := 1000000 }) (disch := (first | omega | (simp only [go_sem]; try omega))) only [go_sem, Nat.reduceAdd, Nat.reduceEqDiff, Nat.reduceLeDiff, Nat.reduceMul, Nat.reduceLT, reduceIte, Int.reduceToNat, w64_id, cast_succ])
          by_cases hi2 : Lib.itoa ((n : Int)) = t
          · have d4 : decide (Lib.itoa ((n : Int)) = t) = true := decide_eq_true hi2
            rw [if_pos hi2] at hrd
            subst hrd
            repeat (first | (with_reducible first | refine SW.seq ?_ | refine SW.block ?_ | refine SW.rowC ?_ | refine SW.skip ?_ | refine SW.exit ?_ | intro _ | refine And.intro (by omega) ?_) | simp (config := { maxSteps := 1000000 }) (disch := (first | omega | (simp only [go_sem]; try omega))) only [go_sem, Nat.reduceAdd, Nat.reduceEqDiff, Nat.reduceLeDiff, Nat.reduceMul, Nat.reduceLT, reduceIte, Int.reduceToNat, w64_id, cast_succ, d4, Bool.not_true])
            refine SW.condF rfl ?_
            repeat (first | (with_reducible first | refine SW.seq ?_ | refine SW.block ?_ | refine SW.rowC ?_ | refine SW.skip ?_ | refine SW.exit ?_ | intro _ | refine And.intro (by omega) ?_) | simp (config := { maxSteps := 1000000 }) (disch := (first | omega | (simp only [go_sem]; try omega))) only [go_sem, Nat.reduceAdd, Nat.reduceEqDiff, Nat.reduceLeDiff, Nat.reduceMul, Nat.reduceLT, reduceIte, Int.reduceToNat, w64_id, cast_succ])
            refine SW.ret ?_; (try simp only [go_sem]); (first | refine FunPost.one ?_ | refine FunPost.two ?_ | refine FunPost.three ?_); (try simp (config := { maxSteps := 1000000 }) (disch := (first | omega | (simp only [go_sem]; try omega))) only [go_sem, Nat.reduceAdd, Nat.reduceEqDiff, Nat.reduceLeDiff, Nat.reduceMul, Nat.reduceLT, reduceIte, Int.reduceToNat, w64_id, cast_succ]); (first | (with_reducible refine GR.drop ?_ ?_; (simp only [go_sem, and_self, and_true, true_and, implies_true, List.take_succ_cons, List.take_zero])) | refine GR.of ?_); refine ⟨?_, rfl⟩; (try with_reducible rfl)
            rfl
          · have d4 : decide (Lib.itoa ((n : Int)) = t) = false := decide_eq_false hi2
            rw [if_neg hi2] at hrd
            subst hrd
            repeat (first | (with_reducible first | refine SW.seq ?_ | refine SW.block ?_ | refine SW.rowC ?_ | refine SW.skip ?_ | refine SW.exit ?_ | intro _ | refine And.intro (by omega) ?_) | simp (config := { maxSteps := 1000000 }) (disch := (first | omega | (simp only [go_sem]; try omega))) only [go_sem, Nat.reduceAdd, Nat.reduceEqDiff, Nat.reduceLeDiff, Nat.reduceMul, Nat.reduceLT, reduceIte, Int.reduceToNat, w64_id, cast_succ, d4, Bool.not_false])
            refine SW.condT rfl ?_
            repeat (first | (with_reducible first | refine SW.seq ?_ | refine SW.block ?_ | refine SW.rowC ?_ | refine SW.skip ?_ | refine SW.exit ?_ | intro _ | refine And.intro (by omega) ?_) | simp (config := { maxSteps := 1000000 }) (disch := (first | omega | (simp only [go_sem]; try omega))) only [go_sem, Nat.reduceAdd, Nat.reduceEqDiff, Nat.reduceLeDiff, Nat.reduceMul, Nat.reduceLT, reduceIte, Int.reduceToNat, w64_id, cast_succ])
            refine SW.ret ?_; (try simp only [go_sem]); (first | refine FunPost.one ?_ | refine FunPost.two ?_ | refine FunPost.three ?_); (try simp (config := { maxSteps := 1000000 }) (disch := (first | omega | (simp only [go_sem]; try omega))) only [go_sem, Nat.reduceAdd, Nat.reduceEqDiff, Nat.reduceLeDiff, Nat.reduceMul, Nat.reduceLT, reduceIte, Int.reduceToNat, w64_id, cast_succ]); (first | (with_reducible refine GR.drop ?_ ?_; (simp only [go_sem, and_self, and_true, true_and, implies_true, List.take_succ_cons, List.take_zero])) | refine GR.of ?_); refine ⟨?_, rfl⟩; (try with_reducible rfl)
            rfl
    · rw [if_neg hl] at hrd
      subst hrd
      (first | refine GSplit.df (fun h5 => ?_) (fun h5 => ?_) | refine GSplit.dt (fun h5 => ?_) (fun h5 => ?_) | refine GSplit.ndf (fun h5 => ?_) (fun h5 => ?_) | refine GSplit.ndt (fun h5 => ?_) (fun h5 => ?_) | refine GSplit.nbf (fun h5 => ?_) (fun h5 => ?_) | refine GSplit.nbt (fun h5 => ?_) (fun h5 => ?_) | refine GSplit.bf (fun h5 => ?_) (fun h5 => ?_) | refine GSplit.bt (fun h5 => ?_) (fun h5 => ?_))
      · have d2 : decide ((18 : Int) < (t.length : Int)) = true := decide_eq_true (by omega)
        repeat (first | (with_reducible first | refine SW.seq ?_ | refine SW.block ?_ | refine SW.rowC ?_ | refine SW.skip ?_ | refine SW.exit ?_ | intro _ | refine And.intro (by omega) ?_) | simp (config := { maxSteps := 1000000 }) (disch := (first | omega | (simp only [go_sem]; try omega))) only [go_sem, Nat.reduceAdd, Nat.reduceEqDiff, Nat.reduceLeDiff, Nat.reduceMul, Nat.reduceLT, reduceIte, Int.reduceToNat, w64_id, cast_succ, d2])
        refine SW.condT rfl ?_
        repeat (first | (with_reducible first | refine SW.seq ?_ | refine SW.block ?_ | refine SW.rowC ?_ | refine SW.skip ?_ | refine SW.exit ?_ | intro _ | refine And.intro (by omega) ?_) | simp (config := { maxSteps := 1000000 }) (disch := (first | omega | (simp only [go_sem]; try omega))) only [go_sem, Nat.reduceAdd, Nat.reduceEqDiff, Nat.reduceLeDiff, Nat.reduceMul, Nat.reduceLT, reduceIte, Int.reduceToNat, w64_id, cast_succ])
        refine SW.ret ?_; (try simp only [go_sem]); (first | refine FunPost.one ?_ | refine FunPost.two ?_ | refine FunPost.three ?_); (try simp (config := { maxSteps := 1000000 }) (disch := (first | omega | (simp only [go_sem]; try omega))) only [go_sem, Nat.reduceAdd, Nat.reduceEqDiff, Nat.reduceLeDiff, Nat.reduceMul, Nat.reduceLT, reduceIte, Int.reduceToNat, w64_id, cast_succ]); (first | (with_reducible refine GR.drop ?_ ?_; (simp only [go_sem, and_self, and_true, true_and, implies_true, List.take_succ_cons, List.take_zero])) | refine GR.of ?_); refine ⟨?_, rfl⟩; (try with_reducible rfl)
        rfl
      · refine SW.condT rfl ?_
        repeat (first | (with_reducible first | refine SW.seq ?_ | refine SW.block ?_ | refine SW.rowC ?_ | refine SW.skip ?_ | refine SW.exit ?_ | intro _ | refine And.intro (by omega) ?_) | simp (config := { maxSteps := 1000000 }) (disch := (first | omega | (simp only [go_sem]; try omega))) only [go_sem, Nat.reduceAdd, Nat.reduceEqDiff, Nat.reduceLeDiff, Nat.reduceMul, Nat.reduceLT, reduceIte, Int.reduceToNat, w64_id, cast_succ])
        refine SW.ret ?_; (try simp only [go_sem]); (first | refine FunPost.one ?_ | refine FunPost.two ?_ | refine FunPost.three ?_); (try simp (config := { maxSteps := 1000000 }) (disch := (first | omega | (simp only [go_sem]; try omega))) only [go_sem, Nat.reduceAdd, Nat.reduceEqDiff, Nat.reduceLeDiff, Nat.reduceMul, Nat.reduceLT, reduceIte, Int.reduceToNat, w64_id, cast_succ]); (first | (with_reducible refine GR.drop ?_ ?_; (simp only [go_sem, and_self, and_true, true_and, implies_true, List.take_succ_cons, List.take_zero])) | refine GR.of ?_); refine ⟨?_, rfl⟩; (try with_reducible rfl)
        rfl
  · have d1 : decide (s = []) = false := decide_eq_false h1
    have d2 : decide ((45 : UInt8) = 45) = true := rfl
    repeat (first | (with_reducible first | refine SW.seq ?_ | refine SW.block ?_ | refine SW.rowC ?_ | refine SW.skip ?_ | refine SW.exit ?_ | intro _ | refine And.intro (by omega) ?_) | simp (config := { maxSteps := 1000000 }) (disch := (first | omega | (simp only [go_sem]; try omega))) only [go_sem, Nat.reduceAdd, Nat.reduceEqDiff, Nat.reduceLeDiff, Nat.reduceMul, Nat.reduceLT, reduceIte, Int.reduceToNat, w64_id, cast_succ, d1, Bool.not_false, h2, d2])
    refine SW.condT rfl ?_
    repeat (first | (with_reducible first | refine SW.seq ?_ | refine SW.block ?_ | refine SW.rowC ?_ | refine SW.skip ?_ | refine SW.exit ?_ | intro _ | refine And.intro (by omega) ?_) | simp (config := { maxSteps := 1000000 }) (disch := (first | omega | (simp only [go_sem]; try omega))) only [go_sem, Nat.reduceAdd, Nat.reduceEqDiff, Nat.reduceLeDiff, Nat.reduceMul, Nat.reduceLT, reduceIte, Int.reduceToNat, w64_id, cast_succ, h3])
    by_cases hl : 1 ≤ t.length ∧ t.length ≤ 18
    · rw [if_pos hl] at hrd
      have d1 : decide ((t.length : Int) < 1) = false := decide_eq_false (by omega)
      have d2 : decide ((18 : Int) < (t.length : Int)) = false := decide_eq_false (by omega)
      repeat (first | (with_reducible first | refine SW.seq ?_ | refine SW.block ?_ | refine SW.rowC ?_ | refine SW.skip ?_ | refine SW.exit ?_ | intro _ | refine And.intro (by omega) ?_) | simp (config := { maxSteps := 1000000 }) (disch := (first | omega | (simp only [go_sem]; try omega))) only [go_sem, Nat.reduceAdd, Nat.reduceEqDiff, Nat.reduceLeDiff, Nat.reduceMul, Nat.reduceLT, reduceIte, Int.reduceToNat, w64_id, cast_succ, d1, d2])
      refine SW.condF rfl ?_
      repeat (first | (with_reducible first | refine SW.seq ?_ | refine SW.block ?_ | refine SW.rowC ?_ | refine SW.skip ?_ | refine SW.exit ?_ | intro _ | refine And.intro (by omega) ?_) | simp (config := { maxSteps := 1000000 }) (disch := (first | omega | (simp only [go_sem]; try omega))) only [go_sem, Nat.reduceAdd, Nat.reduceEqDiff, Nat.reduceLeDiff, Nat.reduceMul, Nat.reduceLT, reduceIte, Int.reduceToNat, w64_id, cast_succ])
      refine SW.loopE (fun E0 H0 q E' H' => ∃ (i n : Nat), i ≤ t.length ∧ n < 10 ^ i ∧ magF t 0 = magF (t.drop i) n ∧ q = t.length - i ∧ E' = aput (aput E0 5 (I n)) 6 (I i) ∧ H' = H0) t.length ⟨0, 0, by omega, by omega, rfl, by omega, rfl, rfl⟩ ?_
      rintro q E' H' ⟨i, n, hi, hn, hm, rfl, rfl, rfl⟩
      have hn18 : n < 10 ^ 18 := Nat.lt_of_lt_of_le hn (Nat.pow_le_pow_right (by omega) (by omega))
      simp (config := { maxSteps := 1000000 }) (disch := (first | omega | (simp only [go_sem]; try omega))) only [go_sem, Nat.reduceAdd, Nat.reduceEqDiff, Nat.reduceLeDiff, Nat.reduceMul, Nat.reduceLT, reduceIte, Int.reduceToNat, w64_id, cast_succ]
      repeat (first | (with_reducible first | refine SW.seq ?_ | refine SW.block ?_ | refine SW.rowC ?_ | refine SW.skip ?_ | refine SW.exit ?_ | intro _ | refine And.intro (by omega) ?_) | simp (config := { maxSteps := 1000000 }) (disch := (first | omega | (simp only [go_sem]; try omega))) only [go_sem, Nat.reduceAdd, Nat.reduceEqDiff, Nat.reduceLeDiff, Nat.reduceMul, Nat.reduceLT, reduceIte, Int.reduceToNat, w64_id, cast_succ])
      (first | refine SW.condD rfl (fun h => ?_) (fun h => ?_) | refine SW.condN rfl (fun h => ?_) (fun h => ?_) | refine SW.condNB rfl (fun h => ?_) (fun h => ?_) | refine SW.condB rfl (fun h => ?_) (fun h => ?_))
      · have hd : t.drop i = t.getD i 0 :: t.drop (i + 1) := by
          rw [List.drop_eq_getElem_cons (by omega)]; simp [List.getElem?_eq_getElem (show i < t.length by omega)]
        rw [hd, magF] at hm
        have hdg := l01Digit_fn (t.getD i 0)
        cases hD : isD (t.getD i 0)
        · rw [hD] at hdg hm
          rw [if_neg (by simp)] at hm
          rw [hm] at hrd
          rw [Option.bind_none] at hrd
          subst hrd
          repeat (first | (with_reducible first | refine SW.seq ?_ | refine SW.block ?_ | refine SW.rowC ?_ | refine SW.skip ?_ | refine SW.exit ?_ | refine PFn.use (hdg) ?_ | refine PFn.useq (hdg) ?_ | intro _ | refine And.intro (by omega) ?_) | simp (config := { maxSteps := 1000000 }) (disch := (first | omega | (simp only [go_sem]; try omega))) only [go_sem, Nat.reduceAdd, Nat.reduceEqDiff, Nat.reduceLeDiff, Nat.reduceMul, Nat.reduceLT, reduceIte, Int.reduceToNat, w64_id, cast_succ])
          refine SW.condT rfl ?_
          repeat (first | (with_reducible first | refine SW.seq ?_ | refine SW.block ?_ | refine SW.rowC ?_ | refine SW.skip ?_ | refine SW.exit ?_ | intro _ | refine And.intro (by omega) ?_) | simp (config := { maxSteps := 1000000 }) (disch := (first | omega | (simp only [go_sem]; try omega))) only [go_sem, Nat.reduceAdd, Nat.reduceEqDiff, Nat.reduceLeDiff, Nat.reduceMul, Nat.reduceLT, reduceIte, Int.reduceToNat, w64_id, cast_succ])
          refine SW.ret ?_; (try simp only [go_sem]); (first | refine FunPost.one ?_ | refine FunPost.two ?_ | refine FunPost.three ?_); (try simp (config := { maxSteps := 1000000 }) (disch := (first | omega | (simp only [go_sem]; try omega))) only [go_sem, Nat.reduceAdd, Nat.reduceEqDiff, Nat.reduceLeDiff, Nat.reduceMul, Nat.reduceLT, reduceIte, Int.reduceToNat, w64_id, cast_succ]); (first | (with_reducible refine GR.drop ?_ ?_; (simp only [go_sem, and_self, and_true, true_and, implies_true, List.take_succ_cons, List.take_zero])) | refine GR.of ?_); refine ⟨?_, rfl⟩; (try with_reducible rfl)
          rfl
        · rw [hD] at hdg hm
          rw [if_pos rfl] at hm
          have hD2 : 48 ≤ (t.getD i 0).toNat ∧ (t.getD i 0).toNat ≤ 57 := by
            unfold isD at hD
            simpa only [Bool.and_eq_true, decide_eq_true_eq] using hD
          have hsb : ((t.getD i 0) - 48).toNat = (t.getD i 0).toNat - 48 := UInt8.toNat_sub_of_le _ _ (UInt8.le_iff_toNat_le.2 hD2.1)
          have hw := fun H Kv => BinW_subU (H := H) (Kv := Kv) (t.getD i 0) 48 hD2.1
          have hpw : 10 * n + ((t.getD i 0).toNat - 48) < 10 ^ (i + 1) := by rw [Nat.pow_succ]; omega
          have hc : (10 : Int) * (n : Int) + (((t.getD i 0).toNat - 48 : Nat) : Int) = ((10 * n + ((t.getD i 0).toNat - 48) : Nat) : Int) := by omega
          repeat (first | (with_reducible first | refine SW.seq ?_ | refine SW.block ?_ | refine SW.rowC ?_ | refine SW.skip ?_ | refine SW.exit ?_ | refine PFn.use (hdg) ?_ | refine PFn.useq (hdg) ?_ | intro _ | refine And.intro (by omega) ?_) | simp (config := { maxSteps := 1000000 }) (disch := (first | omega | (simp only [go_sem]; try omega))) only [go_sem, Nat.reduceAdd, Nat.reduceEqDiff, Nat.reduceLeDiff, Nat.reduceMul, Nat.reduceLT, reduceIte, Int.reduceToNat, w64_id, cast_succ])
          refine SW.condF rfl ?_
          have hn17 : n < 10 ^ 17 := Nat.lt_of_lt_of_le hn (Nat.pow_le_pow_right (by omega) (by omega))
          repeat (first | (with_reducible first | refine SW.seq ?_ | refine SW.block ?_ | refine SW.rowC ?_ | refine SW.skip ?_ | refine SW.exit ?_ | intro _ | refine And.intro (by omega) ?_) | simp (config := { maxSteps := 1000000 }) (disch := (first | omega | (simp only [go_sem]; try omega))) only [go_sem, Nat.reduceAdd, Nat.reduceEqDiff, Nat.reduceLeDiff, Nat.reduceMul, Nat.reduceLT, reduceIte, Int.reduceToNat, w64_id, cast_succ, hw, hsb, hc])
          have hw1 : w64 ((10 : Int) * (n : Int)) = 10 * (n : Int) := w64_id (by omega) (by omega)
          have hw2 : w64 ((10 : Int) * (n : Int) + (((t.getD i 0).toNat - 48 : Nat) : Int)) = ((10 * n + ((t.getD i 0).toNat - 48) : Nat) : Int) := (w64_id (by omega) (by omega)).trans hc
          refine SLoop.next (t.length - (i + 1)) (by omega) ⟨i + 1, 10 * n + ((t.getD i 0).toNat - 48), by omega, hpw, hm, rfl, ?_, rfl⟩
          rfl
      · have hii : i = t.length := by omega
        subst hii
        rw [List.drop_length, magF] at hm
        rw [hm, Option.bind_some] at hrd
        repeat (first | (with_reducible first | refine SW.seq ?_ | refine SW.block ?_ | refine SW.rowC ?_ | refine SW.skip ?_ | refine SW.exit ?_ | intro _ | refine And.intro (by omega) ?_) | simp (config := { maxSteps := 1000000 }) (disch := (first | omega | (simp only [go_sem]; try omega))) only [go_sem, Nat.reduceAdd, Nat.reduceEqDiff, Nat.reduceLeDiff, Nat.reduceMul, Nat.reduceLT, reduceIte, Int.reduceToNat, w64_id, cast_succ])
        obtain ⟨z, hz, hzb⟩ : ∃ z : Int, z = (if t.length < s.length then -(n : Int) else n) ∧ z.natAbs < 10 ^ 18 := ⟨_, rfl, by split <;> omega⟩
        rw [← hz] at hrd
        have hdc := l01Dec_fn z hzb
        by_cases hts : t.length < s.length
        · rw [if_pos hts] at hz
          subst hz
          have d3 : decide ((t.length : Int) < (s.length : Int)) = true := decide_eq_true (by omega)
          repeat (first | (with_reducible first | refine SW.seq ?_ | refine SW.block ?_ | refine SW.rowC ?_ | refine SW.skip ?_ | refine SW.exit ?_ | intro _ | refine And.intro (by omega) ?_) | simp (config := { maxSteps := 1000000 }) (disch := (first | omega | (simp only [go_sem]; try omega))) only [go_sem, Nat.reduceAdd, Nat.reduceEqDiff, Nat.reduceLeDiff, Nat.reduceMul, Nat.reduceLT, reduceIte, Int.reduceToNat, w64_id, cast_succ, d3])
          refine SW.condT rfl ?_
          have hz0 : (0 : Int) - (n : Int) = -(n : Int) := by omega
          by_cases hi2 : Lib.itoa (-(n : Int)) = s
          · have d4 : decide (Lib.itoa (-(n : Int)) = s) = true := decide_eq_true hi2
            rw [if_pos hi2] at hrd
            subst hrd
            repeat (first | (with_reducible first | refine SW.seq ?_ | refine SW.block ?_ | refine SW.rowC ?_ | refine SW.skip ?_ | refine SW.exit ?_ | refine PFn.use (hdc) ?_ | refine PFn.useq (hdc) ?_ | intro _ | refine And.intro (by omega) ?_) | simp (config := { maxSteps := 1000000 }) (disch := (first | omega | (simp only [go_sem]; try omega))) only [go_sem, Nat.reduceAdd, Nat.reduceEqDiff, Nat.reduceLeDiff, Nat.reduceMul, Nat.reduceLT, reduceIte, Int.reduceToNat, w64_id, cast_succ, hz0, d4, Bool.not_true])
            refine SW.condF rfl ?_
            repeat (first | (with_reducible first | refine SW.seq ?_ | refine SW.block ?_ | refine SW.rowC ?_ | refine SW.skip ?_ | refine SW.exit ?_ | intro _ | refine And.intro (by omega) ?_) | simp (config := { maxSteps := 1000000 }) (disch := (first | omega | (simp only [go_sem]; try omega))) only [go_sem, Nat.reduceAdd, Nat.reduceEqDiff, Nat.reduceLeDiff, Nat.reduceMul, Nat.reduceLT, reduceIte, Int.reduceToNat, w64_id, cast_succ])
            refine SW.ret ?_; (try simp only [go_sem]); (first | refine FunPost.one ?_ | refine FunPost.two ?_ | refine FunPost.three ?_); (try simp (config := { maxSteps := 1000000 }) (disch := (first | omega | (simp only [go_sem]; try omega))) only [go_sem, Nat.reduceAdd, Nat.reduceEqDiff, Nat.reduceLeDiff, Nat.reduceMul, Nat.reduceLT, reduceIte, Int.reduceToNat, w64_id, cast_succ]); (first | (with_reducible refine GR.drop ?_ ?_; (simp only [go_sem, and_self, and_true, true_and, implies_true, List.take_succ_cons, List.take_zero])) | refine GR.of ?_); refine ⟨?_, rfl⟩; (try with_reducible rfl)
            rfl
          · have d4 : decide (Lib.itoa (-(n : Int)) = s) = false := decide_eq_false hi2
            rw [if_neg hi2] at hrd
            subst hrd
            repeat (first | (with_reducible first | refine SW.seq ?_ | refine SW.block ?_ | refine SW.rowC ?_ | refine SW.skip ?_ | refine SW.exit ?_ | refine PFn.use (hdc) ?_ | refine PFn.useq (hdc) ?_ | intro _ | refine And.intro (by omega) ?_) | simp (config := { maxSteps := 1000000 }) (disch := (first | omega | (simp only [go_sem]; try omega))) only [go_sem, Nat.reduceAdd, Nat.reduceEqDiff, Nat.reduceLeDiff, Nat.reduceMul, Nat.reduceLT, reduceIte, Int.reduceToNat, w64_id, cast_succ, hz0, d4, Bool.not_false])
            refine SW.condT rfl ?_
            repeat (first | (with_reducible first | refine SW.seq ?_ | refine SW.block ?_ | refine SW.rowC ?_ | refine SW.skip ?_ | refine SW.exit ?_ | intro _ | refine And.intro (by omega) ?_) | simp (config := { maxSteps := 1000000 }) (disch := (first | omega | (simp only [go_sem]; try omega))) only [go_sem, Nat.reduceAdd, Nat.reduceEqDiff, Nat.reduceLeDiff, Nat.reduceMul, Nat.reduceLT, reduceIte, Int.reduceToNat, w64_id, cast_succ])
            refine SW.ret ?_; (try simp only [go_sem]); (first | refine FunPost.one ?_ | refine FunPost.two ?_ | refine FunPost.three ?_); (try simp (config := { maxSteps := 1000000 }) (disch := (first | omega | (simp only [go_sem]; try omega))) only [go_sem, Nat.reduceAdd, Nat.reduceEqDiff, Nat.reduceLeDiff, Nat.reduceMul, Nat.reduceLT, reduceIte, Int.reduceToNat, w64_id, cast_succ]); (first | (with_reducible refine GR.drop ?_ ?_; (simp only [go_sem, and_self, and_true, true_and, implies_true, List.take_succ_cons, List.take_zero])) | refine GR.of ?_); refine ⟨?_, rfl⟩; (try with_reducible rfl)
            rfl
        · rw [if_neg hts] at hz
          subst hz
          have d3 : decide ((t.length : Int) < (s.length : Int)) = false := decide_eq_false (by omega)
          repeat (first | (with_reducible first | refine SW.seq ?_ | refine SW.block ?_ | refine SW.rowC ?_ | refine SW.skip ?_ | refine SW.exit ?_ | intro _ | refine And.intro (by omega) ?_) | simp (config := { maxSteps := 1000000 }) (disch := (first | omega | (simp only [go_sem]; try omega))) only [go_sem, Nat.reduceAdd, Nat.reduceEqDiff, Nat.reduceLeDiff, Nat.reduceMul, Nat.reduceLT, reduceIte, Int.reduceToNat, w64_id, cast_succ, d3])
          refine SW.condF rfl ?_
          repeat (first | (with_reducible first | refine SW.seq ?_ | refine SW.block ?_ | refine SW.rowC ?_ | refine SW.skip ?_ | refine SW.exit ?_ | refine PFn.use (hdc) ?_ | refine PFn.useq (hdc) ?_ | intro _ | refine And.intro (by omega) ?_) | simp (config := { maxSteps := 1000000 }) (disch := (first | omega | (simp only [go_sem]; try omega))) only [go_sem, Nat.reduceAdd, Nat.reduceEqDiff, Nat.reduceLeDiff, Nat.reduceMul, Nat.reduceLT, reduceIte, Int.reduceToNat, w64_id, cast_succ])
          by_cases hi2 : Lib.itoa ((n : Int)) = s
          · have d4 : decide (Lib.itoa ((n : Int)) = s) = true := decide_eq_true hi2
            rw [if_pos hi2] at hrd
            subst hrd
            repeat (first | (with_reducible first | refine SW.seq ?_ | refine SW.block ?_ | refine SW.rowC ?_ | refine SW.skip ?_ | refine SW.exit ?_ | intro _ | refine And.intro (by omega) ?_) | simp (config := { maxSteps := 1000000 }) (disch := (first | omega | (simp only [go_sem]; try omega))) only [go_sem, Nat.reduceAdd, Nat.reduceEqDiff, Nat.reduceLeDiff, Nat.reduceMul, Nat.reduceLT, reduceIte, Int.reduceToNat, w64_id, cast_succ, d4, Bool.not_true])
            refine SW.condF rfl ?_
            repeat (first | (with_reducible first | refine SW.seq ?_ | refine SW.block ?_ | refine SW.rowC ?_ | refine SW.skip ?_ | refine SW.exit ?_ | intro _ | refine And.intro (by omega) ?_) | simp (config := { maxSteps := 1000000 }) (disch := (first | omega | (simp only [go_sem]; try omega))) only [go_sem, Nat.reduceAdd, Nat.reduceEqDiff, Nat.reduceLeDiff, Nat.reduceMul, Nat.reduceLT, reduceIte, Int.reduceToNat, w64_id, cast_succ])
            refine SW.ret ?_; (try simp only [go_sem]); (first | refine FunPost.one ?_ | refine FunPost.two ?_ | refine FunPost.three ?_); (try simp (config := { maxSteps := 1000000 }) (disch := (first | omega | (simp only [go_sem]; try omega))) only [go_sem, Nat.reduceAdd, Nat.reduceEqDiff, Nat.reduceLeDiff, Nat.reduceMul, Nat.reduceLT, reduceIte, Int.reduceToNat, w64_id, cast_succ]); (first | (with_reducible refine GR.drop ?_ ?_; (simp only [go_sem, and_self, and_true, true_and, implies_true, List.take_succ_cons, List.take_zero])) | refine GR.of ?_); refine ⟨?_, rfl⟩; (try with_reducible rfl)
            rfl
          · have d4 : decide (Lib.itoa ((n : Int)) = s) = false := decide_eq_false hi2
            rw [if_neg hi2] at hrd
            subst hrd
            repeat (first | (with_reducible first | refine SW.seq ?_ | refine SW.block ?_ | refine SW.rowC ?_ | refine SW.skip ?_ | refine SW.exit ?_ | intro _ | refine And.intro (by omega) ?_) | simp (config := { maxSteps := 1000000 }) (disch := (first | omega | (simp only [go_sem]; try omega))) only [go_sem, Nat.reduceAdd, Nat.reduceEqDiff, Nat.reduceLeDiff, Nat.reduceMul, Nat.reduceLT, reduceIte, Int.reduceToNat, w64_id, cast_succ, d4, Bool.not_false])
            refine SW.condT rfl ?_
            repeat (first | (with_reducible first | refine SW.seq ?_ | refine SW.block ?_ | refine SW.rowC ?_ | refine SW.skip ?_ | refine SW.exit ?_ | intro _ | refine And.intro (by omega) ?_) | simp (config := { maxSteps := 1000000 }) (disch := (first | omega | (simp only [go_sem]; try omega))) only [go_sem, Nat.reduceAdd, Nat.reduceEqDiff, Nat.reduceLeDiff, Nat.reduceMul, Nat.reduceLT, reduceIte, Int.reduceToNat, w64_id, cast_succ])
            refine SW.ret ?_; (try simp only [go_sem]); (first | refine FunPost.one ?_ | refine FunPost.two ?_ | refine FunPost.three ?_); (try simp (config := { maxSteps := 1000000 }) (disch := (first | omega | (simp only [go_sem]; try omega))) only [go_sem, Nat.reduceAdd, Nat.reduceEqDiff, Nat.reduceLeDiff, Nat.reduceMul, Nat.reduceLT, reduceIte, Int.reduceToNat, w64_id, cast_succ]); (first | (with_reducible refine GR.drop ?_ ?_; (simp only [go_sem, and_self, and_true, true_and, implies_true, List.take_succ_cons, List.take_zero])) | refine GR.of ?_); refine ⟨?_, rfl⟩; (try with_reducible rfl)
            rfl
    · rw [if_neg hl] at hrd
      subst hrd
      (first | refine GSplit.df (fun h5 => ?_) (fun h5 => ?_) | refine GSplit.dt (fun h5 => ?_) (fun h5 => ?_) | refine GSplit.ndf (fun h5 => ?_) (fun h5 => ?_) | refine GSplit.ndt (fun h5 => ?_) (fun h5 => ?_) | refine GSplit.nbf (fun h5 => ?_) (fun h5 => ?_) | refine GSplit.nbt (fun h5 => ?_) (fun h5 => ?_) | refine GSplit.bf (fun h5 => ?_) (fun h5 => ?_) | refine GSplit.bt (fun h5 => ?_) (fun h5 => ?_))
      · have d2 : decide ((18 : Int) < (t.length : Int)) = true := decide_eq_true (by omega)
        repeat (first | (with_reducible first | refine SW.seq ?_ | refine SW.block ?_ | refine SW.rowC ?_ | refine SW.skip ?_ | refine SW.exit ?_ | intro _ | refine And.intro (by omega) ?_) | simp (config := { maxSteps := 1000000 }) (disch := (first | omega | (simp only [go_sem]; try omega))) only [go_sem, Nat.reduceAdd, Nat.reduceEqDiff, Nat.reduceLeDiff, Nat.reduceMul, Nat.reduceLT, reduceIte, Int.reduceToNat, w64_id, cast_succ, d2])
        refine SW.condT rfl ?_
        repeat (first | (with_reducible first | refine SW.seq ?_ | refine SW.block ?_ | refine SW.rowC ?_ | refine SW.skip ?_ | refine SW.exit ?_ | intro _ | refine And.intro (by omega) ?_) | simp (config := { maxSteps := 1000000 }) (disch := (first | omega | (simp only [go_sem]; try omega))) only [go_sem, Nat.reduceAdd, Nat.reduceEqDiff, Nat.reduceLeDiff, Nat.reduceMul, Nat.reduceLT, reduceIte, Int.reduceToNat, w64_id, cast_succ])
        refine SW.ret ?_; (try simp only [go_sem]); (first | refine FunPost.one ?_ | refine FunPost.two ?_ | refine FunPost.three ?_); (try simp (config := { maxSteps := 1000000 }) (disch := (first | omega | (simp only [go_sem]; try omega))) only [go_sem, Nat.reduceAdd, Nat.reduceEqDiff, Nat.reduceLeDiff, Nat.reduceMul, Nat.reduceLT, reduceIte, Int.reduceToNat, w64_id, cast_succ]); (first | (with_reducible refine GR.drop ?_ ?_; (simp only [go_sem, and_self, and_true, true_and, implies_true, List.take_succ_cons, List.take_zero])) | refine GR.of ?_); refine ⟨?_, rfl⟩; (try with_reducible rfl)
        rfl
      · refine SW.condT rfl ?_
        repeat (first | (with_reducible first | refine SW.seq ?_ | refine SW.block ?_ | refine SW.rowC ?_ | refine SW.skip ?_ | refine SW.exit ?_ | intro _ | refine And.intro (by omega) ?_) | simp (config := { maxSteps := 1000000 }) (disch := (first | omega | (simp only [go_sem]; try omega))) only [go_sem, Nat.reduceAdd, Nat.reduceEqDiff, Nat.reduceLeDiff, Nat.reduceMul, Nat.reduceLT, reduceIte, Int.reduceToNat, w64_id, cast_succ])
        refine SW.ret ?_; (try simp only [go_sem]); (first | refine FunPost.one ?_ | refine FunPost.two ?_ | refine FunPost.three ?_); (try simp (config := { maxSteps := 1000000 }) (disch := (first | omega | (simp only [go_sem]; try omega))) only [go_sem, Nat.reduceAdd, Nat.reduceEqDiff, Nat.reduceLeDiff, Nat.reduceMul, Nat.reduceLT, reduceIte, Int.reduceToNat, w64_id, cast_succ]); (first | (with_reducible refine GR.drop ?_ ?_; (simp only [go_sem, and_self, and_true, true_and, implies_true, List.take_succ_cons, List.take_zero])) | refine GR.of ?_); refine ⟨?_, rfl⟩; (try with_reducible rfl)
        rfl
theorem belT {k : Nat} {xs : List (List UInt8)} {y : List UInt8} : (∀ c : AV, c ∈ xs.map Tx ∨ c = Tx y → Bel k c) = True := eq_true (by
  rintro c (h | rfl)
  · obtain ⟨x, _, rfl⟩ := List.mem_map.1 h
    exact .lit _
  · exact .lit _)
theorem froz_T {H : List Blk} {b r ver ty n : Nat} {xs : List (List UInt8)} (hb : b ≤ r) (hr : H[r]? = some ⟨ver, ty, 1, xs.map Tx⟩) (hn : n = xs.length) : Froz H b (.nm r ver 0 n) (ilT xs) := by
  subst hn
  have := froz_own (e := fun _ => nilS) (cs' := xs.map Tx) hb hr rfl (fun j c c' h1 h2 => by
    rw [h1] at h2; cases h2
    obtain ⟨x, _, rfl⟩ := List.mem_map.1 (List.mem_of_getElem? h1)
    exact .old _ (.lit _))
  simpa [ilT] using this
theorem l01Split_fn (s : List UInt8) (b : UInt8) (hs : s.length ≤ 2000000) : PFn Tryd.prog f_spec_l01Split [Tx s, U8 b] (ilT (spl b s)) := by
  intro H
  refine ACalls.introB s_spec_l01Split (by simp) ?_; intro hB hA; unfold c_spec_l01Split; simp (config := { maxSteps := 1000000 }) (disch := (first | omega | (simp only [go_sem]; try omega))) only [go_sem, Nat.reduceAdd, Nat.reduceEqDiff, Nat.reduceLeDiff, Nat.reduceMul, Nat.reduceLT, reduceIte, Int.reduceToNat, w64_id, cast_succ]
  repeat (first | (with_reducible first | refine SW.seq ?_ | refine SW.block ?_ | refine SW.rowC ?_ | refine SW.skip ?_ | refine SW.exit ?_ | intro _ | refine And.intro (by omega) ?_) | simp (config := { maxSteps := 1000000 }) (disch := (first | omega | (simp only [go_sem]; try omega))) only [go_sem, Nat.reduceAdd, Nat.reduceEqDiff, Nat.reduceLeDiff, Nat.reduceMul, Nat.reduceLT, reduceIte, Int.reduceToNat, w64_id, cast_succ])
  refine SW.loopE (fun E0 H0 q E' H' => ∃ (i fr ver : Nat) (out : List (List UInt8)), i ≤ s.length ∧ fr ≤ i ∧ out.length ≤ i ∧ spl b s = out ++ splA b ((s.drop fr).take (i - fr)) (s.drop i) ∧ q = s.length - i ∧ E' = aput (aput (aput E0 5 (.nm H.length ver 0 out.length)) 6 (I fr)) 7 (I i) ∧ H' = H ++ [⟨ver, 9, 1, out.map Tx⟩]) s.length ⟨0, 0, 0, [], by omega, by omega, by simp, by simp [spl], by omega, rfl, rfl⟩ ?_
  rintro q E' H' ⟨i, fr, ver, out, hi, hf, ho, hsp, rfl, rfl, rfl⟩
  simp (config := { maxSteps := 1000000 }) (disch := (first | omega | (simp only [go_sem]; try omega))) only [go_sem, Nat.reduceAdd, Nat.reduceEqDiff, Nat.reduceLeDiff, Nat.reduceMul, Nat.reduceLT, reduceIte, Int.reduceToNat, w64_id, cast_succ]
  repeat (first | (with_reducible first | refine SW.seq ?_ | refine SW.block ?_ | refine SW.rowC ?_ | refine SW.skip ?_ | refine SW.exit ?_ | intro _ | refine And.intro (by omega) ?_) | simp (config := { maxSteps := 1000000 }) (disch := (first | omega | (simp only [go_sem]; try omega))) only [go_sem, Nat.reduceAdd, Nat.reduceEqDiff, Nat.reduceLeDiff, Nat.reduceMul, Nat.reduceLT, reduceIte, Int.reduceToNat, w64_id, cast_succ])
  (first | refine SW.condD rfl (fun h => ?_) (fun h => ?_) | refine SW.condN rfl (fun h => ?_) (fun h => ?_) | refine SW.condNB rfl (fun h => ?_) (fun h => ?_) | refine SW.condB rfl (fun h => ?_) (fun h => ?_))
  · have hd : s.drop i = s.getD i 0 :: s.drop (i + 1) := by
      rw [List.drop_eq_getElem_cons (by omega)]; simp [List.getElem?_eq_getElem (show i < s.length by omega)]
    repeat (first | (with_reducible first | refine SW.seq ?_ | refine SW.block ?_ | refine SW.rowC ?_ | refine SW.skip ?_ | refine SW.exit ?_ | intro _ | refine And.intro (by omega) ?_) | simp (config := { maxSteps := 1000000 }) (disch := (first | omega | (simp only [go_sem]; try omega))) only [go_sem, Nat.reduceAdd, Nat.reduceEqDiff, Nat.reduceLeDiff, Nat.reduceMul, Nat.reduceLT, reduceIte, Int.reduceToNat, w64_id, cast_succ])
    by_cases hb : s.getD i 0 = b
    · have db : decide (s.getD i 0 = b) = true := decide_eq_true hb
      repeat (first | (with_reducible first | refine SW.seq ?_ | refine SW.block ?_ | refine SW.rowC ?_ | refine SW.skip ?_ | refine SW.exit ?_ | intro _ | refine And.intro (by omega) ?_) | simp (config := { maxSteps := 1000000 }) (disch := (first | omega | (simp only [go_sem]; try omega))) only [go_sem, Nat.reduceAdd, Nat.reduceEqDiff, Nat.reduceLeDiff, Nat.reduceMul, Nat.reduceLT, reduceIte, Int.reduceToNat, w64_id, cast_succ, db])
      refine SW.condT rfl ?_
      repeat (first | (with_reducible first | refine SW.seq ?_ | refine SW.block ?_ | refine SW.rowC ?_ | refine SW.skip ?_ | refine SW.exit ?_ | intro _ | refine And.intro (by omega) ?_) | simp (config := { maxSteps := 1000000 }) (disch := (first | omega | (simp only [go_sem]; try omega))) only [go_sem, Nat.reduceAdd, Nat.reduceEqDiff, Nat.reduceLeDiff, Nat.reduceMul, Nat.reduceLT, reduceIte, Int.reduceToNat, w64_id, cast_succ])
      have htk : List.take out.length (List.map Tx out) = List.map Tx out := List.take_of_length_le (by simp)
      refine SLoop.nextT 1 (s.length - (i + 1)) hB (by simp) (by omega) (by simp) (by simp [go_sem]) (by simp only [go_sem, htk, List.mem_append, List.mem_singleton, belT, true_and, and_true]) ⟨i + 1, i + 1, ver + 1, out ++ [(s.drop fr).take (i - fr)], by omega, by omega, by simp; omega, ?_, rfl, by simp [go_sem], by simp [go_sem, htk]⟩
      rw [hsp, hd, splA, if_pos hb]; simp
    · have db : decide (s.getD i 0 = b) = false := decide_eq_false hb
      repeat (first | (with_reducible first | refine SW.seq ?_ | refine SW.block ?_ | refine SW.rowC ?_ | refine SW.skip ?_ | refine SW.exit ?_ | intro _ | refine And.intro (by omega) ?_) | simp (config := { maxSteps := 1000000 }) (disch := (first | omega | (simp only [go_sem]; try omega))) only [go_sem, Nat.reduceAdd, Nat.reduceEqDiff, Nat.reduceLeDiff, Nat.reduceMul, Nat.reduceLT, reduceIte, Int.reduceToNat, w64_id, cast_succ, db])
      refine SW.condF rfl ?_
      repeat (first | (with_reducible first | refine SW.seq ?_ | refine SW.block ?_ | refine SW.rowC ?_ | refine SW.skip ?_ | refine SW.exit ?_ | intro _ | refine And.intro (by omega) ?_) | simp (config := { maxSteps := 1000000 }) (disch := (first | omega | (simp only [go_sem]; try omega))) only [go_sem, Nat.reduceAdd, Nat.reduceEqDiff, Nat.reduceLeDiff, Nat.reduceMul, Nat.reduceLT, reduceIte, Int.reduceToNat, w64_id, cast_succ])
      refine SLoop.next (s.length - (i + 1)) (by omega) ⟨i + 1, fr, ver, out, by omega, by omega, by omega, ?_, rfl, by simp [go_sem], by simp [go_sem]⟩
      rw [hsp, hd, splA, if_neg hb, show i + 1 - fr = (i - fr) + 1 by omega, List.take_add_one]
      congr 2
      simp [List.getElem?_drop, show fr + (i - fr) = i by omega, show i < s.length by omega]
  · repeat (first | (with_reducible first | refine SW.seq ?_ | refine SW.block ?_ | refine SW.rowC ?_ | refine SW.skip ?_ | refine SW.exit ?_ | intro _ | refine And.intro (by omega) ?_) | simp (config := { maxSteps := 1000000 }) (disch := (first | omega | (simp only [go_sem]; try omega))) only [go_sem, Nat.reduceAdd, Nat.reduceEqDiff, Nat.reduceLeDiff, Nat.reduceMul, Nat.reduceLT, reduceIte, Int.reduceToNat, w64_id, cast_succ])
    have hii : i = s.length := by omega
    subst hii
    rw [hsp, List.drop_length, splA, List.take_of_length_le (by simp)]
    refine SW.ret ⟨_, rfl, ?_⟩
    have htk : List.take out.length (List.map Tx out) = List.map Tx out := List.take_of_length_le (by simp)
    exact GR.froz (froz_T (r := H.length) (ver := ver + 1) (ty := 9) (Nat.le_refl _) (by simp [htk]) (by simp)) ⟨rfl, rfl⟩
end Go.Proofs.YtdgcgckehihboaaDoor
