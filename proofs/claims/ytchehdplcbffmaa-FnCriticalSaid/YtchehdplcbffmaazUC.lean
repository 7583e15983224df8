/- Critical sets: what is plain. -/
import Derived.Test.YtchehdplcbffmaaProg
import Derived.KernelRfl
import Derived.Test.YtchehdplcbffmaazK36
set_option linter.unusedSimpArgs false
set_option linter.unusedVariables false
set_option maxHeartbeats 4000000
set_option maxRecDepth 100000
namespace Go.Proofs.Ytchehdplcbffmaa
open Go.Av
abbrev f_impl_FilledCells : Nat := 15
def c_impl_FilledCells : SC :=
 .seq (.reg [
     ⟨(some 2), .mv (.const (.int .i64 0)), none⟩] [0])
 (.seq (.seq (.reg [
     ⟨(some 3), .mv (.tmp 0), none⟩,
     ⟨(some 4), .call 19 [(.tmp 3)], none⟩,
     ⟨(some 5), .un .not (.tmp 4), none⟩] [0, 5])
 (.cond (.tmp 5)
  (.seq (.reg [
      ⟨(some 2), .mv (.const (.int .i64 0)), none⟩] [2])
  (.ret))
  (.skip)))
 (.seq (.reg [
     ⟨(some 6), .mv (.tmp 0), none⟩,
     ⟨(some 7), .call 42 [(.tmp 6)], none⟩,
     ⟨(some 8), .mv (.tmp 0), none⟩,
     ⟨(some 9), .call 42 [(.tmp 8)], none⟩,
     ⟨(some 10), .bin .mul (.tmp 7) (.tmp 9), none⟩,
     ⟨(some 11), .mv (.tmp 0), none⟩,
     ⟨(some 12), .call 49 [(.tmp 11)], none⟩,
     ⟨(some 13), .call 48 [(.tmp 12)], none⟩,
     ⟨(some 14), .bin .sub (.tmp 10) (.tmp 13), none⟩,
     ⟨(some 2), .mv (.tmp 14), none⟩] [2])
 (.ret)))
theorem s_impl_FilledCells : stripF Try.prog 15 [[0], [0, 5], [2], [2]] = some (c_impl_FilledCells, [.tmp 2], 15) := by kernel_rfl
theorem critL_at {p : List (List Int)} {b : Nat} : ∀ {cs : List Nat}, critL p b cs = (true, 0) → ∀ c ∈ cs, cellAt p (c / p.length) (c % p.length) ≠ -1 → cc2 (setC p (c / p.length) (c % p.length) (-1)) b = (2, 0)
  | [], _, _, h, _ => by cases h
  | d :: cs, h, c, hc, hne => by
    unfold critL at h
    split at h
    · rename_i hd
      rcases List.mem_cons.1 hc with rfl | hc
      · exact absurd hd hne
      · exact critL_at h c hc hne
    · split at h
      · cases (Prod.mk.inj h).1
      · rename_i hn
        rcases List.mem_cons.1 hc with rfl | hc
        · have h2 := Decidable.byContradiction fun e => hn (.inl e)
          have h1 := Decidable.byContradiction fun e => hn (.inr e)
          exact Prod.ext h1 h2
        · exact critL_at h c hc hne
theorem critL_code {p : List (List Int)} {b : Nat} : ∀ (cs : List Nat), (critL p b cs).2 ≠ 0 → (critL p b cs).1 = false
  | [], h => absurd rfl h
  | d :: cs, h => by
    unfold critL at h ⊢
    split
    · rename_i hd
      rw [if_pos hd] at h
      exact critL_code cs h
    · rename_i hd
      rw [if_neg hd] at h
      split
      · rfl
      · rename_i hn
        rw [if_neg hn] at h
        exact critL_code cs h
theorem icV_code {p : List (List Int)} {b : Int} (h : (icV p b).2 ≠ 0) : (icV p b).1 = false := by
  unfold icV at h ⊢
  split
  · rfl
  · rename_i h1
    rw [if_neg h1] at h
    split
    · rfl
    · rename_i h2
      rw [if_neg h2] at h
      split
      · rfl
      · rename_i h3
        rw [if_neg h3] at h
        exact critL_code _ h
theorem icV_true {p : List (List Int)} {b : Int} (h1 : (icV p b).1 = true) (h2 : (icV p b).2 = 0) : partB p = true ∧ 1 ≤ b ∧ b ≤ 20000 ∧ cc2 p b.toNat = (1, 0) ∧ ∀ c, c < p.length * p.length → cellAt p (c / p.length) (c % p.length) ≠ -1 → cc2 (setC p (c / p.length) (c % p.length) (-1)) b.toNat = (2, 0) := by
  have e : icV p b = (true, 0) := Prod.ext h1 h2
  unfold icV at e
  split at e
  · cases (Prod.mk.inj e).1
  · rename_i a1
    split at e
    · cases (Prod.mk.inj e).1
    · rename_i a2
      split at e
      · cases (Prod.mk.inj e).1
      · rename_i a3
        simp only [Bool.not_eq_true', Bool.not_eq_false, Bool.and_eq_true, decide_eq_true_eq] at a1 a2
        have c2 := Decidable.byContradiction fun e => a3 (.inl e)
        have c1 := Decidable.byContradiction fun e => a3 (.inr e)
        exact ⟨a1, a2.1, a2.2, Prod.ext c1 c2, fun c hc => critL_at e c (List.mem_range.2 hc)⟩
theorem setC_same {sq : List (List Int)} {x y : Nat} {v : Int} (hx : x < sq.length) (hy : y < (sq.getD x []).length) (h : cellAt sq x y = v) : setC sq x y v = sq := by
  have h2 : (sq.getD x []).getD y 0 = v := h
  have e : sq.getD x [] = sq[x] := getD_get hx
  rw [e] at hy h2
  unfold setC
  rw [e]
  rw [getD_get hy] at h2
  rw [← h2, List.set_getElem_self, List.set_getElem_self]
theorem cel_at {n c : Nat} (hc : c < n * n) : c / n < n ∧ c % n < n := ⟨Nat.div_lt_of_lt_mul hc, Nat.mod_lt _ (by rcases Nat.eq_zero_or_pos n with h | h; subst h; omega; exact h)⟩
theorem empT_clear {p : List (List Int)} {n c : Nat} (hs : p.length = n ∧ ∀ r ∈ p, r.length = n) (hc : c < n * n) (hne : cellAt p (c / n) (c % n) ≠ -1) : ∀ m, (empT (setC p (c / n) (c % n) (-1)) n m).length = (empT p n m).length + (if c < m then 1 else 0)
  | 0 => by simp [empT]
  | m + 1 => by
    have ih := empT_clear hs hc hne m
    have hx : c / n < n := Nat.div_lt_of_lt_mul hc
    have hy : c % n < n := Nat.mod_lt _ (by rcases Nat.eq_zero_or_pos n with h | h; subst h; omega; exact h)
    rw [empT_succ, empT_succ, List.length_append, List.length_append, ih]
    by_cases hm : m = c
    · subst hm
      have h1 : isE (setC p (m / n) (m % n) (-1)) n m = true := decide_eq_true (setC_self (by omega) (by rw [hs.2 _ (by rw [getD_get (show m / n < p.length by omega)]; exact List.getElem_mem _)]; exact hy))
      have h2 : isE p n m = false := decide_eq_false hne
      rw [h1, h2, if_neg (show ¬ m < m by omega), if_pos (show m < m + 1 by omega), if_pos rfl, if_neg (by simp)]
      rfl
    · have h1 : isE (setC p (c / n) (c % n) (-1)) n m = isE p n m := by
        unfold isE
        rw [setC_get]
        rintro ⟨a, b⟩
        exact hm (by rw [← Nat.div_add_mod m n, ← Nat.div_add_mod c n, a, b])
      have h3 : (if c < m + 1 then 1 else 0) = (if c < m then 1 else 0) := by
        by_cases h : c < m
        · rw [if_pos h, if_pos (by omega)]
        · rw [if_neg h, if_neg (by omega)]
      rw [h1, h3]
      omega
theorem FilledCells_fn (p : List (List Int)) (h : partB p = true) : PFn Try.prog f_impl_FilledCells [ilSS p] (I (((p.length * p.length : Nat) : Int) - ((empT p p.length (p.length * p.length)).length : Int))) := by
  have hv := ValidPartial_fn p
  rw [h] at hv
  have hf := partB_facts h
  have hle := empT_len p p.length (p.length * p.length)
  have hnn : p.length * p.length ≤ 100 := Nat.mul_le_mul hf.2.1 hf.2.1
  have he := emptyCells_fn p (by omega) hf.2.2
  have hw2 : w64 ((p.length : Int) * p.length) = ((p.length * p.length : Nat) : Int) := by rw [← Int.natCast_mul]; exact w64_id (by omega) (by omega)
  have hs := size_fn (natL (empT p p.length (p.length * p.length)))
  rw [show (natL (empT p p.length (p.length * p.length))).length = (empT p p.length (p.length * p.length)).length from List.length_map _] at hs
  generalize empT p p.length (p.length * p.length) = L at *
  have hw3 : w64 (((p.length * p.length : Nat) : Int) - (L.length : Int)) = ((p.length * p.length : Nat) : Int) - (L.length : Int) := w64_id (by omega) (by omega)
  intro H; refine ACalls.introB s_impl_FilledCells (by simp) ?_; intro hB hA; unfold c_impl_FilledCells; simp (config := { maxSteps := 1000000 }) (disch := (first | omega | (simp only [go_sem]; try omega))) only [go_sem, Nat.reduceAdd, Nat.reduceEqDiff, Nat.reduceLeDiff, Nat.reduceMul, Nat.reduceLT, reduceIte, Int.reduceToNat, w64_id, cast_succ]
  repeat (first | (with_reducible first | refine SW.seq ?_ | refine SW.block ?_ | refine SW.rowC ?_ | refine SW.skip ?_ | refine SW.exit ?_ | refine PFn.use (hv) ?_ | refine PFn.useq (hv) ?_ | intro _ | refine And.intro (by omega) ?_) | simp (config := { maxSteps := 1000000 }) (disch := (first | omega | (simp only [go_sem]; try omega))) only [go_sem, Nat.reduceAdd, Nat.reduceEqDiff, Nat.reduceLeDiff, Nat.reduceMul, Nat.reduceLT, reduceIte, Int.reduceToNat, w64_id, cast_succ])
  refine SW.condF rfl ?_
  repeat (first | (with_reducible first | refine SW.seq ?_ | refine SW.block ?_ | refine SW.rowC ?_ | refine SW.skip ?_ | refine SW.exit ?_ | refine PFn.use (sizeS_fn _) ?_ | refine PFn.useq (sizeS_fn _) ?_ | refine PFn.use (he) ?_ | refine PFn.useq (he) ?_ | refine PFn.use (hs) ?_ | refine PFn.useq (hs) ?_ | intro _ | refine And.intro (by omega) ?_) | simp (config := { maxSteps := 1000000 }) (disch := (first | omega | (simp only [go_sem]; try omega))) only [go_sem, Nat.reduceAdd, Nat.reduceEqDiff, Nat.reduceLeDiff, Nat.reduceMul, Nat.reduceLT, reduceIte, Int.reduceToNat, w64_id, cast_succ, hw2, hw3])
  refine SW.ret ?_; (try simp only [go_sem]); (first | refine FunPost.one ?_ | refine FunPost.two ?_ | refine FunPost.three ?_); (try simp (config := { maxSteps := 1000000 }) (disch := (first | omega | (simp only [go_sem]; try omega))) only [go_sem, Nat.reduceAdd, Nat.reduceEqDiff, Nat.reduceLeDiff, Nat.reduceMul, Nat.reduceLT, reduceIte, Int.reduceToNat, w64_id, cast_succ]); (first | (with_reducible refine GR.drop ?_ ?_; (simp only [go_sem, and_self, and_true, true_and, implies_true, List.take_succ_cons, List.take_zero])) | refine GR.of ?_); refine ⟨?_, rfl⟩; (try with_reducible rfl)
  rw [Int.natCast_mul]
end Go.Proofs.Ytchehdplcbffmaa
