/- Covering pairs: the model of the greedy run. -/
import Derived.Test.YthogadbnddmkdaazTL
set_option linter.unusedSimpArgs false
set_option linter.unusedVariables false
set_option maxHeartbeats 4000000
set_option maxRecDepth 100000
namespace Go.Proofs.Ythogadbnddmkdaa
open Go.Av
theorem add_okA (H : List Blk) (p r : Nat) (a : AV) (l c : Nat) (m row : List Int) (hl : l ≤ 16) (hc : c ≤ 8) (hrow : (row.length : Int) = c) (hv : ∀ x ∈ row, 0 ≤ x ∧ x < l) (hpr : p ≠ r) (hp : H[p]? = some ⟨0, tyK, 1, [I l, I c, .nm r 0 0 (c * c * l * l)]⟩) (hr : H[r]? = some (bB (c * c * l * l) m 0)) (hav : ∀ b, aview (H.set r b) a = some (row.length, row.map I)) :
    ACalls Try.prog f_impl_cover_add [.pc p 0 0, a] H (fun _ H' => H' = H.set r (bB (c * c * l * l) (m ++ codes l c row) 0)) := by
  refine ACalls.introB s_impl_cover_add (by simp) ?_; intro hB hA; unfold c_impl_cover_add; simp (config := { maxSteps := 1000000 }) (disch := (first | omega | (simp only [go_sem]; try omega))) only [go_sem, Nat.reduceAdd, Nat.reduceEqDiff, Nat.reduceLeDiff, Nat.reduceMul, Nat.reduceLT, reduceIte, Int.reduceToNat, w64_id, cast_succ]
  repeat (first | (with_reducible first | refine SW.seq ?_ | refine SW.block ?_ | refine SW.rowC ?_ | refine SW.skip ?_ | refine SW.exit ?_ | intro _ | refine And.intro (by omega) ?_) | simp (config := { maxSteps := 1000000 }) (disch := (first | omega | (simp only [go_sem]; try omega))) only [go_sem, Nat.reduceAdd, Nat.reduceEqDiff, Nat.reduceLeDiff, Nat.reduceMul, Nat.reduceLT, reduceIte, Int.reduceToNat, w64_id, cast_succ, pc_ld hp, pc_alive hp])
  have hrlt := (List.getElem?_eq_some_iff.1 hr).1
  have hset : ∀ b, (H.set r b)[p]? = some ⟨0, tyK, 1, [I l, I c, .nm r 0 0 (c * c * l * l)]⟩ := fun b => by rw [List.getElem?_set_ne (Ne.symm hpr)]; exact hp
  have hsetr : ∀ b, (H.set r b)[r]? = some b := fun b => List.getElem?_set_self hrlt
  have hrn : row.length = c := by omega
  have hget : ∀ i : Nat, i < c → 0 ≤ row.getD i 0 ∧ row.getD i 0 < l := fun i hi => hv _ (by
    rw [List.getD_eq_getElem?_getD, List.getElem?_eq_getElem (by omega)]; exact List.getElem_mem _)
  refine SW.loopE (fun E0 H0 q E' H' => ∃ x : Nat, x ≤ c ∧ q = c - x ∧ E' = aput E0 10 (I x) ∧ H' = H.set r (bB (c * c * l * l) (m ++ codesTo l c row x) 0)) c ⟨0, by omega, by omega, rfl, ?_⟩ ?_
  · obtain ⟨h1, h2⟩ := List.getElem?_eq_some_iff.1 hr
    simp only [codesTo, List.range_zero, List.flatMap_nil, List.append_nil]
    rw [← h2]; exact (List.set_getElem_self h1).symm
  rintro q E' H' ⟨x, hx, rfl, rfl, rfl⟩
  simp (config := { maxSteps := 1000000 }) (disch := (first | omega | (simp only [go_sem]; try omega))) only [go_sem, Nat.reduceAdd, Nat.reduceEqDiff, Nat.reduceLeDiff, Nat.reduceMul, Nat.reduceLT, reduceIte, Int.reduceToNat, w64_id, cast_succ]
  repeat (first | (with_reducible first | refine SW.seq ?_ | refine SW.block ?_ | refine SW.rowC ?_ | refine SW.skip ?_ | refine SW.exit ?_ | intro _ | refine And.intro (by omega) ?_) | simp (config := { maxSteps := 1000000 }) (disch := (first | omega | (simp only [go_sem]; try omega))) only [go_sem, Nat.reduceAdd, Nat.reduceEqDiff, Nat.reduceLeDiff, Nat.reduceMul, Nat.reduceLT, reduceIte, Int.reduceToNat, w64_id, cast_succ, pc_ld (hset _), pc_alive (hset _), hav])
  (first | refine SW.condD rfl (fun h => ?_) (fun h => ?_) | refine SW.condN rfl (fun h => ?_) (fun h => ?_) | refine SW.condNB rfl (fun h => ?_) (fun h => ?_) | refine SW.condB rfl (fun h => ?_) (fun h => ?_))
  · have hxc : x < c := by omega
    repeat (first | (with_reducible first | refine SW.seq ?_ | refine SW.block ?_ | refine SW.rowC ?_ | refine SW.skip ?_ | refine SW.exit ?_ | intro _ | refine And.intro (by omega) ?_) | simp (config := { maxSteps := 1000000 }) (disch := (first | omega | (simp only [go_sem]; try omega))) only [go_sem, Nat.reduceAdd, Nat.reduceEqDiff, Nat.reduceLeDiff, Nat.reduceMul, Nat.reduceLT, reduceIte, Int.reduceToNat, w64_id, cast_succ, pc_ld (hset _), pc_alive (hset _), hav])
    refine SW.loopE (fun E0 H0 q E' H' => ∃ d : Nat, x + 1 ≤ d ∧ d ≤ c ∧ q = c - d ∧ E' = aput E0 5 (I d) ∧ H' = H.set r (bB (c * c * l * l) (m ++ codesTo l c row x ++ codeC l c row x d) 0)) (c - (x + 1)) ⟨x + 1, by omega, by omega, by omega, ?_, ?_⟩ ?_
    · rfl
    · simp [codeC]
    rintro q E' H' ⟨d, hd0, hd, rfl, rfl, rfl⟩
    simp (config := { maxSteps := 1000000 }) (disch := (first | omega | (simp only [go_sem]; try omega))) only [go_sem, Nat.reduceAdd, Nat.reduceEqDiff, Nat.reduceLeDiff, Nat.reduceMul, Nat.reduceLT, reduceIte, Int.reduceToNat, w64_id, cast_succ]
    repeat (first | (with_reducible first | refine SW.seq ?_ | refine SW.block ?_ | refine SW.rowC ?_ | refine SW.skip ?_ | refine SW.exit ?_ | intro _ | refine And.intro (by omega) ?_) | simp (config := { maxSteps := 1000000 }) (disch := (first | omega | (simp only [go_sem]; try omega))) only [go_sem, Nat.reduceAdd, Nat.reduceEqDiff, Nat.reduceLeDiff, Nat.reduceMul, Nat.reduceLT, reduceIte, Int.reduceToNat, w64_id, cast_succ, pc_ld (hset _), pc_alive (hset _), hav])
    (first | refine SW.condD rfl (fun h2 => ?_) (fun h2 => ?_) | refine SW.condN rfl (fun h2 => ?_) (fun h2 => ?_) | refine SW.condNB rfl (fun h2 => ?_) (fun h2 => ?_) | refine SW.condB rfl (fun h2 => ?_) (fun h2 => ?_))
    · have hdc : d < c := by omega
      repeat (first | (with_reducible first | refine SW.seq ?_ | refine SW.block ?_ | refine SW.rowC ?_ | refine SW.skip ?_ | refine SW.exit ?_ | intro _ | refine And.intro (by omega) ?_) | simp (config := { maxSteps := 1000000 }) (disch := (first | omega | (simp only [go_sem]; try omega))) only [go_sem, Nat.reduceAdd, Nat.reduceEqDiff, Nat.reduceLeDiff, Nat.reduceMul, Nat.reduceLT, reduceIte, Int.reduceToNat, w64_id, cast_succ, pc_ld (hset _), pc_alive (hset _), hav])
      have hat := at_bd hl hc (x := x) (y := d) (v := row.getD x 0) (w := row.getD d 0) (by omega) (by omega) (hget x hxc) (hget d hdc)
      refine QcallW.of (fun ext => at_ok _ p l c _ _ _ _ _ hl hc (by omega) (by omega) (hget x hxc) (hget d hdc) (get_appF (hset _) ext)) ?_
      generalize hz : atI l c x d (row.getD x 0) (row.getD d 0) = z at *
      have hlt : z < ((c * c * l * l : Nat) : Int) := by simp only [Int.natCast_mul]; exact hat.2.2.2.2
      have hvw := view_nm (n := c * c * l * l) (hsetr (bB (c * c * l * l) (m ++ (codesTo l c row x ++ codeC l c row x d)) 0)) (by simp [marks_length])
      have hst := store_nm (n := c * c * l * l) (c := Bv true) (i := z.toNat) (hsetr (bB (c * c * l * l) (m ++ (codesTo l c row x ++ codeC l c row x d)) 0)) (by simp [marks_length]; omega)
      repeat (first | (with_reducible first | refine SW.seq ?_ | refine SW.block ?_ | refine SW.rowC ?_ | refine SW.skip ?_ | refine SW.exit ?_ | intro _ | refine And.intro (by omega) ?_) | simp (config := { maxSteps := 1000000 }) (disch := (first | omega | (simp only [go_sem]; try omega))) only [go_sem, Nat.reduceAdd, Nat.reduceEqDiff, Nat.reduceLeDiff, Nat.reduceMul, Nat.reduceLT, reduceIte, Int.reduceToNat, w64_id, cast_succ, hvw, hst])
      refine SLoop.next (c - (d + 1)) (by omega) ⟨d + 1, by omega, by omega, rfl, ?_, ?_⟩
      · simp [go_sem]
      · rw [List.set_set, marks_set _ _ _ (by omega), codeC_snoc l c row hd0, hz]
        simp [bB, List.append_assoc]
    · have : d = c := by omega
      subst this
      repeat (first | (with_reducible first | refine SW.seq ?_ | refine SW.block ?_ | refine SW.rowC ?_ | refine SW.skip ?_ | refine SW.exit ?_ | intro _ | refine And.intro (by omega) ?_) | simp (config := { maxSteps := 1000000 }) (disch := (first | omega | (simp only [go_sem]; try omega))) only [go_sem, Nat.reduceAdd, Nat.reduceEqDiff, Nat.reduceLeDiff, Nat.reduceMul, Nat.reduceLT, reduceIte, Int.reduceToNat, w64_id, cast_succ])
      refine SLoop.next (d - (x + 1)) (by omega) ⟨x + 1, by omega, rfl, ?_, ?_⟩
      · simp [go_sem]
      · rw [codesTo_succ, ← List.append_assoc]
  · have : x = c := by omega
    subst this
    repeat (first | (with_reducible first | refine SW.seq ?_ | refine SW.block ?_ | refine SW.rowC ?_ | refine SW.skip ?_ | refine SW.exit ?_ | intro _ | refine And.intro (by omega) ?_) | simp (config := { maxSteps := 1000000 }) (disch := (first | omega | (simp only [go_sem]; try omega))) only [go_sem, Nat.reduceAdd, Nat.reduceEqDiff, Nat.reduceLeDiff, Nat.reduceMul, Nat.reduceLT, reduceIte, Int.reduceToNat, w64_id, cast_succ])
    exact ⟨_, rfl, GR.of rfl⟩
theorem opY_nil {l : Nat} {P : Nat → Nat → Nat → Nat → Bool} {x y n : Nat} : opY l P x y n = [] ↔ ∀ k, k < n → P x y (k / l) (k % l) = true := by
  unfold opY
  rw [List.map_eq_nil_iff, List.filter_eq_nil_iff]
  simp
theorem opX_nil {l : Nat} {P : Nat → Nat → Nat → Nat → Bool} {x y : Nat} : opX l P x y = [] ↔ ∀ j, j < y - (x + 1) → opY l P x (x + 1 + j) (l * l) = [] := by
  unfold opX
  rw [List.flatMap_eq_nil_iff]
  simp
theorem opTo_nil {l c : Nat} {P : Nat → Nat → Nat → Nat → Bool} {x : Nat} : opTo l c P x = [] ↔ ∀ i, i < x → opX l P i c = [] := by
  unfold opTo
  rw [List.flatMap_eq_nil_iff]
  simp
section
variable {l c : Nat} {P P' : Nat → Nat → Nat → Nat → Bool} (h : ∀ x y v w, P x y v w = true → P' x y v w = true)
include h
end
theorem opAll_mem {l c : Nat} {P : Nat → Nat → Nat → Nat → Bool} {q : List Int} (h : q ∈ opAll l c P) : ∃ x y v w : Nat, x < y ∧ y < c ∧ v < l ∧ w < l ∧ q = [(x : Int), y, v, w] := by
  unfold opAll opTo at h
  obtain ⟨x, hx, h⟩ := List.mem_flatMap.1 h
  unfold opX at h
  obtain ⟨j, hj, h⟩ := List.mem_flatMap.1 h
  unfold opY at h
  obtain ⟨k, hk, rfl⟩ := List.mem_map.1 h
  have hk2 := (List.mem_filter.1 hk).1
  rw [List.mem_range] at hx hj hk2
  have hl : 0 < l := by
    rcases Nat.eq_zero_or_pos l with h0 | h0
    · rw [h0] at hk2; simp at hk2
    · exact h0
  exact ⟨x, x + 1 + j, k / l, k % l, by omega, by omega, Nat.div_lt_of_lt_mul hk2, Nat.mod_lt _ hl, rfl⟩
def grd (l c : Nat) : Nat → List Int → List (List Int) → Option (List (List Int))
  | 0, _, _ => none
  | f + 1, m, rows => match opAll l c (inP l c m) with
    | [] => some rows
    | q :: _ => if rows.length = 256 then none else grd l c f (m ++ codes l c (nextRow l c m (q.getD 0 0).toNat (q.getD 1 0).toNat (q.getD 2 0) (q.getD 3 0))) (rows ++ [nextRow l c m (q.getD 0 0).toNat (q.getD 1 0).toNat (q.getD 2 0) (q.getD 3 0)])
theorem grd_done {l c f : Nat} {m : List Int} {rows : List (List Int)} (h : opAll l c (inP l c m) = []) : grd l c (f + 1) m rows = some rows := by rw [grd, h]
theorem grd_step {l c f x y v w : Nat} {m : List Int} {rows t : List (List Int)} (h : opAll l c (inP l c m) = [(x : Int), y, v, w] :: t) (hr : rows.length ≠ 256) : grd l c (f + 1) m rows = grd l c f (m ++ codes l c (nextRow l c m x y v w)) (rows ++ [nextRow l c m x y v w]) := by
  rw [grd, h]
  simp [hr]
theorem grd_full {l c f x y v w : Nat} {m : List Int} {rows t : List (List Int)} (h : opAll l c (inP l c m) = [(x : Int), y, v, w] :: t) (hr : rows.length = 256) : grd l c (f + 1) m rows = none := by
  rw [grd, h]
  simp [hr]
def cpV (l c : Int) : Int × Int × List (List Int) × Int := if (shapeOk l c && decide (2 ≤ c)) = true then (match grd l.toNat c.toNat 257 [] [] with | some rows => (l, c, rows, 0) | none => (0, 0, [], 5)) else (0, 0, [], 2)
end Go.Proofs.Ythogadbnddmkdaa
