/- Rows that cover pairs: the model, the program's gain and next row. -/
import Derived.Test.YthogadbnddmkdaaProg
import Derived.KernelRfl
import Derived.Test.YthogadbnddmkdaazK17
import Derived.Test.YthogadbnddmkdaazOW
set_option linter.unusedSimpArgs false
set_option linter.unusedVariables false
set_option maxHeartbeats 4000000
set_option maxRecDepth 100000
namespace Go.Proofs.Ythogadbnddmkdaa
open Go.Av
abbrev f_impl_cover_gain : Nat := 95
def c_impl_cover_gain : SC :=
 .seq (.reg [
     ⟨(some 8), .mv (.const (.int .i64 0)), none⟩] [0, 1, 2, 3])
 (.seq (.reg [
     ⟨(some 9), .mv (.const (.int .i64 0)), none⟩] [0, 1, 2, 3, 9])
 (.seq (.seq (.reg [
     ⟨(some 13), .mv (.tmp 1), none⟩,
     ⟨(some 14), .len (.tmp 13), none⟩,
     ⟨(some 15), .mv (.const (.int .i64 0)), none⟩] [0, 2, 3, 9, 13, 14, 15])
 (.block 0 (.loop [0, 2, 3, 9, 13, 14, 15]
   (.seq (.reg [
       ⟨(some 16), .bin .lss (.tmp 15) (.tmp 14), none⟩] [0, 2, 3, 9, 13, 14, 15, 16])
   (.seq (.cond (.tmp 16)
    (.skip)
    (.exit 0))
   (.seq (.block 1 (.seq (.reg [
        ⟨(some 17), .mv (.tmp 15), none⟩,
        ⟨(some 18), .iaddr 1 (.tmp 13) (.tmp 15), none⟩,
        ⟨(some 19), .load 1 false (.tmp 18), none⟩,
        ⟨(some 10), .mv (.tmp 17), none⟩,
        ⟨(some 11), .mv (.tmp 19), none⟩] [0, 2, 3, 9, 10, 11, 13, 14, 15])
    (.seq (.reg [
        ⟨(some 20), .mv (.tmp 10), none⟩,
        ⟨(some 12), .mv (.tmp 20), none⟩] [0, 2, 3, 9, 11, 12, 13, 14, 15])
    (.seq (.seq (.reg [
        ⟨(some 21), .mv (.tmp 11), none⟩,
        ⟨(some 22), .bin .lss (.tmp 21) (.const (.int .i64 0)), none⟩] [0, 2, 3, 9, 11, 12, 13, 14, 15, 22])
    (.cond (.tmp 22)
     (.exit 1)
     (.skip)))
    (.seq (.reg [
        ⟨(some 23), .mv (.tmp 12), none⟩,
        ⟨(some 24), .mv (.tmp 2), none⟩,
        ⟨(some 25), .bin .lss (.tmp 23) (.tmp 24), none⟩,
        ⟨(some 26), .mv (.tmp 25), none⟩,
        ⟨(some 27), .mv (.tmp 0), (some (26, true))⟩,
        ⟨(some 28), .nilc (.tmp 27), (some (26, true))⟩,
        ⟨(some 29), .faddr 2 (.tmp 28), (some (26, true))⟩,
        ⟨(some 30), .load 1 false (.tmp 29), (some (26, true))⟩,
        ⟨(some 31), .mv (.tmp 0), (some (26, true))⟩,
        ⟨(some 32), .mv (.tmp 12), (some (26, true))⟩,
        ⟨(some 33), .mv (.tmp 2), (some (26, true))⟩,
        ⟨(some 34), .mv (.tmp 11), (some (26, true))⟩,
        ⟨(some 35), .mv (.tmp 3), (some (26, true))⟩,
        ⟨(some 36), .qcall 94 [(.tmp 31), (.tmp 32), (.tmp 33), (.tmp 34), (.tmp 35)], (some (26, true))⟩,
        ⟨(some 37), .iaddr 1 (.tmp 30) (.tmp 36), (some (26, true))⟩,
        ⟨(some 38), .load 1 false (.tmp 37), (some (26, true))⟩,
        ⟨(some 39), .un .not (.tmp 38), (some (26, true))⟩,
        ⟨(some 40), .pick (.tmp 26) (.tmp 39) (.const (.bool false)), none⟩,
        ⟨(some 41), .mv (.tmp 40), none⟩,
        ⟨(some 42), .mv (.tmp 12), (some (41, false))⟩,
        ⟨(some 43), .mv (.tmp 2), (some (41, false))⟩,
        ⟨(some 44), .bin .gtr (.tmp 42) (.tmp 43), (some (41, false))⟩,
        ⟨(some 45), .mv (.tmp 44), (some (41, false))⟩,
        ⟨(some 46), .mv (.tmp 0), (some (45, true))⟩,
        ⟨(some 47), .nilc (.tmp 46), (some (45, true))⟩,
        ⟨(some 48), .faddr 2 (.tmp 47), (some (45, true))⟩,
        ⟨(some 49), .load 1 false (.tmp 48), (some (45, true))⟩,
        ⟨(some 50), .mv (.tmp 0), (some (45, true))⟩,
        ⟨(some 51), .mv (.tmp 2), (some (45, true))⟩,
        ⟨(some 52), .mv (.tmp 12), (some (45, true))⟩,
        ⟨(some 53), .mv (.tmp 3), (some (45, true))⟩,
        ⟨(some 54), .mv (.tmp 11), (some (45, true))⟩,
        ⟨(some 55), .qcall 94 [(.tmp 50), (.tmp 51), (.tmp 52), (.tmp 53), (.tmp 54)], (some (45, true))⟩,
        ⟨(some 56), .iaddr 1 (.tmp 49) (.tmp 55), (some (45, true))⟩,
        ⟨(some 57), .load 1 false (.tmp 56), (some (45, true))⟩,
        ⟨(some 58), .un .not (.tmp 57), (some (45, true))⟩,
        ⟨(some 59), .pick (.tmp 45) (.tmp 58) (.const (.bool false)), (some (41, false))⟩,
        ⟨(some 60), .pick (.tmp 41) (.const (.bool true)) (.tmp 59), none⟩] [0, 2, 3, 9, 13, 14, 15, 60])
    (.cond (.tmp 60)
     (.reg [
         ⟨(some 61), .mv (.tmp 9), none⟩,
         ⟨(some 62), .bin .add (.tmp 61) (.const (.int .i64 1)), none⟩,
         ⟨(some 9), .mv (.tmp 62), none⟩] [0, 2, 3, 9, 13, 14, 15])
     (.skip)))))))
   (.reg [
       ⟨(some 63), .bin .add (.tmp 15) (.const (.int .i64 1)), none⟩,
       ⟨(some 15), .mv (.tmp 63), none⟩] [0, 2, 3, 9, 13, 14, 15])))))))
 (.seq (.reg [
     ⟨(some 64), .mv (.tmp 9), none⟩,
     ⟨(some 8), .mv (.tmp 64), none⟩] [8])
 (.ret))))
theorem s_impl_cover_gain : stripF Try.prog 95 [[0, 1, 2, 3], [0, 1, 2, 3, 9], [0, 2, 3, 9, 13, 14, 15], [0, 2, 3, 9, 13, 14, 15], [0, 2, 3, 9, 13, 14, 15, 16], [0, 2, 3, 9, 10, 11, 13, 14, 15], [0, 2, 3, 9, 11, 12, 13, 14, 15], [0, 2, 3, 9, 11, 12, 13, 14, 15, 22], [0, 2, 3, 9, 13, 14, 15, 60], [0, 2, 3, 9, 13, 14, 15], [0, 2, 3, 9, 13, 14, 15], [8]] = some (c_impl_cover_gain, [.tmp 8], 65) := by kernel_rfl
def gain1 (l c : Nat) (m row : List Int) (i : Nat) (v : Int) (o : Nat) : Bool :=
  decide (0 ≤ row.getD o 0) && ((decide (o < i) && !m.contains (atI l c o i (row.getD o 0) v)) || (decide (i < o) && !m.contains (atI l c i o v (row.getD o 0))))
def gainTo (l c : Nat) (m row : List Int) (i : Nat) (v : Int) : Nat → Nat
  | 0 => 0
  | o + 1 => gainTo l c m row i v o + (if gain1 l c m row i v o = true then 1 else 0)
theorem gainTo_le (l c : Nat) (m row : List Int) (i : Nat) (v : Int) : ∀ o, gainTo l c m row i v o ≤ o
  | 0 => Nat.le_refl _
  | o + 1 => by
    have := gainTo_le l c m row i v o
    rw [gainTo]; split <;> omega
def bestTo (l c : Nat) (m row : List Int) (i : Nat) : Nat → Int × Int
  | 0 => (0, -1)
  | v + 1 => if (bestTo l c m row i v).2 < (gainTo l c m row i v c : Int) then ((v : Int), (gainTo l c m row i v c : Int)) else bestTo l c m row i v
def stepR (l c : Nat) (m row : List Int) (i : Nat) : List Int := if 0 ≤ row.getD i 0 then row else row.set i (bestTo l c m row i l).1
def nextTo (l c : Nat) (m row : List Int) : Nat → List Int
  | 0 => row
  | i + 1 => stepR l c m (nextTo l c m row i) i
def row0 (c x y : Nat) (v w : Int) : List Int := ((List.replicate c (-1 : Int)).set x v).set y w
def nextRow (l c : Nat) (m : List Int) (x y : Nat) (v w : Int) : List Int := nextTo l c m (row0 c x y v w) c
theorem bestTo_in (l c : Nat) (m row : List Int) (i : Nat) : ∀ n, 0 ≤ (bestTo l c m row i n).1 ∧ ((bestTo l c m row i n).1 < n ∨ (bestTo l c m row i n).1 = 0) ∧ -1 ≤ (bestTo l c m row i n).2 ∧ (bestTo l c m row i n).2 ≤ c
  | 0 => by simp [bestTo]
  | n + 1 => by
    have h1 := bestTo_in l c m row i n
    have h2 := gainTo_le l c m row i n c
    rw [bestTo]
    split
    · dsimp only; omega
    · omega
theorem stepR_len (l c : Nat) (m row : List Int) (i : Nat) : (stepR l c m row i).length = row.length := by unfold stepR; split <;> simp
theorem nextTo_len (l c : Nat) (m row : List Int) : ∀ i, (nextTo l c m row i).length = row.length
  | 0 => rfl
  | i + 1 => by rw [nextTo, stepR_len, nextTo_len l c m row i]
theorem row0_len (c x y : Nat) (v w : Int) : (row0 c x y v w).length = c := by simp [row0]
theorem getD_setI (w : List Int) (a i : Nat) (v : Int) : (w.set a v).getD i 0 = if a = i ∧ a < w.length then v else w.getD i 0 := by
  rw [List.getD_eq_getElem?_getD, List.getElem?_set]
  by_cases h : a = i
  · subst h
    by_cases h2 : a < w.length
    · simp [h2]
    · simp [h2]
  · simp [h]
theorem nextTo_in {l c : Nat} {m row : List Int} (hl : 1 ≤ l) (hr : row.length = c) (h : ∀ i, i < c → -1 ≤ row.getD i 0 ∧ row.getD i 0 < l) : ∀ n, n ≤ c → (∀ i, i < c → -1 ≤ (nextTo l c m row n).getD i 0 ∧ (nextTo l c m row n).getD i 0 < l) ∧ (∀ i, i < n → 0 ≤ (nextTo l c m row n).getD i 0) ∧ ∀ i, i < c → 0 ≤ row.getD i 0 → (nextTo l c m row n).getD i 0 = row.getD i 0
  | 0, _ => ⟨h, by omega, fun i _ _ => rfl⟩
  | n + 1, hn => by
    obtain ⟨h1, h2, h3⟩ := nextTo_in (m := m) hl hr h n (by omega)
    have hlen := nextTo_len l c m row n
    have hb := bestTo_in l c m (nextTo l c m row n) n l
    rw [nextTo]
    generalize nextTo l c m row n = R at *
    unfold stepR
    split
    · rename_i h0
      refine ⟨h1, fun i hi => ?_, h3⟩
      rcases Nat.lt_succ_iff_lt_or_eq.1 hi with hi | rfl
      · exact h2 i hi
      · exact h0
    · rename_i h0
      refine ⟨fun i hi => ?_, fun i hi => ?_, fun i hi hp => ?_⟩
      · rw [getD_setI]
        split
        · omega
        · exact h1 i hi
      · rw [getD_setI]
        split
        · omega
        · rename_i hne
          rcases Nat.lt_succ_iff_lt_or_eq.1 hi with hi | rfl
          · exact h2 i hi
          · exact absurd ⟨rfl, by omega⟩ hne
      · rw [getD_setI]
        split
        · rename_i he
          have := h3 i hi hp
          rw [← he.1] at this hp
          omega
        · exact h3 i hi hp
theorem row0_in {l c x y : Nat} {v w : Int} (hv : 0 ≤ v ∧ v < l) (hw : 0 ≤ w ∧ w < l) (i : Nat) (hi : i < c) : -1 ≤ (row0 c x y v w).getD i 0 ∧ (row0 c x y v w).getD i 0 < l := by
  unfold row0
  rw [getD_setI, getD_setI]
  split
  · omega
  · split
    · omega
    · rw [List.getD_eq_getElem?_getD, List.getElem?_replicate, if_pos hi]
      simp; omega
theorem row0_xy {c x y : Nat} {v w : Int} (hxy : x < y) (hy : y < c) : (row0 c x y v w).getD x 0 = v ∧ (row0 c x y v w).getD y 0 = w := by
  unfold row0
  refine ⟨?_, ?_⟩
  · rw [getD_setI, if_neg (by omega), getD_setI, if_pos ⟨rfl, by simp; omega⟩]
  · rw [getD_setI, if_pos ⟨rfl, by simp; omega⟩]
theorem nextRow_ok {l c x y : Nat} {m : List Int} {v w : Int} (hl : 1 ≤ l) (hv : 0 ≤ v ∧ v < l) (hw : 0 ≤ w ∧ w < l) (hxy : x < y) (hy : y < c) : (nextRow l c m x y v w).length = c ∧ (∀ i, i < c → 0 ≤ (nextRow l c m x y v w).getD i 0 ∧ (nextRow l c m x y v w).getD i 0 < l) ∧ (nextRow l c m x y v w).getD x 0 = v ∧ (nextRow l c m x y v w).getD y 0 = w := by
  have h := nextTo_in (m := m) hl (row0_len c x y v w) (fun i hi => row0_in hv hw i hi) c (Nat.le_refl _)
  have h0 := row0_xy (v := v) (w := w) hxy hy
  refine ⟨?_, fun i hi => ⟨h.2.1 i hi, (h.1 i hi).2⟩, ?_, ?_⟩
  · unfold nextRow; rw [nextTo_len, row0_len]
  · have := h.2.2 x (by omega) (by omega)
    unfold nextRow; omega
  · have := h.2.2 y hy (by omega)
    unfold nextRow; omega
theorem gain_ok (H : List Blk) (p r : Nat) (a : AV) (l c : Nat) (m row : List Int) (i : Nat) (v : Int) (hl : l ≤ 16) (hc : c ≤ 8) (hrow : row.length = c) (hv : 0 ≤ v ∧ v < l) (hi : i < c) (hr0 : ∀ j, j < c → -1 ≤ row.getD j 0 ∧ row.getD j 0 < l) (hp : H[p]? = some ⟨0, tyK, 1, [I l, I c, .nm r 0 0 (c * c * l * l)]⟩) (hr : H[r]? = some (bB (c * c * l * l) m 0)) (ha : aview H a = some (row.length, row.map I)) :
    ACalls Try.prog f_impl_cover_gain [.pc p 0 0, a, I i, I v] H (fun r' H' => r' = I (gainTo l c m row i v c : Nat) ∧ H' = H) := by
  have hvw : aview H (.nm r 0 0 (c * c * l * l)) = some (c * c * l * l, (marks (c * c * l * l) m).map Bv) := view_nm hr (by simp [marks_length])
  refine ACalls.introB s_impl_cover_gain (by simp) ?_; intro hB hA; unfold c_impl_cover_gain; simp (config := { maxSteps := 1000000 }) (disch := (first | omega | (simp only [go_sem]; try omega))) only [go_sem, Nat.reduceAdd, Nat.reduceEqDiff, Nat.reduceLeDiff, Nat.reduceMul, Nat.reduceLT, reduceIte, Int.reduceToNat, w64_id, cast_succ]
  repeat (first | (with_reducible first | refine SW.seq ?_ | refine SW.block ?_ | refine SW.rowC ?_ | refine SW.skip ?_ | refine SW.exit ?_ | intro _ | refine And.intro (by omega) ?_) | simp (config := { maxSteps := 1000000 }) (disch := (first | omega | (simp only [go_sem]; try omega))) only [go_sem, Nat.reduceAdd, Nat.reduceEqDiff, Nat.reduceLeDiff, Nat.reduceMul, Nat.reduceLT, reduceIte, Int.reduceToNat, w64_id, cast_succ, ha, pc_ld hp, pc_alive hp])
  refine SW.loopE (fun E0 H0 q E' H' => ∃ o : Nat, o ≤ c ∧ q = c - o ∧ E' = aput (aput E0 9 (I (gainTo l c m row i v o : Nat))) 15 (I o) ∧ H' = H0) c ⟨0, by omega, by omega, rfl, rfl⟩ ?_
  rintro q E' H' ⟨o, ho, rfl, rfl, rfl⟩
  have hgl := gainTo_le l c m row i v o
  have hgs : gainTo l c m row i v (o + 1) = gainTo l c m row i v o + (if gain1 l c m row i v o = true then 1 else 0) := rfl
  simp (config := { maxSteps := 1000000 }) (disch := (first | omega | (simp only [go_sem]; try omega))) only [go_sem, Nat.reduceAdd, Nat.reduceEqDiff, Nat.reduceLeDiff, Nat.reduceMul, Nat.reduceLT, reduceIte, Int.reduceToNat, w64_id, cast_succ]
  repeat (first | (with_reducible first | refine SW.seq ?_ | refine SW.block ?_ | refine SW.rowC ?_ | refine SW.skip ?_ | refine SW.exit ?_ | intro _ | refine And.intro (by omega) ?_) | simp (config := { maxSteps := 1000000 }) (disch := (first | omega | (simp only [go_sem]; try omega))) only [go_sem, Nat.reduceAdd, Nat.reduceEqDiff, Nat.reduceLeDiff, Nat.reduceMul, Nat.reduceLT, reduceIte, Int.reduceToNat, w64_id, cast_succ])
  (first | refine SW.condD rfl (fun h => ?_) (fun h => ?_) | refine SW.condN rfl (fun h => ?_) (fun h => ?_) | refine SW.condNB rfl (fun h => ?_) (fun h => ?_) | refine SW.condB rfl (fun h => ?_) (fun h => ?_))
  · have hoc : o < c := by omega
    have hw := hr0 o hoc
    have hin : ∀ z : Int, 0 ≤ z → z < (c * c * l * l : Nat) → ((marks (c * c * l * l) m).map Bv)[z.toNat]? = some (Bv (m.contains z)) := fun z h0 h1 => by
      have hmg := marks_get (c * c * l * l) m z h0 h1
      rw [List.getElem?_map, List.getElem?_eq_getElem (by rw [marks_length]; omega), Option.map_some, ← hmg, List.getD_eq_getElem?_getD, List.getElem?_eq_getElem (by rw [marks_length]; omega)]; rfl
    by_cases hw0 : row.getD o 0 < 0
    · have d1 : decide (row.getD o 0 < 0) = true := decide_eq_true hw0
      have hg1 : gain1 l c m row i v o = false := by unfold gain1; rw [decide_eq_false (by omega)]; rfl
      rw [hg1] at hgs
      repeat (first | (with_reducible first | refine SW.seq ?_ | refine SW.block ?_ | refine SW.rowC ?_ | refine SW.skip ?_ | refine SW.exit ?_ | intro _ | refine And.intro (by omega) ?_) | simp (config := { maxSteps := 1000000 }) (disch := (first | omega | (simp only [go_sem]; try omega))) only [go_sem, Nat.reduceAdd, Nat.reduceEqDiff, Nat.reduceLeDiff, Nat.reduceMul, Nat.reduceLT, reduceIte, Int.reduceToNat, w64_id, cast_succ, ha, d1])
      refine SW.condT rfl ?_
      repeat (first | (with_reducible first | refine SW.seq ?_ | refine SW.block ?_ | refine SW.rowC ?_ | refine SW.skip ?_ | refine SW.exit ?_ | intro _ | refine And.intro (by omega) ?_) | simp (config := { maxSteps := 1000000 }) (disch := (first | omega | (simp only [go_sem]; try omega))) only [go_sem, Nat.reduceAdd, Nat.reduceEqDiff, Nat.reduceLeDiff, Nat.reduceMul, Nat.reduceLT, reduceIte, Int.reduceToNat, w64_id, cast_succ])
      refine SLoop.next (c - (o + 1)) (by omega) ⟨o + 1, by omega, rfl, ?_, rfl⟩
      rw [hgs]; simp [go_sem]
    · have d1 : decide (row.getD o 0 < 0) = false := decide_eq_false hw0
      by_cases h1 : o < i
      · have d2 : decide ((o : Int) < (i : Int)) = true := decide_eq_true (by omega)
        have d3 : decide ((i : Int) < (o : Int)) = false := decide_eq_false (by omega)
        have f1 : decide (0 ≤ row.getD o 0) = true := decide_eq_true (by omega)
        have f2 : decide (o < i) = true := decide_eq_true h1
        have f3 : decide (i < o) = false := decide_eq_false (by omega)
        repeat (first | (with_reducible first | refine SW.seq ?_ | refine SW.block ?_ | refine SW.rowC ?_ | refine SW.skip ?_ | refine SW.exit ?_ | intro _ | refine And.intro (by omega) ?_) | simp (config := { maxSteps := 1000000 }) (disch := (first | omega | (simp only [go_sem]; try omega))) only [go_sem, Nat.reduceAdd, Nat.reduceEqDiff, Nat.reduceLeDiff, Nat.reduceMul, Nat.reduceLT, reduceIte, Int.reduceToNat, w64_id, cast_succ, ha, d1, d2, pc_ld hp, pc_alive hp])
        refine SW.condF rfl ?_
        repeat (first | (with_reducible first | refine SW.seq ?_ | refine SW.block ?_ | refine SW.rowC ?_ | refine SW.skip ?_ | refine SW.exit ?_ | intro _ | refine And.intro (by omega) ?_) | simp (config := { maxSteps := 1000000 }) (disch := (first | omega | (simp only [go_sem]; try omega))) only [go_sem, Nat.reduceAdd, Nat.reduceEqDiff, Nat.reduceLeDiff, Nat.reduceMul, Nat.reduceLT, reduceIte, Int.reduceToNat, w64_id, cast_succ, ha, d1, d2, d3, pc_ld hp, pc_alive hp])
        refine QcallW.of (fun ext => at_ok _ p l c _ (o : Int) (i : Int) (row.getD o 0) v hl hc (by omega) (by omega) (by omega) hv (get_appF hp ext)) ?_
        have hat := at_bd hl hc (x := (o : Int)) (y := (i : Int)) (v := row.getD o 0) (w := v) (by omega) (by omega) (by omega) hv
        generalize hz : atI l c (o : Int) (i : Int) (row.getD o 0) v = z at *
        have hzl : z < ((c * c * l * l : Nat) : Int) := by simp only [Int.natCast_mul]; exact hat.2.2.2.2
        have hci := hin z (by omega) hzl
        cases hb : m.contains z
        · rw [hb] at hci
          have hg1 : gain1 l c m row i v o = true := by unfold gain1; rw [f1, f2, f3, hz, hb]; rfl
          rw [hg1, if_pos rfl] at hgs
          repeat (first | (with_reducible first | refine SW.seq ?_ | refine SW.block ?_ | refine SW.rowC ?_ | refine SW.skip ?_ | refine SW.exit ?_ | intro _ | refine And.intro (by omega) ?_) | simp (config := { maxSteps := 1000000 }) (disch := (first | omega | (simp only [go_sem]; try omega))) only [go_sem, Nat.reduceAdd, Nat.reduceEqDiff, Nat.reduceLeDiff, Nat.reduceMul, Nat.reduceLT, reduceIte, Int.reduceToNat, w64_id, cast_succ, hvw, ldc hvw hci, d2, d3])
          refine SW.condT rfl ?_
          repeat (first | (with_reducible first | refine SW.seq ?_ | refine SW.block ?_ | refine SW.rowC ?_ | refine SW.skip ?_ | refine SW.exit ?_ | intro _ | refine And.intro (by omega) ?_) | simp (config := { maxSteps := 1000000 }) (disch := (first | omega | (simp only [go_sem]; try omega))) only [go_sem, Nat.reduceAdd, Nat.reduceEqDiff, Nat.reduceLeDiff, Nat.reduceMul, Nat.reduceLT, reduceIte, Int.reduceToNat, w64_id, cast_succ])
          refine SLoop.next (c - (o + 1)) (by omega) ⟨o + 1, by omega, rfl, ?_, rfl⟩
          rw [hgs]; simp [go_sem]
        · rw [hb] at hci
          have hg1 : gain1 l c m row i v o = false := by unfold gain1; rw [f1, f2, f3, hz, hb]; rfl
          rw [hg1] at hgs
          repeat (first | (with_reducible first | refine SW.seq ?_ | refine SW.block ?_ | refine SW.rowC ?_ | refine SW.skip ?_ | refine SW.exit ?_ | intro _ | refine And.intro (by omega) ?_) | simp (config := { maxSteps := 1000000 }) (disch := (first | omega | (simp only [go_sem]; try omega))) only [go_sem, Nat.reduceAdd, Nat.reduceEqDiff, Nat.reduceLeDiff, Nat.reduceMul, Nat.reduceLT, reduceIte, Int.reduceToNat, w64_id, cast_succ, hvw, ldc hvw hci, d2, d3])
          refine SW.condF rfl ?_
          repeat (first | (with_reducible first | refine SW.seq ?_ | refine SW.block ?_ | refine SW.rowC ?_ | refine SW.skip ?_ | refine SW.exit ?_ | intro _ | refine And.intro (by omega) ?_) | simp (config := { maxSteps := 1000000 }) (disch := (first | omega | (simp only [go_sem]; try omega))) only [go_sem, Nat.reduceAdd, Nat.reduceEqDiff, Nat.reduceLeDiff, Nat.reduceMul, Nat.reduceLT, reduceIte, Int.reduceToNat, w64_id, cast_succ])
          refine SLoop.next (c - (o + 1)) (by omega) ⟨o + 1, by omega, rfl, ?_, rfl⟩
          rw [hgs]; simp [go_sem]
      · have d2 : decide ((o : Int) < (i : Int)) = false := decide_eq_false (by omega)
        by_cases h2 : i < o
        · have d3 : decide ((i : Int) < (o : Int)) = true := decide_eq_true (by omega)
          have f1 : decide (0 ≤ row.getD o 0) = true := decide_eq_true (by omega)
          have f2 : decide (o < i) = false := decide_eq_false h1
          have f3 : decide (i < o) = true := decide_eq_true h2
          repeat (first | (with_reducible first | refine SW.seq ?_ | refine SW.block ?_ | refine SW.rowC ?_ | refine SW.skip ?_ | refine SW.exit ?_ | intro _ | refine And.intro (by omega) ?_) | simp (config := { maxSteps := 1000000 }) (disch := (first | omega | (simp only [go_sem]; try omega))) only [go_sem, Nat.reduceAdd, Nat.reduceEqDiff, Nat.reduceLeDiff, Nat.reduceMul, Nat.reduceLT, reduceIte, Int.reduceToNat, w64_id, cast_succ, ha, d1, d2, d3, pc_ld hp, pc_alive hp])
          refine SW.condF rfl ?_
          repeat (first | (with_reducible first | refine SW.seq ?_ | refine SW.block ?_ | refine SW.rowC ?_ | refine SW.skip ?_ | refine SW.exit ?_ | intro _ | refine And.intro (by omega) ?_) | simp (config := { maxSteps := 1000000 }) (disch := (first | omega | (simp only [go_sem]; try omega))) only [go_sem, Nat.reduceAdd, Nat.reduceEqDiff, Nat.reduceLeDiff, Nat.reduceMul, Nat.reduceLT, reduceIte, Int.reduceToNat, w64_id, cast_succ, ha, d1, d2, d3, pc_ld hp, pc_alive hp])
          refine QcallW.of (fun ext => at_ok _ p l c _ (i : Int) (o : Int) v (row.getD o 0) hl hc (by omega) (by omega) hv (by omega) (get_appF hp ext)) ?_
          have hat := at_bd hl hc (x := (i : Int)) (y := (o : Int)) (v := v) (w := row.getD o 0) (by omega) (by omega) hv (by omega)
          generalize hz : atI l c (i : Int) (o : Int) v (row.getD o 0) = z at *
          have hzl : z < ((c * c * l * l : Nat) : Int) := by simp only [Int.natCast_mul]; exact hat.2.2.2.2
          have hci := hin z (by omega) hzl
          cases hb : m.contains z
          · rw [hb] at hci
            have hg1 : gain1 l c m row i v o = true := by unfold gain1; rw [f1, f2, f3, hz, hb]; rfl
            rw [hg1, if_pos rfl] at hgs
            repeat (first | (with_reducible first | refine SW.seq ?_ | refine SW.block ?_ | refine SW.rowC ?_ | refine SW.skip ?_ | refine SW.exit ?_ | intro _ | refine And.intro (by omega) ?_) | simp (config := { maxSteps := 1000000 }) (disch := (first | omega | (simp only [go_sem]; try omega))) only [go_sem, Nat.reduceAdd, Nat.reduceEqDiff, Nat.reduceLeDiff, Nat.reduceMul, Nat.reduceLT, reduceIte, Int.reduceToNat, w64_id, cast_succ, hvw, ldc hvw hci, d2, d3])
            refine SW.condT rfl ?_
            repeat (first | (with_reducible first | refine SW.seq ?_ | refine SW.block ?_ | refine SW.rowC ?_ | refine SW.skip ?_ | refine SW.exit ?_ | intro _ | refine And.intro (by omega) ?_) | simp (config := { maxSteps := 1000000 }) (disch := (first | omega | (simp only [go_sem]; try omega))) only [go_sem, Nat.reduceAdd, Nat.reduceEqDiff, Nat.reduceLeDiff, Nat.reduceMul, Nat.reduceLT, reduceIte, Int.reduceToNat, w64_id, cast_succ])
            refine SLoop.next (c - (o + 1)) (by omega) ⟨o + 1, by omega, rfl, ?_, rfl⟩
            rw [hgs]; simp [go_sem]
          · rw [hb] at hci
            have hg1 : gain1 l c m row i v o = false := by unfold gain1; rw [f1, f2, f3, hz, hb]; rfl
            rw [hg1] at hgs
            repeat (first | (with_reducible first | refine SW.seq ?_ | refine SW.block ?_ | refine SW.rowC ?_ | refine SW.skip ?_ | refine SW.exit ?_ | intro _ | refine And.intro (by omega) ?_) | simp (config := { maxSteps := 1000000 }) (disch := (first | omega | (simp only [go_sem]; try omega))) only [go_sem, Nat.reduceAdd, Nat.reduceEqDiff, Nat.reduceLeDiff, Nat.reduceMul, Nat.reduceLT, reduceIte, Int.reduceToNat, w64_id, cast_succ, hvw, ldc hvw hci, d2, d3])
            refine SW.condF rfl ?_
            repeat (first | (with_reducible first | refine SW.seq ?_ | refine SW.block ?_ | refine SW.rowC ?_ | refine SW.skip ?_ | refine SW.exit ?_ | intro _ | refine And.intro (by omega) ?_) | simp (config := { maxSteps := 1000000 }) (disch := (first | omega | (simp only [go_sem]; try omega))) only [go_sem, Nat.reduceAdd, Nat.reduceEqDiff, Nat.reduceLeDiff, Nat.reduceMul, Nat.reduceLT, reduceIte, Int.reduceToNat, w64_id, cast_succ])
            refine SLoop.next (c - (o + 1)) (by omega) ⟨o + 1, by omega, rfl, ?_, rfl⟩
            rw [hgs]; simp [go_sem]
        · have d3 : decide ((i : Int) < (o : Int)) = false := decide_eq_false (by omega)
          repeat (first | (with_reducible first | refine SW.seq ?_ | refine SW.block ?_ | refine SW.rowC ?_ | refine SW.skip ?_ | refine SW.exit ?_ | intro _ | refine And.intro (by omega) ?_) | simp (config := { maxSteps := 1000000 }) (disch := (first | omega | (simp only [go_sem]; try omega))) only [go_sem, Nat.reduceAdd, Nat.reduceEqDiff, Nat.reduceLeDiff, Nat.reduceMul, Nat.reduceLT, reduceIte, Int.reduceToNat, w64_id, cast_succ, ha, d1, d2, d3, pc_ld hp, pc_alive hp])
          have hg1 : gain1 l c m row i v o = false := by
            unfold gain1
            rw [decide_eq_false h1, decide_eq_false h2]
            simp
          rw [hg1] at hgs
          refine SW.condF rfl ?_
          repeat (first | (with_reducible first | refine SW.seq ?_ | refine SW.block ?_ | refine SW.rowC ?_ | refine SW.skip ?_ | refine SW.exit ?_ | intro _ | refine And.intro (by omega) ?_) | simp (config := { maxSteps := 1000000 }) (disch := (first | omega | (simp only [go_sem]; try omega))) only [go_sem, Nat.reduceAdd, Nat.reduceEqDiff, Nat.reduceLeDiff, Nat.reduceMul, Nat.reduceLT, reduceIte, Int.reduceToNat, w64_id, cast_succ, ha, d1, d2, d3, pc_ld hp, pc_alive hp])
          refine SW.condF rfl ?_
          repeat (first | (with_reducible first | refine SW.seq ?_ | refine SW.block ?_ | refine SW.rowC ?_ | refine SW.skip ?_ | refine SW.exit ?_ | intro _ | refine And.intro (by omega) ?_) | simp (config := { maxSteps := 1000000 }) (disch := (first | omega | (simp only [go_sem]; try omega))) only [go_sem, Nat.reduceAdd, Nat.reduceEqDiff, Nat.reduceLeDiff, Nat.reduceMul, Nat.reduceLT, reduceIte, Int.reduceToNat, w64_id, cast_succ])
          refine SLoop.next (c - (o + 1)) (by omega) ⟨o + 1, by omega, rfl, ?_, rfl⟩
          rw [hgs]; simp [go_sem]
  · have : o = c := by omega
    subst this
    repeat (first | (with_reducible first | refine SW.seq ?_ | refine SW.block ?_ | refine SW.rowC ?_ | refine SW.skip ?_ | refine SW.exit ?_ | intro _ | refine And.intro (by omega) ?_) | simp (config := { maxSteps := 1000000 }) (disch := (first | omega | (simp only [go_sem]; try omega))) only [go_sem, Nat.reduceAdd, Nat.reduceEqDiff, Nat.reduceLeDiff, Nat.reduceMul, Nat.reduceLT, reduceIte, Int.reduceToNat, w64_id, cast_succ])
    refine SW.ret ?_; (try simp only [go_sem]); (first | refine FunPost.one ?_ | refine FunPost.two ?_ | refine FunPost.three ?_); (try simp (config := { maxSteps := 1000000 }) (disch := (first | omega | (simp only [go_sem]; try omega))) only [go_sem, Nat.reduceAdd, Nat.reduceEqDiff, Nat.reduceLeDiff, Nat.reduceMul, Nat.reduceLT, reduceIte, Int.reduceToNat, w64_id, cast_succ])
    exact GR.of ⟨rfl, rfl⟩
end Go.Proofs.Ythogadbnddmkdaa
