/- A round of refinement: the reference. -/
import Derived.Test.YtmdeibdplpodpaaProg
import Derived.KernelRfl
import Derived.Test.YtmdeibdplpodpaazRK
import Derived.Test.YtmdeibdplpodpaazK51
import Derived.Test.YtmdeibdplpodpaazAv17
set_option linter.unusedSimpArgs false
set_option linter.unusedVariables false
set_option maxHeartbeats 4000000
set_option maxRecDepth 100000
namespace Go.Proofs.Ytmdeibdplpodpaa
open Go.Av
abbrev f_spec_l21Round : Nat := 73
def c_spec_l21Round : SC :=
 .seq (.reg [
     ⟨(some 4), .mv (.const (.slice none 0 0)), none⟩] [0, 1])
 (.seq (.reg [
     ⟨(some 15), .mv (.tmp 0), none⟩,
     ⟨(some 16), .len (.tmp 15), none⟩,
     ⟨(some 5), .mv (.tmp 16), none⟩] [0, 1, 5])
 (.seq (.reg [
     ⟨(some 17), .bslice 22 1 0 [] [], none⟩,
     ⟨(some 6), .mv (.tmp 17), none⟩] [0, 1, 5, 6])
 (.seq (.seq (.reg [
     ⟨(some 7), .mv (.const (.int .i64 0)), none⟩] [0, 1, 5, 6, 7])
 (.block 0 (.loop [0, 1, 5, 6, 7]
   (.seq (.seq (.reg [
       ⟨(some 18), .mv (.tmp 7), none⟩,
       ⟨(some 19), .mv (.tmp 5), none⟩,
       ⟨(some 20), .bin .lss (.tmp 18) (.tmp 19), none⟩] [0, 1, 5, 6, 7, 20])
   (.cond (.tmp 20)
    (.skip)
    (.exit 0)))
   (.seq (.block 1 (.seq (.reg [
        ⟨(some 23), .bslice 2 1 0 [] [], none⟩,
        ⟨(some 8), .mv (.tmp 23), none⟩] [0, 1, 5, 6, 7, 8])
    (.seq (.seq (.reg [
        ⟨(some 9), .mv (.const (.int .i64 0)), none⟩] [0, 1, 5, 6, 7, 8, 9])
    (.block 2 (.loop [0, 1, 5, 6, 7, 8, 9]
      (.seq (.seq (.reg [
          ⟨(some 24), .mv (.tmp 9), none⟩,
          ⟨(some 25), .mv (.tmp 0), none⟩,
          ⟨(some 26), .mv (.tmp 7), none⟩,
          ⟨(some 27), .iaddr 1 (.tmp 25) (.tmp 26), none⟩,
          ⟨(some 28), .load 1 false (.tmp 27), none⟩,
          ⟨(some 29), .len (.tmp 28), none⟩,
          ⟨(some 30), .bin .lss (.tmp 24) (.tmp 29), none⟩] [0, 1, 5, 6, 7, 8, 9, 30])
      (.cond (.tmp 30)
       (.skip)
       (.exit 2)))
      (.seq (.block 3 (.reg [
           ⟨(some 33), .mv (.tmp 8), none⟩,
           ⟨(some 34), .mv (.tmp 1), none⟩,
           ⟨(some 35), .mv (.tmp 0), none⟩,
           ⟨(some 36), .mv (.tmp 7), none⟩,
           ⟨(some 37), .iaddr 1 (.tmp 35) (.tmp 36), none⟩,
           ⟨(some 38), .load 1 false (.tmp 37), none⟩,
           ⟨(some 39), .mv (.tmp 9), none⟩,
           ⟨(some 40), .iaddr 1 (.tmp 38) (.tmp 39), none⟩,
           ⟨(some 41), .load 1 false (.tmp 40), none⟩,
           ⟨(some 42), .iaddr 1 (.tmp 34) (.tmp 41), none⟩,
           ⟨(some 43), .load 1 false (.tmp 42), none⟩,
           ⟨(some 44), .bslice 2 1 1 [(.int .i64 0)] [(0, (.tmp 43))], none⟩,
           ⟨(some 45), .app 2 1 8 (.tmp 33) (.tmp 44), none⟩,
           ⟨(some 8), .mv (.tmp 45), none⟩] [0, 1, 5, 6, 7, 8, 9]))
      (.reg [
          ⟨(some 31), .mv (.tmp 9), none⟩,
          ⟨(some 32), .bin .add (.tmp 31) (.const (.int .i64 1)), none⟩,
          ⟨(some 9), .mv (.tmp 32), none⟩] [0, 1, 5, 6, 7, 8, 9]))))))
    (.reg [
        ⟨(some 46), .mv (.tmp 6), none⟩,
        ⟨(some 47), .mv (.tmp 1), none⟩,
        ⟨(some 48), .mv (.tmp 7), none⟩,
        ⟨(some 49), .iaddr 1 (.tmp 47) (.tmp 48), none⟩,
        ⟨(some 50), .load 1 false (.tmp 49), none⟩,
        ⟨(some 52), .mv (.tmp 8), none⟩,
        ⟨(some 53), .qcall 89 [(.tmp 52)], none⟩,
        ⟨(some 51), .bslice 2 1 1 [(.int .i64 0)] [(0, (.tmp 50))], none⟩,
        ⟨(some 54), .app 2 1 8 (.tmp 51) (.tmp 53), none⟩,
        ⟨(some 55), .bslice 22 1 1 [(.slice none 0 0)] [(0, (.tmp 54))], none⟩,
        ⟨(some 56), .app 22 1 24 (.tmp 46) (.tmp 55), none⟩,
        ⟨(some 6), .mv (.tmp 56), none⟩] [0, 1, 5, 6, 7]))))
   (.reg [
       ⟨(some 21), .mv (.tmp 7), none⟩,
       ⟨(some 22), .bin .add (.tmp 21) (.const (.int .i64 1)), none⟩,
       ⟨(some 7), .mv (.tmp 22), none⟩] [0, 1, 5, 6, 7]))))))
 (.seq (.reg [
     ⟨(some 57), .bslice 22 1 0 [] [], none⟩,
     ⟨(some 10), .mv (.tmp 57), none⟩] [5, 6, 10])
 (.seq (.seq (.reg [
     ⟨(some 11), .mv (.const (.int .i64 0)), none⟩] [5, 6, 10, 11])
 (.block 4 (.loop [5, 6, 10, 11]
   (.seq (.seq (.reg [
       ⟨(some 58), .mv (.tmp 11), none⟩,
       ⟨(some 59), .mv (.tmp 5), none⟩,
       ⟨(some 60), .bin .lss (.tmp 58) (.tmp 59), none⟩] [5, 6, 10, 11, 60])
   (.cond (.tmp 60)
    (.skip)
    (.exit 4)))
   (.seq (.block 5 (.reg [
        ⟨(some 63), .mv (.tmp 10), none⟩,
        ⟨(some 64), .mv (.tmp 6), none⟩,
        ⟨(some 65), .mv (.tmp 11), none⟩,
        ⟨(some 66), .iaddr 1 (.tmp 64) (.tmp 65), none⟩,
        ⟨(some 67), .load 1 false (.tmp 66), none⟩,
        ⟨(some 68), .call 90 [(.tmp 63), (.tmp 67)], none⟩,
        ⟨(some 10), .mv (.tmp 68), none⟩] [5, 6, 10, 11]))
   (.reg [
       ⟨(some 61), .mv (.tmp 11), none⟩,
       ⟨(some 62), .bin .add (.tmp 61) (.const (.int .i64 1)), none⟩,
       ⟨(some 11), .mv (.tmp 62), none⟩] [5, 6, 10, 11]))))))
 (.seq (.reg [
     ⟨(some 69), .bslice 2 1 0 [] [], none⟩,
     ⟨(some 12), .mv (.tmp 69), none⟩] [5, 6, 10, 12])
 (.seq (.seq (.reg [
     ⟨(some 13), .mv (.const (.int .i64 0)), none⟩] [5, 6, 10, 12, 13])
 (.block 6 (.loop [5, 6, 10, 12, 13]
   (.seq (.seq (.reg [
       ⟨(some 70), .mv (.tmp 13), none⟩,
       ⟨(some 71), .mv (.tmp 5), none⟩,
       ⟨(some 72), .bin .lss (.tmp 70) (.tmp 71), none⟩] [5, 6, 10, 12, 13, 72])
   (.cond (.tmp 72)
    (.skip)
    (.exit 6)))
   (.seq (.block 7 (.seq (.reg [
        ⟨(some 14), .mv (.const (.int .i64 0)), none⟩] [5, 6, 10, 12, 13, 14])
    (.block 8 (.loop [5, 6, 10, 12, 13, 14]
      (.seq (.seq (.reg [
          ⟨(some 75), .mv (.tmp 14), none⟩,
          ⟨(some 76), .mv (.tmp 10), none⟩,
          ⟨(some 77), .len (.tmp 76), none⟩,
          ⟨(some 78), .bin .lss (.tmp 75) (.tmp 77), none⟩] [5, 6, 10, 12, 13, 14, 78])
      (.cond (.tmp 78)
       (.skip)
       (.exit 8)))
      (.seq (.block 9 (.seq (.reg [
           ⟨(some 81), .mv (.tmp 10), none⟩,
           ⟨(some 82), .mv (.tmp 14), none⟩,
           ⟨(some 83), .iaddr 1 (.tmp 81) (.tmp 82), none⟩,
           ⟨(some 84), .load 1 false (.tmp 83), none⟩,
           ⟨(some 85), .mv (.tmp 6), none⟩,
           ⟨(some 86), .mv (.tmp 13), none⟩,
           ⟨(some 87), .iaddr 1 (.tmp 85) (.tmp 86), none⟩,
           ⟨(some 88), .load 1 false (.tmp 87), none⟩,
           ⟨(some 89), .qcall 86 [(.tmp 84), (.tmp 88)], none⟩,
           ⟨(some 90), .bin .eql (.tmp 89) (.const (.int .i64 0)), none⟩] [5, 6, 10, 12, 13, 14, 90])
       (.cond (.tmp 90)
        (.reg [
            ⟨(some 91), .mv (.tmp 12), none⟩,
            ⟨(some 92), .mv (.tmp 14), none⟩,
            ⟨(some 93), .bslice 2 1 1 [(.int .i64 0)] [(0, (.tmp 92))], none⟩,
            ⟨(some 94), .app 2 1 8 (.tmp 91) (.tmp 93), none⟩,
            ⟨(some 12), .mv (.tmp 94), none⟩] [5, 6, 10, 12, 13, 14])
        (.skip))))
      (.reg [
          ⟨(some 79), .mv (.tmp 14), none⟩,
          ⟨(some 80), .bin .add (.tmp 79) (.const (.int .i64 1)), none⟩,
          ⟨(some 14), .mv (.tmp 80), none⟩] [5, 6, 10, 12, 13, 14])))))))
   (.reg [
       ⟨(some 73), .mv (.tmp 13), none⟩,
       ⟨(some 74), .bin .add (.tmp 73) (.const (.int .i64 1)), none⟩,
       ⟨(some 13), .mv (.tmp 74), none⟩] [5, 6, 10, 12, 13]))))))
 (.seq (.reg [
     ⟨(some 95), .mv (.tmp 12), none⟩,
     ⟨(some 4), .mv (.tmp 95), none⟩] [4])
 (.ret)))))))))
theorem s_spec_l21Round : stripF Try.prog 73 [[0, 1], [0, 1, 5], [0, 1, 5, 6], [0, 1, 5, 6, 7], [0, 1, 5, 6, 7], [0, 1, 5, 6, 7, 20], [0, 1, 5, 6, 7, 8], [0, 1, 5, 6, 7, 8, 9], [0, 1, 5, 6, 7, 8, 9], [0, 1, 5, 6, 7, 8, 9, 30], [0, 1, 5, 6, 7, 8, 9], [0, 1, 5, 6, 7, 8, 9], [0, 1, 5, 6, 7], [0, 1, 5, 6, 7], [5, 6, 10], [5, 6, 10, 11], [5, 6, 10, 11], [5, 6, 10, 11, 60], [5, 6, 10, 11], [5, 6, 10, 11], [5, 6, 10, 12], [5, 6, 10, 12, 13], [5, 6, 10, 12, 13], [5, 6, 10, 12, 13, 72], [5, 6, 10, 12, 13, 14], [5, 6, 10, 12, 13, 14], [5, 6, 10, 12, 13, 14, 78], [5, 6, 10, 12, 13, 14, 90], [5, 6, 10, 12, 13, 14], [5, 6, 10, 12, 13, 14], [5, 6, 10, 12, 13], [4]] = some (c_spec_l21Round, [.tmp 4], 96) := by kernel_rfl
def keyL (near : List (List Int)) (cells : List Int) (v : Nat) : List Int := cells.getD v 0 :: isort ((near.getD v []).map fun w => cells.getD w.toNat 0)
def keysL (near : List (List Int)) (cells : List Int) (k : Nat) : List (List Int) := (List.range k).map (keyL near cells)
theorem keysL_succ (near : List (List Int)) (cells : List Int) (k : Nat) : keysL near cells (k + 1) = keysL near cells k ++ [keyL near cells k] := by unfold keysL; rw [List.range_succ, List.map_append]; rfl
theorem keysL_len (near : List (List Int)) (cells : List Int) (k : Nat) : (keysL near cells k).length = k := by simp [keysL]
def placesL (kinds : List (List Int)) (key : List Int) (k : Nat) : List Int := ((List.range k).filter fun i => decide (cmpL (kinds.getD i []) key = 0)).map fun (i : Nat) => (i : Int)
theorem placesL_succ (K : List (List Int)) (key : List Int) (k : Nat) : placesL K key (k + 1) = placesL K key k ++ if cmpL (K.getD k []) key = 0 then [(k : Int)] else [] := by
  unfold placesL
  rw [List.range_succ, List.filter_append, List.map_append]
  congr 1
  by_cases h : cmpL (K.getD k []) key = 0
  · rw [if_pos h, List.filter_cons_of_pos (by simpa using h)]; rfl
  · rw [if_neg h, List.filter_cons_of_neg (by simpa using h)]; rfl
theorem placesL_len (K : List (List Int)) (key : List Int) (k : Nat) : (placesL K key k).length ≤ k := by
  unfold placesL
  rw [List.length_map]
  have := List.length_filter_le (fun i => decide (cmpL (K.getD i []) key = 0)) (List.range k)
  simpa using this
def roundS (near : List (List Int)) (cells : List Int) (n : Nat) : List Int := (List.range n).flatMap fun v => placesL (sortU cmpL (keysL near cells n)) (keyL near cells v) (sortU cmpL (keysL near cells n)).length
theorem l21Round_fn (near : List (List Int)) (cells : List Int) (hn : near.length ≤ 64) (hc : near.length = cells.length) (hr : ∀ r ∈ near, r.length ≤ 64 ∧ ∀ w ∈ r, 0 ≤ w ∧ w < (cells.length : Int)) : PFn Try.prog f_spec_l21Round [ilSS near, ilS cells] (ilS (roundS near cells near.length)) := by
  intro H
  refine ACalls.introB s_spec_l21Round (by simp) ?_; intro hB hA; unfold c_spec_l21Round; simp (config := { maxSteps := 1000000 }) (disch := (first | omega | (simp only [go_sem]; try omega))) only [go_sem, Nat.reduceAdd, Nat.reduceEqDiff, Nat.reduceLeDiff, Nat.reduceMul, Nat.reduceLT, reduceIte, Int.reduceToNat, w64_id, cast_succ]
  repeat (first | (with_reducible first | refine SW.seq ?_ | refine SW.block ?_ | refine SW.rowC ?_ | refine SW.skip ?_ | refine SW.exit ?_ | intro _ | refine And.intro (by omega) ?_) | simp (config := { maxSteps := 1000000 }) (disch := (first | omega | (simp only [go_sem]; try omega))) only [go_sem, Nat.reduceAdd, Nat.reduceEqDiff, Nat.reduceLeDiff, Nat.reduceMul, Nat.reduceLT, reduceIte, Int.reduceToNat, w64_id, cast_succ])
  refine SW.loopE (fun E0 H0 m E' X => ∃ (a : Nat) (v : AV), a ≤ near.length ∧ m = near.length - a ∧ E' = aput (aput E0 7 (I a)) 6 v ∧ GrowSS X H.length tyLL v (keysL near cells a) ∧ H.length ≤ X.length ∧ ∀ j, j < H.length → X[j]? = H[j]?) near.length
    ⟨0, .nm H.length 0 0 0, by omega, by omega, rfl, .inr ⟨H.length, 0, [], rfl, Nat.le_refl _, by simp, rfl, fun j c xs h => by simp at h, fun i j r v o l v' o' l' _ h => by simp at h⟩, by simp, fun j hj => by rw [List.getElem?_append_left hj]⟩ ?_
  rintro m E' X ⟨a, v, ha, rfl, rfl, hG, hXl, hXf⟩
  simp (config := { maxSteps := 1000000 }) (disch := (first | omega | (simp only [go_sem]; try omega))) only [go_sem, Nat.reduceAdd, Nat.reduceEqDiff, Nat.reduceLeDiff, Nat.reduceMul, Nat.reduceLT, reduceIte, Int.reduceToNat, w64_id, cast_succ]
  repeat (first | (with_reducible first | refine SW.seq ?_ | refine SW.block ?_ | refine SW.rowC ?_ | refine SW.skip ?_ | refine SW.exit ?_ | intro _ | refine And.intro (by omega) ?_) | simp (config := { maxSteps := 1000000 }) (disch := (first | omega | (simp only [go_sem]; try omega))) only [go_sem, Nat.reduceAdd, Nat.reduceEqDiff, Nat.reduceLeDiff, Nat.reduceMul, Nat.reduceLT, reduceIte, Int.reduceToNat, w64_id, cast_succ])
  (first | refine SW.condD rfl (fun h2 => ?_) (fun h2 => ?_) | refine SW.condN rfl (fun h2 => ?_) (fun h2 => ?_) | refine SW.condNB rfl (fun h2 => ?_) (fun h2 => ?_) | refine SW.condB rfl (fun h2 => ?_) (fun h2 => ?_))
  · have han : a < near.length := by omega
    repeat (first | (with_reducible first | refine SW.seq ?_ | refine SW.block ?_ | refine SW.rowC ?_ | refine SW.skip ?_ | refine SW.exit ?_ | intro _ | refine And.intro (by omega) ?_) | simp (config := { maxSteps := 1000000 }) (disch := (first | omega | (simp only [go_sem]; try omega))) only [go_sem, Nat.reduceAdd, Nat.reduceEqDiff, Nat.reduceLeDiff, Nat.reduceMul, Nat.reduceLT, reduceIte, Int.reduceToNat, w64_id, cast_succ])
    have hrow := hr (near.getD a []) (by rw [getD_get han]; exact List.getElem_mem _)
    generalize hR : near.getD a [] = R at *
    refine SW.loopE (fun E0 H0 m E' Y => ∃ (p1 p2 : List Int), R = p1 ++ p2 ∧ m = p2.length ∧ E' = aput (aput E0 9 (I p1.length)) 8 (.nm X.length p1.length 0 p1.length) ∧ Y[X.length]? = some ⟨p1.length, 2, 1, (p1.map fun w => cells.getD w.toNat 0).map I⟩ ∧ ∀ j, j < X.length → Y[j]? = X[j]?) R.length
      ⟨[], R, rfl, rfl, rfl, by simp, fun j hj => by rw [List.getElem?_append_left hj]⟩ ?_
    rintro m E' Y ⟨p1, p2, hq, rfl, rfl, hY, hYf⟩
    simp (config := { maxSteps := 1000000 }) (disch := (first | omega | (simp only [go_sem]; try omega))) only [go_sem, Nat.reduceAdd, Nat.reduceEqDiff, Nat.reduceLeDiff, Nat.reduceMul, Nat.reduceLT, reduceIte, Int.reduceToNat, w64_id, cast_succ]
    repeat (first | (with_reducible first | refine SW.seq ?_ | refine SW.block ?_ | refine SW.rowC ?_ | refine SW.skip ?_ | refine SW.exit ?_ | intro _ | refine And.intro (by omega) ?_) | simp (config := { maxSteps := 1000000 }) (disch := (first | omega | (simp only [go_sem]; try omega))) only [go_sem, Nat.reduceAdd, Nat.reduceEqDiff, Nat.reduceLeDiff, Nat.reduceMul, Nat.reduceLT, reduceIte, Int.reduceToNat, w64_id, cast_succ, hR])
    (first | refine SW.condD rfl (fun h3 => ?_) (fun h3 => ?_) | refine SW.condN rfl (fun h3 => ?_) (fun h3 => ?_) | refine SW.condNB rfl (fun h3 => ?_) (fun h3 => ?_) | refine SW.condB rfl (fun h3 => ?_) (fun h3 => ?_))
    · obtain ⟨w, p2, rfl, hg, -⟩ := consOf (d := 0) hq (by omega)
      obtain ⟨w0, w1⟩ := hrow.2 w (by rw [hq]; simp)
      have hYl := (List.getElem?_eq_some_iff.1 hY).1
      have hp1 : p1.length ≤ 64 := by have := hrow.1; rw [hq] at this; simp at this; omega
      repeat (first | (with_reducible first | refine SW.seq ?_ | refine SW.block ?_ | refine SW.rowC ?_ | refine SW.skip ?_ | refine SW.exit ?_ | intro _ | refine And.intro (by omega) ?_) | simp (config := { maxSteps := 1000000 }) (disch := (first | omega | (simp only [go_sem]; try omega))) only [go_sem, Nat.reduceAdd, Nat.reduceEqDiff, Nat.reduceLeDiff, Nat.reduceMul, Nat.reduceLT, reduceIte, Int.reduceToNat, w64_id, cast_succ, hR, hg])
      refine appN8 (get_appU hY [(⟨0, 2, 1, [I (cells.getD w.toNat 0)]⟩ : Blk)]) (by simp) (by omega) ?_
      intro Z hZl hZt hZf
      repeat (first | (with_reducible first | refine SW.seq ?_ | refine SW.block ?_ | refine SW.rowC ?_ | refine SW.skip ?_ | refine SW.exit ?_ | intro _ | refine And.intro (by omega) ?_) | simp (config := { maxSteps := 1000000 }) (disch := (first | omega | (simp only [go_sem]; try omega))) only [go_sem, Nat.reduceAdd, Nat.reduceEqDiff, Nat.reduceLeDiff, Nat.reduceMul, Nat.reduceLT, reduceIte, Int.reduceToNat, w64_id, cast_succ])
      refine SLoop.next p2.length (by simp) ⟨p1 ++ [w], p2, by rw [hq]; simp, rfl, by simp [go_sem], by rw [hZt]; simp, fun j hj => ?_⟩
      rw [hZf j (by omega), List.getElem?_append_left (by omega)]; exact hYf j hj
    · obtain ⟨rfl, rfl⟩ := nilOf hq (by omega)
      repeat (first | (with_reducible first | refine SW.seq ?_ | refine SW.block ?_ | refine SW.rowC ?_ | refine SW.skip ?_ | refine SW.exit ?_ | intro _ | refine And.intro (by omega) ?_) | simp (config := { maxSteps := 1000000 }) (disch := (first | omega | (simp only [go_sem]; try omega))) only [go_sem, Nat.reduceAdd, Nat.reduceEqDiff, Nat.reduceLeDiff, Nat.reduceMul, Nat.reduceLT, reduceIte, Int.reduceToNat, w64_id, cast_succ])
      have hgl : (p1.map fun w => cells.getD w.toNat 0).length = p1.length := List.length_map _
      have hYl := (List.getElem?_eq_some_iff.1 hY).1
      have hvw : ∀ ext, aview (Y ++ ext) (.nm X.length p1.length 0 p1.length) = some ((p1.map fun w => cells.getD w.toNat 0).length, (p1.map fun w => cells.getD w.toNat 0).map I) := fun ext => by
        rw [hgl]; exact view_nm (get_appU hY ext) (by simp)
      have hp1 := hrow.1
      refine QcallW.of (fun ext => l21Sorted_ok _ _ _ (hvw ext) (by rw [hgl]; omega)) ?_
      have hkey : keyL near cells a = cells.getD a 0 :: isort (p1.map fun w => cells.getD w.toNat 0) := by unfold keyL; rw [hR]
      have hil := isort_length (p1.map fun w => cells.getD w.toNat 0)
      rw [hgl] at hil
      generalize isort (p1.map fun w => cells.getD w.toNat 0) = S at *
      repeat (first | (with_reducible first | refine SW.seq ?_ | refine SW.block ?_ | refine SW.rowC ?_ | refine SW.skip ?_ | refine SW.exit ?_ | intro _ | refine And.intro (by omega) ?_) | simp (config := { maxSteps := 1000000 }) (disch := (first | omega | (simp only [go_sem]; try omega))) only [go_sem, Nat.reduceAdd, Nat.reduceEqDiff, Nat.reduceLeDiff, Nat.reduceMul, Nat.reduceLT, reduceIte, Int.reduceToNat, w64_id, cast_succ])
      have hks := keysL_succ near cells a
      have hkl := keysL_len near cells a
      rw [hkey] at hks
      refine GrowSS.appG (H1 := X) (r := Y.length) (rv := 1) (rty := 2) (xs := cells.getD a 0 :: S) (by simp; omega) hG hXl (by omega) (by rw [hkl]; omega) (fun j bl _ hbl => by
        have hjl := (List.getElem?_eq_some_iff.1 hbl).1
        rw [List.getElem?_append_left (by omega), hYf j hjl]; exact hbl) (by rw [List.getElem?_append_right (Nat.le_refl _), Nat.sub_self]; rfl) ?_
      intro v3 H3 d1 d2 d3
      have hcell := d1.cell1
      repeat (first | (with_reducible first | refine SW.seq ?_ | refine SW.block ?_ | refine SW.rowC ?_ | refine SW.skip ?_ | refine SW.exit ?_ | intro _ | refine And.intro (by omega) ?_) | simp (config := { maxSteps := 1000000 }) (disch := (first | omega | (simp only [go_sem]; try omega))) only [go_sem, Nat.reduceAdd, Nat.reduceEqDiff, Nat.reduceLeDiff, Nat.reduceMul, Nat.reduceLT, reduceIte, Int.reduceToNat, w64_id, cast_succ, hcell])
      refine SLoop.next (near.length - (a + 1)) (by omega) ⟨a + 1, v3, by omega, rfl, by simp [go_sem], hks ▸ d1, by simp at d2; omega, fun j hj => ?_⟩
      rw [d3 j hj, List.getElem?_append_left (by omega), hYf j (by omega)]; exact hXf j hj
  · have haa : a = near.length := by omega
    subst haa
    obtain ⟨ext, he⟩ := ext_ofR (H := H) (H1 := X) hXl hXf
    have hz : Froz X H.length v (ilSS (keysL near cells near.length)) := (hG.own (Nat.le_refl _)).froz (fun r hr => hr.1)
    rw [he] at hz ⊢
    refine SW.froz (E' := [(0, ilSS near), (1, ilS cells), (5, I near.length), (6, ilSS (keysL near cells near.length)), (7, I near.length), (20, Bv (decide ((near.length : Int) < near.length)))]) hB (Nat.le_refl _) (.cons _ (ren_ilSS _) (.cons _ (ren_ilS _) (.cons _ (ren_I _) (.cons _ (ren_of_frozR hz) (.cons _ (ren_I _) (.cons _ (ren_B _) .nil)))))) ?_
    repeat (first | (with_reducible first | refine SW.seq ?_ | refine SW.block ?_ | refine SW.rowC ?_ | refine SW.skip ?_ | refine SW.exit ?_ | intro _ | refine And.intro (by omega) ?_) | simp (config := { maxSteps := 1000000 }) (disch := (first | omega | (simp only [go_sem]; try omega))) only [go_sem, Nat.reduceAdd, Nat.reduceEqDiff, Nat.reduceLeDiff, Nat.reduceMul, Nat.reduceLT, reduceIte, Int.reduceToNat, w64_id, cast_succ])
    refine SW.froz (E' := [(5, I near.length), (6, ilSS (keysL near cells near.length)), (10, ilSS []), (11, I 0)]) hB (by simp) (.cons _ (ren_I _) (.cons _ (ren_ilSS _) (.cons _ (ren_of_frozR (froz_rowS (r := H.length) (ver := 0) (ty := tyLL) (xs := []) (Nat.le_refl _) (by simp))) (.cons _ (ren_I _) .nil)))) ?_
    have hklen := keysL_len near cells
    have hkget : ∀ k, k < near.length → (keysL near cells near.length).getD k [] = keyL near cells k := fun k hk => by
      unfold keysL; rw [List.getD_eq_getElem?_getD, List.getElem?_map, List.getElem?_range hk]; rfl
    refine SW.loopE (fun E0 H0 m E' X => ∃ k : Nat, k ≤ near.length ∧ m = near.length - k ∧ E' = aput (aput E0 11 (I k)) 10 (ilSS (sortU cmpL (keysL near cells k))) ∧ X = H) near.length ⟨0, by omega, by omega, rfl, rfl⟩ ?_
    rintro m E' X ⟨k, hk, rfl, rfl, rfl⟩
    have hsl := sortU_len (cf := cmpL) (keysL near cells k)
    rw [hklen] at hsl
    have hnl := hklen near.length
    simp (config := { maxSteps := 1000000 }) (disch := (first | omega | (simp only [go_sem]; try omega))) only [go_sem, Nat.reduceAdd, Nat.reduceEqDiff, Nat.reduceLeDiff, Nat.reduceMul, Nat.reduceLT, reduceIte, Int.reduceToNat, w64_id, cast_succ]
    repeat (first | (with_reducible first | refine SW.seq ?_ | refine SW.block ?_ | refine SW.rowC ?_ | refine SW.skip ?_ | refine SW.exit ?_ | intro _ | refine And.intro (by omega) ?_) | simp (config := { maxSteps := 1000000 }) (disch := (first | omega | (simp only [go_sem]; try omega))) only [go_sem, Nat.reduceAdd, Nat.reduceEqDiff, Nat.reduceLeDiff, Nat.reduceMul, Nat.reduceLT, reduceIte, Int.reduceToNat, w64_id, cast_succ])
    (first | refine SW.condD rfl (fun h4 => ?_) (fun h4 => ?_) | refine SW.condN rfl (fun h4 => ?_) (fun h4 => ?_) | refine SW.condNB rfl (fun h4 => ?_) (fun h4 => ?_) | refine SW.condB rfl (fun h4 => ?_) (fun h4 => ?_))
    · have hkn : k < near.length := by omega
      have hpu := l21PutList_fn (sortU cmpL (keysL near cells k)) (keyL near cells k) (by omega)
      have hsn := sortU_snocR cmpL (keysL near cells k) (keyL near cells k)
      rw [← keysL_succ] at hsn
      repeat (first | (with_reducible first | refine SW.seq ?_ | refine SW.block ?_ | refine SW.rowC ?_ | refine SW.skip ?_ | refine SW.exit ?_ | refine PFn.use (hpu) ?_ | refine PFn.useq (hpu) ?_ | intro _ | refine And.intro (by omega) ?_) | simp (config := { maxSteps := 1000000 }) (disch := (first | omega | (simp only [go_sem]; try omega))) only [go_sem, Nat.reduceAdd, Nat.reduceEqDiff, Nat.reduceLeDiff, Nat.reduceMul, Nat.reduceLT, reduceIte, Int.reduceToNat, w64_id, cast_succ, hkget k hkn])
      exact SLoop.next (near.length - (k + 1)) (by omega) ⟨k + 1, by omega, rfl, by rw [hsn]; simp [go_sem], rfl⟩
    · have hkk : k = near.length := by omega
      subst hkk
      unfold roundS
      generalize sortU cmpL (keysL near cells near.length) = K at *
      repeat (first | (with_reducible first | refine SW.seq ?_ | refine SW.block ?_ | refine SW.rowC ?_ | refine SW.skip ?_ | refine SW.exit ?_ | intro _ | refine And.intro (by omega) ?_) | simp (config := { maxSteps := 1000000 }) (disch := (first | omega | (simp only [go_sem]; try omega))) only [go_sem, Nat.reduceAdd, Nat.reduceEqDiff, Nat.reduceLeDiff, Nat.reduceMul, Nat.reduceLT, reduceIte, Int.reduceToNat, w64_id, cast_succ])
      have hKl : K.length ≤ 64 := by omega
      refine SW.loopE (fun E0 H0 m E' Y => ∃ (a : Nat) (L : List Int), a ≤ near.length ∧ m = near.length - a ∧ L = (List.range a).flatMap (fun v => placesL K (keyL near cells v) K.length) ∧ L.length ≤ a * 64 ∧ E' = aput (aput E0 13 (I a)) 12 (.nm X.length L.length 0 L.length) ∧ Y[X.length]? = some ⟨L.length, 2, 1, L.map I⟩ ∧ ∀ j, j < X.length → Y[j]? = X[j]?) near.length
        ⟨0, [], by omega, by omega, rfl, by simp, rfl, by simp, fun j hj => by rw [List.getElem?_append_left hj]⟩ ?_
      rintro m E' Y ⟨a, L, ha, rfl, hL, hLl, rfl, hY, hYf⟩
      simp (config := { maxSteps := 1000000 }) (disch := (first | omega | (simp only [go_sem]; try omega))) only [go_sem, Nat.reduceAdd, Nat.reduceEqDiff, Nat.reduceLeDiff, Nat.reduceMul, Nat.reduceLT, reduceIte, Int.reduceToNat, w64_id, cast_succ]
      repeat (first | (with_reducible first | refine SW.seq ?_ | refine SW.block ?_ | refine SW.rowC ?_ | refine SW.skip ?_ | refine SW.exit ?_ | intro _ | refine And.intro (by omega) ?_) | simp (config := { maxSteps := 1000000 }) (disch := (first | omega | (simp only [go_sem]; try omega))) only [go_sem, Nat.reduceAdd, Nat.reduceEqDiff, Nat.reduceLeDiff, Nat.reduceMul, Nat.reduceLT, reduceIte, Int.reduceToNat, w64_id, cast_succ])
      (first | refine SW.condD rfl (fun h5 => ?_) (fun h5 => ?_) | refine SW.condN rfl (fun h5 => ?_) (fun h5 => ?_) | refine SW.condNB rfl (fun h5 => ?_) (fun h5 => ?_) | refine SW.condB rfl (fun h5 => ?_) (fun h5 => ?_))
      · have han : a < near.length := by omega
        repeat (first | (with_reducible first | refine SW.seq ?_ | refine SW.block ?_ | refine SW.rowC ?_ | refine SW.skip ?_ | refine SW.exit ?_ | intro _ | refine And.intro (by omega) ?_) | simp (config := { maxSteps := 1000000 }) (disch := (first | omega | (simp only [go_sem]; try omega))) only [go_sem, Nat.reduceAdd, Nat.reduceEqDiff, Nat.reduceLeDiff, Nat.reduceMul, Nat.reduceLT, reduceIte, Int.reduceToNat, w64_id, cast_succ])
        refine SW.loopE (fun E0 H0 m E' Z => ∃ (k : Nat) (M : List Int), k ≤ K.length ∧ m = K.length - k ∧ M = L ++ placesL K (keyL near cells a) k ∧ E' = aput (aput E0 14 (I k)) 12 (.nm X.length M.length 0 M.length) ∧ Z[X.length]? = some ⟨M.length, 2, 1, M.map I⟩ ∧ ∀ j, j < X.length → Z[j]? = X[j]?) K.length
          ⟨0, L, by omega, by omega, by simp [placesL], rfl, hY, hYf⟩ ?_
        rintro m E' Z ⟨k, M, hk2, rfl, hM, rfl, hZ, hZf⟩
        have hpn := placesL_succ K (keyL near cells a) k
        have hpl := placesL_len K (keyL near cells a) k
        have hMl : M.length ≤ 5000 := by rw [hM, List.length_append]; omega
        have hkg := hkget a han
        simp (config := { maxSteps := 1000000 }) (disch := (first | omega | (simp only [go_sem]; try omega))) only [go_sem, Nat.reduceAdd, Nat.reduceEqDiff, Nat.reduceLeDiff, Nat.reduceMul, Nat.reduceLT, reduceIte, Int.reduceToNat, w64_id, cast_succ]
        repeat (first | (with_reducible first | refine SW.seq ?_ | refine SW.block ?_ | refine SW.rowC ?_ | refine SW.skip ?_ | refine SW.exit ?_ | intro _ | refine And.intro (by omega) ?_) | simp (config := { maxSteps := 1000000 }) (disch := (first | omega | (simp only [go_sem]; try omega))) only [go_sem, Nat.reduceAdd, Nat.reduceEqDiff, Nat.reduceLeDiff, Nat.reduceMul, Nat.reduceLT, reduceIte, Int.reduceToNat, w64_id, cast_succ])
        (first | refine SW.condD rfl (fun h6 => ?_) (fun h6 => ?_) | refine SW.condN rfl (fun h6 => ?_) (fun h6 => ?_) | refine SW.condNB rfl (fun h6 => ?_) (fun h6 => ?_) | refine SW.condB rfl (fun h6 => ?_) (fun h6 => ?_))
        · have hkk : k < K.length := by omega
          have hcf := CompareLists_fn (K.getD k []) (keyL near cells a)
          by_cases hc0 : cmpL (K.getD k []) (keyL near cells a) = 0
          · have d1 : decide (cmpL (K.getD k []) (keyL near cells a) = 0) = true := decide_eq_true hc0
            rw [if_pos hc0] at hpn
            repeat (first | (with_reducible first | refine SW.seq ?_ | refine SW.block ?_ | refine SW.rowC ?_ | refine SW.skip ?_ | refine SW.exit ?_ | refine PFn.use (hcf) ?_ | refine PFn.useq (hcf) ?_ | intro _ | refine And.intro (by omega) ?_) | simp (config := { maxSteps := 1000000 }) (disch := (first | omega | (simp only [go_sem]; try omega))) only [go_sem, Nat.reduceAdd, Nat.reduceEqDiff, Nat.reduceLeDiff, Nat.reduceMul, Nat.reduceLT, reduceIte, Int.reduceToNat, w64_id, cast_succ, hkg, d1])
            refine SW.condT rfl ?_
            repeat (first | (with_reducible first | refine SW.seq ?_ | refine SW.block ?_ | refine SW.rowC ?_ | refine SW.skip ?_ | refine SW.exit ?_ | intro _ | refine And.intro (by omega) ?_) | simp (config := { maxSteps := 1000000 }) (disch := (first | omega | (simp only [go_sem]; try omega))) only [go_sem, Nat.reduceAdd, Nat.reduceEqDiff, Nat.reduceLeDiff, Nat.reduceMul, Nat.reduceLT, reduceIte, Int.reduceToNat, w64_id, cast_succ])
            have hZl := (List.getElem?_eq_some_iff.1 hZ).1
            refine appN8 (get_appU hZ [(⟨0, 2, 1, [I (k : Int)]⟩ : Blk)]) (by simp) (by omega) ?_
            intro W hWl hWt hWf
            repeat (first | (with_reducible first | refine SW.seq ?_ | refine SW.block ?_ | refine SW.rowC ?_ | refine SW.skip ?_ | refine SW.exit ?_ | intro _ | refine And.intro (by omega) ?_) | simp (config := { maxSteps := 1000000 }) (disch := (first | omega | (simp only [go_sem]; try omega))) only [go_sem, Nat.reduceAdd, Nat.reduceEqDiff, Nat.reduceLeDiff, Nat.reduceMul, Nat.reduceLT, reduceIte, Int.reduceToNat, w64_id, cast_succ])
            refine SLoop.next (K.length - (k + 1)) (by omega) ⟨k + 1, M ++ [(k : Int)], by omega, rfl, by rw [hpn, hM, List.append_assoc], by simp [go_sem], by rw [hWt]; simp, fun j hj => ?_⟩
            rw [hWf j (by omega), List.getElem?_append_left (by omega)]; exact hZf j hj
          · have d1 : decide (cmpL (K.getD k []) (keyL near cells a) = 0) = false := decide_eq_false hc0
            rw [if_neg hc0, List.append_nil] at hpn
            repeat (first | (with_reducible first | refine SW.seq ?_ | refine SW.block ?_ | refine SW.rowC ?_ | refine SW.skip ?_ | refine SW.exit ?_ | refine PFn.use (hcf) ?_ | refine PFn.useq (hcf) ?_ | intro _ | refine And.intro (by omega) ?_) | simp (config := { maxSteps := 1000000 }) (disch := (first | omega | (simp only [go_sem]; try omega))) only [go_sem, Nat.reduceAdd, Nat.reduceEqDiff, Nat.reduceLeDiff, Nat.reduceMul, Nat.reduceLT, reduceIte, Int.reduceToNat, w64_id, cast_succ, hkg, d1])
            refine SW.condF rfl ?_
            repeat (first | (with_reducible first | refine SW.seq ?_ | refine SW.block ?_ | refine SW.rowC ?_ | refine SW.skip ?_ | refine SW.exit ?_ | intro _ | refine And.intro (by omega) ?_) | simp (config := { maxSteps := 1000000 }) (disch := (first | omega | (simp only [go_sem]; try omega))) only [go_sem, Nat.reduceAdd, Nat.reduceEqDiff, Nat.reduceLeDiff, Nat.reduceMul, Nat.reduceLT, reduceIte, Int.reduceToNat, w64_id, cast_succ])
            exact SLoop.next (K.length - (k + 1)) (by omega) ⟨k + 1, M, by omega, rfl, by rw [hpn, hM], by simp [go_sem], hZ, hZf⟩
        · have hkk : k = K.length := by omega
          subst hkk
          repeat (first | (with_reducible first | refine SW.seq ?_ | refine SW.block ?_ | refine SW.rowC ?_ | refine SW.skip ?_ | refine SW.exit ?_ | intro _ | refine And.intro (by omega) ?_) | simp (config := { maxSteps := 1000000 }) (disch := (first | omega | (simp only [go_sem]; try omega))) only [go_sem, Nat.reduceAdd, Nat.reduceEqDiff, Nat.reduceLeDiff, Nat.reduceMul, Nat.reduceLT, reduceIte, Int.reduceToNat, w64_id, cast_succ])
          exact SLoop.next (near.length - (a + 1)) (by omega) ⟨a + 1, M, by omega, rfl, by rw [List.range_succ, List.flatMap_append, ← hL, hM]; simp, by rw [hM, List.length_append]; omega, by simp [go_sem], hZ, hZf⟩
      · have haa : a = near.length := by omega
        subst haa
        repeat (first | (with_reducible first | refine SW.seq ?_ | refine SW.block ?_ | refine SW.rowC ?_ | refine SW.skip ?_ | refine SW.exit ?_ | intro _ | refine And.intro (by omega) ?_) | simp (config := { maxSteps := 1000000 }) (disch := (first | omega | (simp only [go_sem]; try omega))) only [go_sem, Nat.reduceAdd, Nat.reduceEqDiff, Nat.reduceLeDiff, Nat.reduceMul, Nat.reduceLT, reduceIte, Int.reduceToNat, w64_id, cast_succ])
        refine SW.ret ?_; (try simp only [go_sem]); (first | refine FunPost.one ?_ | refine FunPost.two ?_ | refine FunPost.three ?_); (try simp (config := { maxSteps := 1000000 }) (disch := (first | omega | (simp only [go_sem]; try omega))) only [go_sem, Nat.reduceAdd, Nat.reduceEqDiff, Nat.reduceLeDiff, Nat.reduceMul, Nat.reduceLT, reduceIte, Int.reduceToNat, w64_id, cast_succ])
        obtain ⟨ext, he⟩ := ext_ofR (H := X) (H1 := Y) (by have := (List.getElem?_eq_some_iff.1 hY).1; omega) hYf
        rw [he] at hY ⊢
        rw [← hL]
        exact GR.froz (froz_rowI (ver := L.length) (ty := 2) (Nat.le_refl _) hY) ⟨rfl, rfl⟩
end Go.Proofs.Ytmdeibdplpodpaa
namespace Go.Proofs.Ytmdeibdplpodpaa
open Go.Av
theorem filter_one {n i : Nat} (h : i < n) (p : Nat → Bool) (hp : ∀ j, j < n → (p j = true ↔ j = i)) : (List.range n).filter p = [i] := by
  refine List.Perm.eq_of_pairwise (le := fun a b => a < b) (fun a b _ _ h1 h2 => absurd h1 (by omega)) (List.pairwise_lt_range.filter _) (by simp) ?_
  refine (List.perm_ext_iff_of_nodup (List.nodup_range.filter _) (by simp)).2 fun j => ?_
  rw [List.mem_filter, List.mem_range, List.mem_singleton]
  constructor
  · rintro ⟨h1, h2⟩; exact (hp j h1).1 h2
  · rintro rfl; exact ⟨h, (hp j h).2 rfl⟩
theorem placesL_one {K : List (List Int)} {key : List Int} (hK : Asc cmpL K) (hm : key ∈ K) : ∃ i, i < K.length ∧ K.getD i [] = key ∧ placesL K key K.length = [(i : Int)] := by
  obtain ⟨i, hi, he⟩ := List.getElem_of_mem hm
  have hg : K.getD i [] = key := by rw [getD_get hi]; exact he
  refine ⟨i, hi, hg, ?_⟩
  unfold placesL
  rw [filter_one hi _ fun j hj => ?_]
  · rfl
  rw [decide_eq_true_eq, cmpL_tot.eq0]
  constructor
  · intro h
    rcases Nat.lt_trichotomy j i with c | c | c
    · have := List.pairwise_iff_getElem.1 hK j i hj hi c
      rw [getD_get hj] at h
      rw [h, he, (cmpL_tot.eq0 key key).2 rfl] at this
      omega
    · exact c
    · have := List.pairwise_iff_getElem.1 hK i j hi hj c
      rw [getD_get hj] at h
      rw [h, he, (cmpL_tot.eq0 key key).2 rfl] at this
      omega
  · rintro rfl
    exact hg
def placeN (K : List (List Int)) (key : List Int) : Int := (placesL K key K.length).getD 0 0
def roundN (near : List (List Int)) (cells : List Int) (n : Nat) : List Int := (List.range n).map fun v => placeN (sortU cmpL (keysL near cells n)) (keyL near cells v)
theorem roundS_is (near : List (List Int)) (cells : List Int) (n : Nat) : roundS near cells n = roundN near cells n := by
  unfold roundS roundN
  have h : ∀ v, v < n → placesL (sortU cmpL (keysL near cells n)) (keyL near cells v) (sortU cmpL (keysL near cells n)).length = [placeN (sortU cmpL (keysL near cells n)) (keyL near cells v)] := fun v hv => by
    obtain ⟨i, _, _, h⟩ := placesL_one (sortU_asc cmpL_tot (keysL near cells n)) ((sortU_mem cmpL_tot _ _).2 (show keyL near cells v ∈ keysL near cells n from List.mem_map.2 ⟨v, List.mem_range.2 hv, rfl⟩))
    unfold placeN
    rw [h]; rfl
  generalize sortU cmpL (keysL near cells n) = K at *
  have h2 : ∀ l : List Nat, (∀ v ∈ l, v < n) → (l.flatMap fun v => placesL K (keyL near cells v) K.length) = l.map fun v => placeN K (keyL near cells v) := by
    intro l
    induction l with
    | nil => intro _; rfl
    | cons v r ih =>
      intro hl
      rw [List.flatMap_cons, List.map_cons, h v (hl v (by simp)), ih fun w hw => hl w (List.mem_cons_of_mem _ hw)]; rfl
  exact h2 _ fun v hv => List.mem_range.1 hv
theorem roundN_len (near : List (List Int)) (cells : List Int) (n : Nat) : (roundN near cells n).length = n := by simp [roundN]
end Go.Proofs.Ytmdeibdplpodpaa
namespace Go.Proofs.Ytmdeibdplpodpaa
open Go.Av
abbrev f_spec_l21Refine : Nat := 49
def c_spec_l21Refine : SC :=
 .seq (.reg [
     ⟨(some 4), .mv (.const (.slice none 0 0)), none⟩] [0, 1])
 (.seq (.reg [
     ⟨(some 7), .mv (.tmp 1), none⟩,
     ⟨(some 8), .call 72 [(.tmp 7)], none⟩,
     ⟨(some 5), .mv (.tmp 8), none⟩] [0, 1, 5])
 (.seq (.reg [
     ⟨(some 9), .mv (.tmp 0), none⟩,
     ⟨(some 10), .mv (.tmp 1), none⟩,
     ⟨(some 11), .call 73 [(.tmp 9), (.tmp 10)], none⟩,
     ⟨(some 6), .mv (.tmp 11), none⟩] [0, 5, 6])
 (.seq (.block 0 (.loop [0, 5, 6]
   (.seq (.seq (.reg [
       ⟨(some 12), .mv (.tmp 6), none⟩,
       ⟨(some 13), .call 72 [(.tmp 12)], none⟩,
       ⟨(some 14), .mv (.tmp 5), none⟩,
       ⟨(some 15), .bin .gtr (.tmp 13) (.tmp 14), none⟩] [0, 6, 15])
   (.cond (.tmp 15)
    (.skip)
    (.exit 0)))
   (.block 1 (.seq (.reg [
        ⟨(some 16), .mv (.tmp 6), none⟩,
        ⟨(some 17), .call 72 [(.tmp 16)], none⟩,
        ⟨(some 5), .mv (.tmp 17), none⟩] [0, 5, 6])
    (.reg [
        ⟨(some 18), .mv (.tmp 0), none⟩,
        ⟨(some 19), .mv (.tmp 6), none⟩,
        ⟨(some 20), .call 73 [(.tmp 18), (.tmp 19)], none⟩,
        ⟨(some 6), .mv (.tmp 20), none⟩] [0, 5, 6]))))))
 (.seq (.reg [
     ⟨(some 21), .mv (.tmp 6), none⟩,
     ⟨(some 4), .mv (.tmp 21), none⟩] [4])
 (.ret)))))
theorem s_spec_l21Refine : stripF Try.prog 49 [[0, 1], [0, 1, 5], [0, 5, 6], [0, 5, 6], [0, 6, 15], [0, 5, 6], [0, 5, 6], [4]] = some (c_spec_l21Refine, [.tmp 4], 22) := by kernel_rfl
def refGo (near : List (List Int)) (n : Nat) : Nat → Nat → List Int → List Int
  | 0, _, out => out
  | f + 1, many, out => if many < manyL out then refGo near n f (manyL out) (roundN near out n) else out
theorem refGo_end {near : List (List Int)} {n f many : Nat} {out : List Int} (h : ¬ many < manyL out) : refGo near n f many out = out := by
  cases f with
  | zero => rfl
  | succ f => rw [refGo, if_neg h]
theorem manyL_le (xs : List Int) : manyL xs ≤ xs.length := sortU_len (cf := cmpR) xs
theorem l21Refine_fn (near : List (List Int)) (cells : List Int) (hn : near.length ≤ 64) (hc : near.length = cells.length) (hr : ∀ r ∈ near, r.length ≤ 64 ∧ ∀ w ∈ r, 0 ≤ w ∧ w < (cells.length : Int)) : PFn Try.prog f_spec_l21Refine [ilSS near, ilS cells] (ilS (refGo near near.length near.length (manyL cells) (roundN near cells near.length))) := by
  have hro : ∀ out : List Int, near.length = out.length → PFn Try.prog f_spec_l21Round [ilSS near, ilS out] (ilS (roundN near out near.length)) := fun out ho => by
    rw [← roundS_is]
    exact l21Round_fn near out hn ho fun r h => by
      obtain ⟨q1, q2⟩ := hr r h
      exact ⟨q1, fun w hw => by have := q2 w hw; omega⟩
  have hma : ∀ out : List Int, near.length = out.length → PFn Try.prog f_spec_l21Many [ilS out] (I (manyL out)) := fun out ho => l21Many_fn out (by omega)
  have h1 := hma cells hc
  have h2 := hro cells hc
  intro H
  refine ACalls.introB s_spec_l21Refine (by simp) ?_; intro hB hA; unfold c_spec_l21Refine; simp (config := { maxSteps := 1000000 }) (disch := (first | omega | (simp only [go_sem]; try omega))) only [go_sem, Nat.reduceAdd, Nat.reduceEqDiff, Nat.reduceLeDiff, Nat.reduceMul, Nat.reduceLT, reduceIte, Int.reduceToNat, w64_id, cast_succ]
  repeat (first | (with_reducible first | refine SW.seq ?_ | refine SW.block ?_ | refine SW.rowC ?_ | refine SW.skip ?_ | refine SW.exit ?_ | refine PFn.use (h1) ?_ | refine PFn.useq (h1) ?_ | refine PFn.use (h2) ?_ | refine PFn.useq (h2) ?_ | intro _ | refine And.intro (by omega) ?_) | simp (config := { maxSteps := 1000000 }) (disch := (first | omega | (simp only [go_sem]; try omega))) only [go_sem, Nat.reduceAdd, Nat.reduceEqDiff, Nat.reduceLeDiff, Nat.reduceMul, Nat.reduceLT, reduceIte, Int.reduceToNat, w64_id, cast_succ])
  refine SW.loopE (fun E0 H0 m E' X => ∃ (many : Nat) (out : List Int), refGo near near.length m many out = refGo near near.length near.length (manyL cells) (roundN near cells near.length) ∧ near.length ≤ many + m ∧ many ≤ 64 ∧ near.length = out.length ∧ E' = aput (aput E0 5 (I many)) 6 (ilS out) ∧ X = H) near.length
    ⟨manyL cells, roundN near cells near.length, rfl, by omega, by have := manyL_le cells; omega, (roundN_len _ _ _).symm, rfl, rfl⟩ ?_
  rintro m E' X ⟨many, out, hgo, hm, hm2, ho, rfl, rfl⟩
  have k1 := hma out ho
  have k2 := hro out ho
  have k3 := manyL_le out
  simp (config := { maxSteps := 1000000 }) (disch := (first | omega | (simp only [go_sem]; try omega))) only [go_sem, Nat.reduceAdd, Nat.reduceEqDiff, Nat.reduceLeDiff, Nat.reduceMul, Nat.reduceLT, reduceIte, Int.reduceToNat, w64_id, cast_succ]
  by_cases h5 : many < manyL out
  · have d1 : decide ((many : Int) < (manyL out : Int)) = true := decide_eq_true (by omega)
    obtain ⟨g, rfl⟩ : ∃ g, m = g + 1 := ⟨m - 1, by omega⟩
    rw [refGo, if_pos h5] at hgo
    have ho2 := (roundN_len near out near.length).symm
    generalize roundN near out near.length = out2 at *
    repeat (first | (with_reducible first | refine SW.seq ?_ | refine SW.block ?_ | refine SW.rowC ?_ | refine SW.skip ?_ | refine SW.exit ?_ | refine PFn.use (k1) ?_ | refine PFn.useq (k1) ?_ | intro _ | refine And.intro (by omega) ?_) | simp (config := { maxSteps := 1000000 }) (disch := (first | omega | (simp only [go_sem]; try omega))) only [go_sem, Nat.reduceAdd, Nat.reduceEqDiff, Nat.reduceLeDiff, Nat.reduceMul, Nat.reduceLT, reduceIte, Int.reduceToNat, w64_id, cast_succ, d1])
    refine SW.condT rfl ?_
    repeat (first | (with_reducible first | refine SW.seq ?_ | refine SW.block ?_ | refine SW.rowC ?_ | refine SW.skip ?_ | refine SW.exit ?_ | refine PFn.use (k1) ?_ | refine PFn.useq (k1) ?_ | refine PFn.use (k2) ?_ | refine PFn.useq (k2) ?_ | intro _ | refine And.intro (by omega) ?_) | simp (config := { maxSteps := 1000000 }) (disch := (first | omega | (simp only [go_sem]; try omega))) only [go_sem, Nat.reduceAdd, Nat.reduceEqDiff, Nat.reduceLeDiff, Nat.reduceMul, Nat.reduceLT, reduceIte, Int.reduceToNat, w64_id, cast_succ])
    exact SLoop.next g (by omega) ⟨manyL out, out2, hgo, by omega, by omega, ho2, rfl, rfl⟩
  · have d1 : decide ((many : Int) < (manyL out : Int)) = false := decide_eq_false (by omega)
    rw [refGo_end h5] at hgo
    rw [← hgo]
    repeat (first | (with_reducible first | refine SW.seq ?_ | refine SW.block ?_ | refine SW.rowC ?_ | refine SW.skip ?_ | refine SW.exit ?_ | refine PFn.use (k1) ?_ | refine PFn.useq (k1) ?_ | intro _ | refine And.intro (by omega) ?_) | simp (config := { maxSteps := 1000000 }) (disch := (first | omega | (simp only [go_sem]; try omega))) only [go_sem, Nat.reduceAdd, Nat.reduceEqDiff, Nat.reduceLeDiff, Nat.reduceMul, Nat.reduceLT, reduceIte, Int.reduceToNat, w64_id, cast_succ, d1])
    refine SW.condF rfl ?_
    repeat (first | (with_reducible first | refine SW.seq ?_ | refine SW.block ?_ | refine SW.rowC ?_ | refine SW.skip ?_ | refine SW.exit ?_ | intro _ | refine And.intro (by omega) ?_) | simp (config := { maxSteps := 1000000 }) (disch := (first | omega | (simp only [go_sem]; try omega))) only [go_sem, Nat.reduceAdd, Nat.reduceEqDiff, Nat.reduceLeDiff, Nat.reduceMul, Nat.reduceLT, reduceIte, Int.reduceToNat, w64_id, cast_succ])
    refine SW.ret ?_; (try simp only [go_sem]); (first | refine FunPost.one ?_ | refine FunPost.two ?_ | refine FunPost.three ?_); (try simp (config := { maxSteps := 1000000 }) (disch := (first | omega | (simp only [go_sem]; try omega))) only [go_sem, Nat.reduceAdd, Nat.reduceEqDiff, Nat.reduceLeDiff, Nat.reduceMul, Nat.reduceLT, reduceIte, Int.reduceToNat, w64_id, cast_succ])
    exact GR.of ⟨rfl, rfl⟩
end Go.Proofs.Ytmdeibdplpodpaa
namespace Go.Proofs.Ytmdeibdplpodpaa
open Go.Av
abbrev f_spec_RefineColors : Nat := 19
def c_spec_RefineColors : SC :=
 .seq (.reg [
     ⟨(some 2), .box 30 (.tmp 0), none⟩,
     ⟨(some 4), .mv (.const (.slice none 0 0)), none⟩,
     ⟨(some 5), .mv (.const (.int .i64 0)), none⟩] [1, 2])
 (.seq (.seq (.reg [
     ⟨(some 6), .load 2 true (.tmp 2), none⟩,
     ⟨(some 7), .call 25 [(.tmp 6)], none⟩,
     ⟨(some 8), .un .not (.tmp 7), none⟩] [1, 2, 8])
 (.cond (.tmp 8)
  (.seq (.reg [
      ⟨(some 4), .mv (.const (.slice none 0 0)), none⟩,
      ⟨(some 5), .mv (.const (.int .i64 1)), none⟩] [4, 5])
  (.ret))
  (.skip)))
 (.seq (.seq (.reg [
     ⟨(some 9), .mv (.tmp 1), none⟩,
     ⟨(some 10), .len (.tmp 9), none⟩,
     ⟨(some 11), .faddr 0 (.tmp 2), none⟩,
     ⟨(some 12), .load 1 false (.tmp 11), none⟩,
     ⟨(some 13), .len (.tmp 12), none⟩,
     ⟨(some 14), .bin .neq (.tmp 10) (.tmp 13), none⟩,
     ⟨(some 15), .mv (.tmp 14), none⟩,
     ⟨(some 16), .mv (.tmp 1), (some (15, false))⟩,
     ⟨(some 17), .call 48 [(.tmp 16)], (some (15, false))⟩,
     ⟨(some 18), .un .not (.tmp 17), (some (15, false))⟩,
     ⟨(some 19), .pick (.tmp 15) (.const (.bool true)) (.tmp 18), none⟩] [1, 2, 19])
 (.cond (.tmp 19)
  (.seq (.reg [
      ⟨(some 4), .mv (.const (.slice none 0 0)), none⟩,
      ⟨(some 5), .mv (.const (.int .i64 2)), none⟩] [4, 5])
  (.ret))
  (.skip)))
 (.seq (.reg [
     ⟨(some 20), .load 2 true (.tmp 2), none⟩,
     ⟨(some 21), .call 50 [(.tmp 20)], none⟩,
     ⟨(some 22), .mv (.tmp 1), none⟩,
     ⟨(some 23), .call 49 [(.tmp 21), (.tmp 22)], none⟩,
     ⟨(some 4), .mv (.tmp 23), none⟩,
     ⟨(some 5), .mv (.const (.int .i64 0)), none⟩] [4, 5])
 (.ret))))
theorem s_spec_RefineColors : stripF Try.prog 19 [[1, 2], [1, 2, 8], [4, 5], [1, 2, 19], [4, 5], [4, 5]] = some (c_spec_RefineColors, [.tmp 4, .tmp 5], 24) := by kernel_rfl
def rfB (cols cells : List Int) : Bool := decide (cells.length = cols.length) && colsB cells
def rfL (cols : List Int) (es : List (Int × Int)) (cells : List Int) : List Int := refGo (nearT cols.length es cols.length) cols.length cols.length (manyL cells) (roundN (nearT cols.length es cols.length) cells cols.length)
def rfV (cols : List Int) (es : List (Int × Int)) (cells : List Int) : List Int := if grB cols es && rfB cols cells then rfL cols es cells else []
def rfA (cols : List Int) (es : List (Int × Int)) (cells : List Int) : Int := if grB cols es then (if rfB cols cells then 0 else 2) else 1
theorem nearT_in {n : Nat} {es : List (Int × Int)} : ∀ r ∈ nearT n es n, r.length ≤ n ∧ ∀ w ∈ r, 0 ≤ w ∧ w < (n : Int) := fun r hr => by
  obtain ⟨v, _, rfl⟩ := List.mem_map.1 hr
  refine ⟨nearP_len es v n, fun w hw => ?_⟩
  obtain ⟨b, hb, rfl⟩ := List.mem_map.1 hw
  have := List.mem_range.1 (List.mem_filter.1 hb).1
  omega
theorem specRefine_fn (cols : List Int) (es : List (Int × Int)) (cells : List Int) : PFn Try.prog f_spec_RefineColors [.agg [ilS cols, ilE es], ilS cells] (.tup [ilS (rfV cols es cells), I (rfA cols es cells)]) := by
  have hv := l21Ok_fn cols es
  have hcc := l21Colors_fn cells
  intro H
  unfold rfV rfA
  cases hg : grB cols es
  · rw [hg] at hv
    refine ACalls.introB s_spec_RefineColors (by simp) ?_; intro hB hA; unfold c_spec_RefineColors; simp (config := { maxSteps := 1000000 }) (disch := (first | omega | (simp only [go_sem]; try omega))) only [go_sem, Nat.reduceAdd, Nat.reduceEqDiff, Nat.reduceLeDiff, Nat.reduceMul, Nat.reduceLT, reduceIte, Int.reduceToNat, w64_id, cast_succ]
    repeat (first | (with_reducible first | refine SW.seq ?_ | refine SW.block ?_ | refine SW.rowC ?_ | refine SW.skip ?_ | refine SW.exit ?_ | refine PFn.use (hv) ?_ | refine PFn.useq (hv) ?_ | intro _ | refine And.intro (by omega) ?_) | simp (config := { maxSteps := 1000000 }) (disch := (first | omega | (simp only [go_sem]; try omega))) only [go_sem, Nat.reduceAdd, Nat.reduceEqDiff, Nat.reduceLeDiff, Nat.reduceMul, Nat.reduceLT, reduceIte, Int.reduceToNat, w64_id, cast_succ])
    refine SW.condT rfl ?_
    repeat (first | (with_reducible first | refine SW.seq ?_ | refine SW.block ?_ | refine SW.rowC ?_ | refine SW.skip ?_ | refine SW.exit ?_ | intro _ | refine And.intro (by omega) ?_) | simp (config := { maxSteps := 1000000 }) (disch := (first | omega | (simp only [go_sem]; try omega))) only [go_sem, Nat.reduceAdd, Nat.reduceEqDiff, Nat.reduceLeDiff, Nat.reduceMul, Nat.reduceLT, reduceIte, Int.reduceToNat, w64_id, cast_succ])
    refine SW.ret ⟨_, rfl, GR.froz (froz_tup2 froz_nilI (froz_I' _)) ⟨rfl, rfl⟩⟩
  rw [hg] at hv
  have hnear := l21Near_fn cols es hg
  obtain ⟨f1, f2, f3, f4⟩ := grB_facts hg
  by_cases hl : cells.length = cols.length
  · have d1 : decide ((cells.length : Int) = (cols.length : Int)) = true := decide_eq_true (by omega)
    cases hb : colsB cells
    · rw [show rfB cols cells = false by unfold rfB; rw [hb]; simp]
      rw [hb] at hcc
      refine ACalls.introB s_spec_RefineColors (by simp) ?_; intro hB hA; unfold c_spec_RefineColors; simp (config := { maxSteps := 1000000 }) (disch := (first | omega | (simp only [go_sem]; try omega))) only [go_sem, Nat.reduceAdd, Nat.reduceEqDiff, Nat.reduceLeDiff, Nat.reduceMul, Nat.reduceLT, reduceIte, Int.reduceToNat, w64_id, cast_succ]
      repeat (first | (with_reducible first | refine SW.seq ?_ | refine SW.block ?_ | refine SW.rowC ?_ | refine SW.skip ?_ | refine SW.exit ?_ | refine PFn.use (hv) ?_ | refine PFn.useq (hv) ?_ | refine PFn.use (hcc) ?_ | refine PFn.useq (hcc) ?_ | intro _ | refine And.intro (by omega) ?_) | simp (config := { maxSteps := 1000000 }) (disch := (first | omega | (simp only [go_sem]; try omega))) only [go_sem, Nat.reduceAdd, Nat.reduceEqDiff, Nat.reduceLeDiff, Nat.reduceMul, Nat.reduceLT, reduceIte, Int.reduceToNat, w64_id, cast_succ, d1])
      refine SW.condF rfl ?_
      repeat (first | (with_reducible first | refine SW.seq ?_ | refine SW.block ?_ | refine SW.rowC ?_ | refine SW.skip ?_ | refine SW.exit ?_ | refine PFn.use (hcc) ?_ | refine PFn.useq (hcc) ?_ | intro _ | refine And.intro (by omega) ?_) | simp (config := { maxSteps := 1000000 }) (disch := (first | omega | (simp only [go_sem]; try omega))) only [go_sem, Nat.reduceAdd, Nat.reduceEqDiff, Nat.reduceLeDiff, Nat.reduceMul, Nat.reduceLT, reduceIte, Int.reduceToNat, w64_id, cast_succ, d1])
      refine SW.condT rfl ?_
      repeat (first | (with_reducible first | refine SW.seq ?_ | refine SW.block ?_ | refine SW.rowC ?_ | refine SW.skip ?_ | refine SW.exit ?_ | intro _ | refine And.intro (by omega) ?_) | simp (config := { maxSteps := 1000000 }) (disch := (first | omega | (simp only [go_sem]; try omega))) only [go_sem, Nat.reduceAdd, Nat.reduceEqDiff, Nat.reduceLeDiff, Nat.reduceMul, Nat.reduceLT, reduceIte, Int.reduceToNat, w64_id, cast_succ])
      refine SW.ret ⟨_, rfl, GR.froz (froz_tup2 froz_nilI (froz_I' _)) ⟨rfl, rfl⟩⟩
    · rw [show rfB cols cells = true by unfold rfB; rw [hb, decide_eq_true hl]; rfl]
      rw [hb] at hcc
      have hre := l21Refine_fn (nearT cols.length es cols.length) cells (by rw [nearT_len]; omega) (by rw [nearT_len]; omega) (fun r hr => by obtain ⟨q1, q2⟩ := nearT_in r hr; exact ⟨by omega, fun w hw => by have := q2 w hw; omega⟩)
      rw [nearT_len] at hre
      change PFn _ _ _ (ilS (rfL cols es cells)) at hre
      generalize rfL cols es cells = R at *
      refine ACalls.introB s_spec_RefineColors (by simp) ?_; intro hB hA; unfold c_spec_RefineColors; simp (config := { maxSteps := 1000000 }) (disch := (first | omega | (simp only [go_sem]; try omega))) only [go_sem, Nat.reduceAdd, Nat.reduceEqDiff, Nat.reduceLeDiff, Nat.reduceMul, Nat.reduceLT, reduceIte, Int.reduceToNat, w64_id, cast_succ]
      repeat (first | (with_reducible first | refine SW.seq ?_ | refine SW.block ?_ | refine SW.rowC ?_ | refine SW.skip ?_ | refine SW.exit ?_ | refine PFn.use (hv) ?_ | refine PFn.useq (hv) ?_ | refine PFn.use (hcc) ?_ | refine PFn.useq (hcc) ?_ | intro _ | refine And.intro (by omega) ?_) | simp (config := { maxSteps := 1000000 }) (disch := (first | omega | (simp only [go_sem]; try omega))) only [go_sem, Nat.reduceAdd, Nat.reduceEqDiff, Nat.reduceLeDiff, Nat.reduceMul, Nat.reduceLT, reduceIte, Int.reduceToNat, w64_id, cast_succ, d1])
      refine SW.condF rfl ?_
      repeat (first | (with_reducible first | refine SW.seq ?_ | refine SW.block ?_ | refine SW.rowC ?_ | refine SW.skip ?_ | refine SW.exit ?_ | refine PFn.use (hcc) ?_ | refine PFn.useq (hcc) ?_ | intro _ | refine And.intro (by omega) ?_) | simp (config := { maxSteps := 1000000 }) (disch := (first | omega | (simp only [go_sem]; try omega))) only [go_sem, Nat.reduceAdd, Nat.reduceEqDiff, Nat.reduceLeDiff, Nat.reduceMul, Nat.reduceLT, reduceIte, Int.reduceToNat, w64_id, cast_succ, d1])
      refine SW.condF rfl ?_
      repeat (first | (with_reducible first | refine SW.seq ?_ | refine SW.block ?_ | refine SW.rowC ?_ | refine SW.skip ?_ | refine SW.exit ?_ | refine PFn.use (hnear) ?_ | refine PFn.useq (hnear) ?_ | refine PFn.use (hre) ?_ | refine PFn.useq (hre) ?_ | intro _ | refine And.intro (by omega) ?_) | simp (config := { maxSteps := 1000000 }) (disch := (first | omega | (simp only [go_sem]; try omega))) only [go_sem, Nat.reduceAdd, Nat.reduceEqDiff, Nat.reduceLeDiff, Nat.reduceMul, Nat.reduceLT, reduceIte, Int.reduceToNat, w64_id, cast_succ])
      refine SW.ret ⟨_, rfl, GR.froz (froz_tup2 (froz_ilS _) (froz_I' _)) ⟨rfl, rfl⟩⟩
  · have d1 : decide ((cells.length : Int) = (cols.length : Int)) = false := decide_eq_false (by omega)
    rw [show rfB cols cells = false by unfold rfB; rw [decide_eq_false hl]; rfl]
    refine ACalls.introB s_spec_RefineColors (by simp) ?_; intro hB hA; unfold c_spec_RefineColors; simp (config := { maxSteps := 1000000 }) (disch := (first | omega | (simp only [go_sem]; try omega))) only [go_sem, Nat.reduceAdd, Nat.reduceEqDiff, Nat.reduceLeDiff, Nat.reduceMul, Nat.reduceLT, reduceIte, Int.reduceToNat, w64_id, cast_succ]
    repeat (first | (with_reducible first | refine SW.seq ?_ | refine SW.block ?_ | refine SW.rowC ?_ | refine SW.skip ?_ | refine SW.exit ?_ | refine PFn.use (hv) ?_ | refine PFn.useq (hv) ?_ | intro _ | refine And.intro (by omega) ?_) | simp (config := { maxSteps := 1000000 }) (disch := (first | omega | (simp only [go_sem]; try omega))) only [go_sem, Nat.reduceAdd, Nat.reduceEqDiff, Nat.reduceLeDiff, Nat.reduceMul, Nat.reduceLT, reduceIte, Int.reduceToNat, w64_id, cast_succ, d1])
    refine SW.condF rfl ?_
    repeat (first | (with_reducible first | refine SW.seq ?_ | refine SW.block ?_ | refine SW.rowC ?_ | refine SW.skip ?_ | refine SW.exit ?_ | intro _ | refine And.intro (by omega) ?_) | simp (config := { maxSteps := 1000000 }) (disch := (first | omega | (simp only [go_sem]; try omega))) only [go_sem, Nat.reduceAdd, Nat.reduceEqDiff, Nat.reduceLeDiff, Nat.reduceMul, Nat.reduceLT, reduceIte, Int.reduceToNat, w64_id, cast_succ, d1])
    refine SW.condT rfl ?_
    repeat (first | (with_reducible first | refine SW.seq ?_ | refine SW.block ?_ | refine SW.rowC ?_ | refine SW.skip ?_ | refine SW.exit ?_ | intro _ | refine And.intro (by omega) ?_) | simp (config := { maxSteps := 1000000 }) (disch := (first | omega | (simp only [go_sem]; try omega))) only [go_sem, Nat.reduceAdd, Nat.reduceEqDiff, Nat.reduceLeDiff, Nat.reduceMul, Nat.reduceLT, reduceIte, Int.reduceToNat, w64_id, cast_succ])
    refine SW.ret ⟨_, rfl, GR.froz (froz_tup2 froz_nilI (froz_I' _)) ⟨rfl, rfl⟩⟩
end Go.Proofs.Ytmdeibdplpodpaa
namespace Go.Proofs.Ytmdeibdplpodpaa
open Go.Av
theorem nodup_sub_lenM {A : Type} : ∀ {l m : List A}, l.Nodup → (∀ x ∈ l, x ∈ m) → l.length ≤ m.length
  | [], _, _, _ => Nat.zero_le _
  | a :: l, m, hn, hs => by
    rw [List.nodup_cons] at hn
    obtain ⟨s, t, rfl⟩ := List.append_of_mem (hs a (by simp))
    have := nodup_sub_lenM (l := l) (m := s ++ t) hn.2 (fun x hx => by
      have h1 := hs x (by simp [hx])
      rcases List.mem_append.1 h1 with h1 | h1
      · exact List.mem_append_left _ h1
      · rcases List.mem_cons.1 h1 with rfl | h1
        · exact absurd hx hn.1
        · exact List.mem_append_right _ h1)
    simp at this ⊢; omega
theorem asc_nodup {A : Type} {cf : A → A → Int} (h : TotC cf) {l : List A} (ha : Asc cf l) : l.Nodup := ha.imp fun {a b} hab e => by
  rw [e, (h.eq0 b b).2 rfl] at hab; omega
theorem placeN_inj {K : List (List Int)} {x y : List Int} (hK : Asc cmpL K) (hx : x ∈ K) (hy : y ∈ K) (h : placeN K x = placeN K y) : x = y := by
  obtain ⟨i, _, hi, e1⟩ := placesL_one hK hx
  obtain ⟨j, _, hj, e2⟩ := placesL_one hK hy
  unfold placeN at h
  rw [e1, e2] at h
  have : (i : Int) = (j : Int) := by simpa using h
  have : i = j := by omega
  rw [← hi, ← hj, this]
theorem roundN_cell {near : List (List Int)} {cells : List Int} {n v w : Nat} (hv : v < n) (hw : w < n) (h : (roundN near cells n).getD v 0 = (roundN near cells n).getD w 0) : cells.getD v 0 = cells.getD w 0 := by
  have hg : ∀ k, k < n → (roundN near cells n).getD k 0 = placeN (sortU cmpL (keysL near cells n)) (keyL near cells k) := fun k hk => by
    unfold roundN
    rw [List.getD_eq_getElem?_getD, List.getElem?_map, List.getElem?_range hk]; rfl
  rw [hg v hv, hg w hw] at h
  have hm : ∀ k, k < n → keyL near cells k ∈ sortU cmpL (keysL near cells n) := fun k hk => (sortU_mem cmpL_tot _ _).2 (List.mem_map.2 ⟨k, List.mem_range.2 hk, rfl⟩)
  have := placeN_inj (sortU_asc cmpL_tot _) (hm v hv) (hm w hw) h
  unfold keyL at this
  exact (List.cons.inj this).1
theorem manyL_mono (near : List (List Int)) (cells : List Int) : manyL cells ≤ manyL (roundN near cells cells.length) := by
  have hl := roundN_len near cells cells.length
  have hc := fun v w (hv : v < cells.length) (hw : w < cells.length) => roundN_cell (near := near) (cells := cells) hv hw
  generalize roundN near cells cells.length = R at *
  -- each value of cells has a first place
  have hp : ∀ d ∈ sortU cmpR cells, ∃ v, v < cells.length ∧ cells.getD v 0 = d := fun d hd => by
    obtain ⟨v, hv, e⟩ := List.getElem_of_mem ((sortU_mem cmpR_tot _ _).1 hd)
    exact ⟨v, hv, by rw [getD_get hv]; exact e⟩
  let g : Int → Int := fun d => if h : ∃ v, v < cells.length ∧ cells.getD v 0 = d then R.getD h.choose 0 else 0
  have hg : ∀ d ∈ sortU cmpR cells, ∃ v, v < cells.length ∧ cells.getD v 0 = d ∧ g d = R.getD v 0 := fun d hd => by
    have h := hp d hd
    refine ⟨h.choose, h.choose_spec.1, h.choose_spec.2, ?_⟩
    show (if h : ∃ v, v < cells.length ∧ cells.getD v 0 = d then R.getD h.choose 0 else 0) = _
    rw [dif_pos h]
  have h1 : ((sortU cmpR cells).map g).Nodup := by
    unfold List.Nodup
    rw [List.pairwise_map]
    refine (List.Pairwise.and_mem.1 (asc_nodup cmpR_tot (sortU_asc cmpR_tot cells))).imp ?_
    rintro a b ⟨ha, hb, hab⟩ e
    obtain ⟨v, hv, e1, e2⟩ := hg a ha
    obtain ⟨w, hw, e3, e4⟩ := hg b hb
    rw [e2, e4] at e
    exact hab (by rw [← e1, ← e3]; exact hc v w hv hw e)
  have h2 : ∀ x ∈ (sortU cmpR cells).map g, x ∈ sortU cmpR R := fun x hx => by
    obtain ⟨d, hd, rfl⟩ := List.mem_map.1 hx
    obtain ⟨v, hv, _, e2⟩ := hg d hd
    rw [e2]
    refine (sortU_mem cmpR_tot _ _).2 ?_
    rw [getD_get (by omega)]; exact List.getElem_mem _
  have := nodup_sub_lenM h1 h2
  rw [List.length_map] at this
  exact this
end Go.Proofs.Ytmdeibdplpodpaa
namespace Go.Proofs.Ytmdeibdplpodpaa
open Go.Av
abbrev f_impl_areCells : Nat := 51
def c_impl_areCells : SC :=
 .seq (.reg [
     ⟨(some 2), .box 30 (.tmp 0), none⟩,
     ⟨(some 4), .mv (.const (.bool false)), none⟩] [1, 2])
 (.seq (.reg [
     ⟨(some 5), .mv (.tmp 1), none⟩,
     ⟨(some 6), .len (.tmp 5), none⟩,
     ⟨(some 7), .faddr 0 (.tmp 2), none⟩,
     ⟨(some 8), .load 1 false (.tmp 7), none⟩,
     ⟨(some 9), .len (.tmp 8), none⟩,
     ⟨(some 10), .bin .eql (.tmp 6) (.tmp 9), none⟩,
     ⟨(some 11), .mv (.tmp 10), none⟩,
     ⟨(some 12), .mv (.tmp 1), (some (11, true))⟩,
     ⟨(some 13), .call 60 [(.tmp 12)], (some (11, true))⟩,
     ⟨(some 14), .pick (.tmp 11) (.tmp 13) (.const (.bool false)), none⟩,
     ⟨(some 4), .mv (.tmp 14), none⟩] [4])
 (.ret))
theorem s_impl_areCells : stripF Try.prog 51 [[1, 2], [4]] = some (c_impl_areCells, [.tmp 4], 15) := by kernel_rfl
theorem areCells_fn (cols : List Int) (es : List (Int × Int)) (cells : List Int) : PFn Try.prog f_impl_areCells [.agg [ilS cols, ilE es], ilS cells] (Bv (rfB cols cells)) := by
  have hac := areColors_fn cells
  intro H
  unfold rfB
  by_cases hl : cells.length = cols.length
  · have d1 : decide ((cells.length : Int) = (cols.length : Int)) = true := decide_eq_true (by omega)
    rw [decide_eq_true hl, Bool.true_and]
    refine ACalls.introB s_impl_areCells (by simp) ?_; intro hB hA; unfold c_impl_areCells; simp (config := { maxSteps := 1000000 }) (disch := (first | omega | (simp only [go_sem]; try omega))) only [go_sem, Nat.reduceAdd, Nat.reduceEqDiff, Nat.reduceLeDiff, Nat.reduceMul, Nat.reduceLT, reduceIte, Int.reduceToNat, w64_id, cast_succ]
    repeat (first | (with_reducible first | refine SW.seq ?_ | refine SW.block ?_ | refine SW.rowC ?_ | refine SW.skip ?_ | refine SW.exit ?_ | refine PFn.use (hac) ?_ | refine PFn.useq (hac) ?_ | intro _ | refine And.intro (by omega) ?_) | simp (config := { maxSteps := 1000000 }) (disch := (first | omega | (simp only [go_sem]; try omega))) only [go_sem, Nat.reduceAdd, Nat.reduceEqDiff, Nat.reduceLeDiff, Nat.reduceMul, Nat.reduceLT, reduceIte, Int.reduceToNat, w64_id, cast_succ, d1])
    refine SW.ret ?_; (try simp only [go_sem]); (first | refine FunPost.one ?_ | refine FunPost.two ?_ | refine FunPost.three ?_); (try simp (config := { maxSteps := 1000000 }) (disch := (first | omega | (simp only [go_sem]; try omega))) only [go_sem, Nat.reduceAdd, Nat.reduceEqDiff, Nat.reduceLeDiff, Nat.reduceMul, Nat.reduceLT, reduceIte, Int.reduceToNat, w64_id, cast_succ])
    exact GR.froz (froz_B' _) ⟨rfl, rfl⟩
  · have d1 : decide ((cells.length : Int) = (cols.length : Int)) = false := decide_eq_false (by omega)
    rw [decide_eq_false hl, Bool.false_and]
    refine ACalls.introB s_impl_areCells (by simp) ?_; intro hB hA; unfold c_impl_areCells; simp (config := { maxSteps := 1000000 }) (disch := (first | omega | (simp only [go_sem]; try omega))) only [go_sem, Nat.reduceAdd, Nat.reduceEqDiff, Nat.reduceLeDiff, Nat.reduceMul, Nat.reduceLT, reduceIte, Int.reduceToNat, w64_id, cast_succ]
    repeat (first | (with_reducible first | refine SW.seq ?_ | refine SW.block ?_ | refine SW.rowC ?_ | refine SW.skip ?_ | refine SW.exit ?_ | intro _ | refine And.intro (by omega) ?_) | simp (config := { maxSteps := 1000000 }) (disch := (first | omega | (simp only [go_sem]; try omega))) only [go_sem, Nat.reduceAdd, Nat.reduceEqDiff, Nat.reduceLeDiff, Nat.reduceMul, Nat.reduceLT, reduceIte, Int.reduceToNat, w64_id, cast_succ, d1])
    refine SW.ret ?_; (try simp only [go_sem]); (first | refine FunPost.one ?_ | refine FunPost.two ?_ | refine FunPost.three ?_); (try simp (config := { maxSteps := 1000000 }) (disch := (first | omega | (simp only [go_sem]; try omega))) only [go_sem, Nat.reduceAdd, Nat.reduceEqDiff, Nat.reduceLeDiff, Nat.reduceMul, Nat.reduceLT, reduceIte, Int.reduceToNat, w64_id, cast_succ])
    exact GR.froz (froz_B' _) ⟨rfl, rfl⟩
end Go.Proofs.Ytmdeibdplpodpaa
