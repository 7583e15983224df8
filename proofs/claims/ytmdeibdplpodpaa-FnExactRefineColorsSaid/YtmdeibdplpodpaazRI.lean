/- Neighbor lists: the reference. -/
import Derived.Test.YtmdeibdplpodpaaProg
import Derived.KernelRfl
import Derived.Test.YtmdeibdplpodpaazRH
import Derived.Test.YtmdeibdplpodpaazRB
set_option linter.unusedSimpArgs false
set_option linter.unusedVariables false
set_option maxHeartbeats 4000000
set_option maxRecDepth 100000
namespace Go.Proofs.Ytmdeibdplpodpaa
open Go.Av
abbrev f_spec_l21Near : Nat := 50
def c_spec_l21Near : SC :=
 .seq (.reg [
     ⟨(some 1), .box 30 (.tmp 0), none⟩,
     ⟨(some 2), .mv (.const (.slice none 0 0)), none⟩] [1])
 (.seq (.reg [
     ⟨(some 8), .load 2 true (.tmp 1), none⟩,
     ⟨(some 9), .call 56 [(.tmp 8)], none⟩,
     ⟨(some 3), .mv (.tmp 9), none⟩] [3])
 (.seq (.reg [
     ⟨(some 10), .bslice 22 1 0 [] [], none⟩,
     ⟨(some 4), .mv (.tmp 10), none⟩] [3, 4])
 (.seq (.seq (.reg [
     ⟨(some 5), .mv (.const (.int .i64 0)), none⟩] [3, 4, 5])
 (.block 0 (.loop [3, 4, 5]
   (.seq (.seq (.reg [
       ⟨(some 11), .mv (.tmp 5), none⟩,
       ⟨(some 12), .mv (.tmp 3), none⟩,
       ⟨(some 13), .len (.tmp 12), none⟩,
       ⟨(some 14), .bin .lss (.tmp 11) (.tmp 13), none⟩] [3, 4, 5, 14])
   (.cond (.tmp 14)
    (.skip)
    (.exit 0)))
   (.seq (.block 1 (.seq (.reg [
        ⟨(some 17), .bslice 2 1 0 [] [], none⟩,
        ⟨(some 6), .mv (.tmp 17), none⟩] [3, 4, 5, 6])
    (.seq (.seq (.reg [
        ⟨(some 7), .mv (.const (.int .i64 0)), none⟩] [3, 4, 5, 6, 7])
    (.block 2 (.loop [3, 4, 5, 6, 7]
      (.seq (.seq (.reg [
          ⟨(some 18), .mv (.tmp 7), none⟩,
          ⟨(some 19), .mv (.tmp 3), none⟩,
          ⟨(some 20), .len (.tmp 19), none⟩,
          ⟨(some 21), .bin .lss (.tmp 18) (.tmp 20), none⟩] [3, 4, 5, 6, 7, 21])
      (.cond (.tmp 21)
       (.skip)
       (.exit 2)))
      (.seq (.block 3 (.seq (.reg [
           ⟨(some 24), .mv (.tmp 3), none⟩,
           ⟨(some 25), .mv (.tmp 5), none⟩,
           ⟨(some 26), .iaddr 1 (.tmp 24) (.tmp 25), none⟩,
           ⟨(some 27), .load 1 false (.tmp 26), none⟩,
           ⟨(some 28), .mv (.tmp 7), none⟩,
           ⟨(some 29), .iaddr 1 (.tmp 27) (.tmp 28), none⟩,
           ⟨(some 30), .load 1 false (.tmp 29), none⟩] [3, 4, 5, 6, 7, 30])
       (.cond (.tmp 30)
        (.reg [
            ⟨(some 31), .mv (.tmp 6), none⟩,
            ⟨(some 32), .mv (.tmp 7), none⟩,
            ⟨(some 33), .bslice 2 1 1 [(.int .i64 0)] [(0, (.tmp 32))], none⟩,
            ⟨(some 34), .app 2 1 8 (.tmp 31) (.tmp 33), none⟩,
            ⟨(some 6), .mv (.tmp 34), none⟩] [3, 4, 5, 6, 7])
        (.skip))))
      (.reg [
          ⟨(some 22), .mv (.tmp 7), none⟩,
          ⟨(some 23), .bin .add (.tmp 22) (.const (.int .i64 1)), none⟩,
          ⟨(some 7), .mv (.tmp 23), none⟩] [3, 4, 5, 6, 7]))))))
    (.reg [
        ⟨(some 35), .mv (.tmp 4), none⟩,
        ⟨(some 36), .mv (.tmp 6), none⟩,
        ⟨(some 37), .bslice 22 1 1 [(.slice none 0 0)] [(0, (.tmp 36))], none⟩,
        ⟨(some 38), .app 22 1 24 (.tmp 35) (.tmp 37), none⟩,
        ⟨(some 4), .mv (.tmp 38), none⟩] [3, 4, 5]))))
   (.reg [
       ⟨(some 15), .mv (.tmp 5), none⟩,
       ⟨(some 16), .bin .add (.tmp 15) (.const (.int .i64 1)), none⟩,
       ⟨(some 5), .mv (.tmp 16), none⟩] [3, 4, 5]))))))
 (.seq (.reg [
     ⟨(some 39), .mv (.tmp 4), none⟩,
     ⟨(some 2), .mv (.tmp 39), none⟩] [2])
 (.ret)))))
theorem s_spec_l21Near : stripF Try.prog 50 [[1], [3], [3, 4], [3, 4, 5], [3, 4, 5], [3, 4, 5, 14], [3, 4, 5, 6], [3, 4, 5, 6, 7], [3, 4, 5, 6, 7], [3, 4, 5, 6, 7, 21], [3, 4, 5, 6, 7, 30], [3, 4, 5, 6, 7], [3, 4, 5, 6, 7], [3, 4, 5], [3, 4, 5], [2]] = some (c_spec_l21Near, [.tmp 2], 40) := by kernel_rfl
def nearP (es : List (Int × Int)) (v k : Nat) : List Int := ((List.range k).filter (adjF es v)).map fun (b : Nat) => (b : Int)
theorem nearP_succ (es : List (Int × Int)) (v k : Nat) : nearP es v (k + 1) = nearP es v k ++ if adjF es v k then [(k : Int)] else [] := by
  unfold nearP
  rw [List.range_succ, List.filter_append, List.map_append]
  congr 1
  cases h : adjF es v k <;> simp [h]
theorem nearP_len (es : List (Int × Int)) (v k : Nat) : (nearP es v k).length ≤ k := by
  unfold nearP
  rw [List.length_map]
  have := List.length_filter_le (adjF es v) (List.range k)
  simpa using this
def nearT (n : Nat) (es : List (Int × Int)) (a : Nat) : List (List Int) := (List.range a).map (nearL n es)
theorem nearT_succ (n : Nat) (es : List (Int × Int)) (a : Nat) : nearT n es (a + 1) = nearT n es a ++ [nearL n es a] := by unfold nearT; rw [List.range_succ, List.map_append]; rfl
theorem nearT_len (n : Nat) (es : List (Int × Int)) (a : Nat) : (nearT n es a).length = a := by simp [nearT]
theorem appN8 {X : List Blk} {t ver n ty : Nat} {cells : List AV} {c : AV} {K : AV → List Blk → Prop} (hX : X[t]? = some ⟨ver, ty, 1, cells⟩) (hl : cells.length = n) (hn : n ≤ 100000) (hk : ∀ Z : List Blk, Z.length = X.length → Z[t]? = some ⟨ver + 1, ty, 1, cells ++ [c]⟩ → (∀ j, j ≠ t → Z[j]? = X[j]?) → K (.nm t (ver + 1) 0 (n + 1)) Z) :
    AppN ty 1 8 t ver n 1 [c] X K X[t]? := by
  have htl : cells.take (n * 1) = cells := List.take_of_length_le (by omega)
  simp only [AppN, hX]
  refine ⟨trivial, trivial, trivial, by simp [hl], by omega, by omega, ?_⟩
  rw [htl]
  exact hk _ List.length_set (List.getElem?_set_self (List.getElem?_eq_some_iff.1 hX).1) fun j hj => List.getElem?_set_ne (Ne.symm hj)
theorem l21Near_fn (cols : List Int) (es : List (Int × Int)) (hg : grB cols es = true) : PFn Try.prog f_spec_l21Near [.agg [ilS cols, ilE es]] (ilSS (nearT cols.length es cols.length)) := by
  obtain ⟨f1, f2, f3, f4⟩ := grB_facts hg
  have htab := fun H => l21Table_ok H (ilS cols) (ilE es) cols es ⟨rfl, rfl⟩ ⟨rfl, rfl⟩ (rd_ilS _ _) (rd_ilE _ _) (by omega) (by omega) (fun e he => by obtain ⟨q1, q2, q3⟩ := f3 e he; omega)
  intro H
  generalize cols.length = n at *
  refine ACalls.introB s_spec_l21Near (by simp) ?_; intro hB hA; unfold c_spec_l21Near; simp (config := { maxSteps := 1000000 }) (disch := (first | omega | (simp only [go_sem]; try omega))) only [go_sem, Nat.reduceAdd, Nat.reduceEqDiff, Nat.reduceLeDiff, Nat.reduceMul, Nat.reduceLT, reduceIte, Int.reduceToNat, w64_id, cast_succ]
  repeat (first | (with_reducible first | refine SW.seq ?_ | refine SW.block ?_ | refine SW.rowC ?_ | refine SW.skip ?_ | refine SW.exit ?_ | intro _ | refine And.intro (by omega) ?_) | simp (config := { maxSteps := 1000000 }) (disch := (first | omega | (simp only [go_sem]; try omega))) only [go_sem, Nat.reduceAdd, Nat.reduceEqDiff, Nat.reduceLeDiff, Nat.reduceMul, Nat.reduceLT, reduceIte, Int.reduceToNat, w64_id, cast_succ])
  refine (htab _).mono ?_
  rintro r X1 ⟨ext, t, ver, rs, hX1, rfl, hgv, hnd, hts, hlt, hlr⟩
  have hf1 : ∀ j, j < H.length → X1[j]? = H[j]? := fun j hj => by rw [hX1, List.append_assoc, List.getElem?_append_left hj]
  have hl1 : H.length ≤ X1.length := by rw [hX1]; simp
  clear hX1
  have htl := (List.getElem?_eq_some_iff.1 hgv.top).1
  have hrl : ∀ r ∈ rs, r < X1.length := fun r hr => by
    obtain ⟨i, hi, rfl⟩ := List.getElem_of_mem hr
    exact (List.getElem?_eq_some_iff.1 (hgv.rows i _ (List.getElem?_eq_getElem hi))).1
  have hgX : ∀ X : List Blk, (∀ j, j < X1.length → X[j]? = X1[j]?) → GrV Bv tyBB 4 X t ver 0 n rs (tabB n (adjF es)) := fun X hX => hgv.same fun j b hj hb => by
    rw [hX j (List.getElem?_eq_some_iff.1 hb).1]; exact hb
  have v1 := fun X hX => (hgX X hX).view
  repeat (first | (with_reducible first | refine SW.seq ?_ | refine SW.block ?_ | refine SW.rowC ?_ | refine SW.skip ?_ | refine SW.exit ?_ | intro _ | refine And.intro (by omega) ?_) | simp (config := { maxSteps := 1000000 }) (disch := (first | omega | (simp only [go_sem]; try omega))) only [go_sem, Nat.reduceAdd, Nat.reduceEqDiff, Nat.reduceLeDiff, Nat.reduceMul, Nat.reduceLT, reduceIte, Int.reduceToNat, w64_id, cast_succ])
  refine SW.loopE (fun E0 H0 m E' X => ∃ (a : Nat) (v : AV), a ≤ n ∧ m = n - a ∧ E' = aput (aput E0 5 (I a)) 4 v ∧ GrowSS X X1.length tyLL v (nearT n es a) ∧ X1.length ≤ X.length ∧ ∀ j, j < X1.length → X[j]? = X1[j]?) n
    ⟨0, .nm X1.length 0 0 0, by omega, by omega, rfl, .inr ⟨X1.length, 0, [], rfl, Nat.le_refl _, by simp, rfl, fun j c xs h => by simp at h, fun i j r v o l v' o' l' _ h => by simp at h⟩, by simp, fun j hj => by rw [List.getElem?_append_left hj]⟩ ?_
  rintro m E' X ⟨a, v, ha, rfl, rfl, hG, hXl, hXf⟩
  have w1 := v1 X hXf
  simp (config := { maxSteps := 1000000 }) (disch := (first | omega | (simp only [go_sem]; try omega))) only [go_sem, Nat.reduceAdd, Nat.reduceEqDiff, Nat.reduceLeDiff, Nat.reduceMul, Nat.reduceLT, reduceIte, Int.reduceToNat, w64_id, cast_succ]
  repeat (first | (with_reducible first | refine SW.seq ?_ | refine SW.block ?_ | refine SW.rowC ?_ | refine SW.skip ?_ | refine SW.exit ?_ | intro _ | refine And.intro (by omega) ?_) | simp (config := { maxSteps := 1000000 }) (disch := (first | omega | (simp only [go_sem]; try omega))) only [go_sem, Nat.reduceAdd, Nat.reduceEqDiff, Nat.reduceLeDiff, Nat.reduceMul, Nat.reduceLT, reduceIte, Int.reduceToNat, w64_id, cast_succ, w1])
  (first | refine SW.condD rfl (fun h2 => ?_) (fun h2 => ?_) | refine SW.condN rfl (fun h2 => ?_) (fun h2 => ?_) | refine SW.condNB rfl (fun h2 => ?_) (fun h2 => ?_) | refine SW.condB rfl (fun h2 => ?_) (fun h2 => ?_))
  · have han : a < n := by omega
    repeat (first | (with_reducible first | refine SW.seq ?_ | refine SW.block ?_ | refine SW.rowC ?_ | refine SW.skip ?_ | refine SW.exit ?_ | intro _ | refine And.intro (by omega) ?_) | simp (config := { maxSteps := 1000000 }) (disch := (first | omega | (simp only [go_sem]; try omega))) only [go_sem, Nat.reduceAdd, Nat.reduceEqDiff, Nat.reduceLeDiff, Nat.reduceMul, Nat.reduceLT, reduceIte, Int.reduceToNat, w64_id, cast_succ])
    refine SW.loopE (fun E0 H0 m E' Y => ∃ (b : Nat), b ≤ n ∧ m = n - b ∧ E' = aput (aput E0 7 (I b)) 6 (.nm X.length (nearP es a b).length 0 (nearP es a b).length) ∧ Y[X.length]? = some ⟨(nearP es a b).length, 2, 1, (nearP es a b).map I⟩ ∧ ∀ j, j < X.length → Y[j]? = X[j]?) n
      ⟨0, by omega, by omega, rfl, by simp [nearP], fun j hj => by rw [List.getElem?_append_left hj]⟩ ?_
    rintro m E' Y ⟨b, hb, rfl, rfl, hY, hYf⟩
    have hYX : ∀ j, j < X1.length → Y[j]? = X1[j]? := fun j hj => (hYf j (by omega)).trans (hXf j hj)
    have hgY := hgX Y hYX
    have w2 := hgY.view
    have hpl := nearP_len es a b
    simp (config := { maxSteps := 1000000 }) (disch := (first | omega | (simp only [go_sem]; try omega))) only [go_sem, Nat.reduceAdd, Nat.reduceEqDiff, Nat.reduceLeDiff, Nat.reduceMul, Nat.reduceLT, reduceIte, Int.reduceToNat, w64_id, cast_succ]
    repeat (first | (with_reducible first | refine SW.seq ?_ | refine SW.block ?_ | refine SW.rowC ?_ | refine SW.skip ?_ | refine SW.exit ?_ | intro _ | refine And.intro (by omega) ?_) | simp (config := { maxSteps := 1000000 }) (disch := (first | omega | (simp only [go_sem]; try omega))) only [go_sem, Nat.reduceAdd, Nat.reduceEqDiff, Nat.reduceLeDiff, Nat.reduceMul, Nat.reduceLT, reduceIte, Int.reduceToNat, w64_id, cast_succ, w2])
    (first | refine SW.condD rfl (fun h3 => ?_) (fun h3 => ?_) | refine SW.condN rfl (fun h3 => ?_) (fun h3 => ?_) | refine SW.condNB rfl (fun h3 => ?_) (fun h3 => ?_) | refine SW.condB rfl (fun h3 => ?_) (fun h3 => ?_))
    · have hbn : b < n := by omega
      obtain ⟨ra, hra⟩ := hgY.get han
      have c1 := GrV.cell (rv := 0) (n := n) hra
      have r1 := hgY.row han hra
      have q1 : (((tabB n (adjF es)).getD a []).map Bv)[b]? = some (Bv (adjF es a b)) := by
        rw [List.getElem?_map, tabB_get _ han hbn]; rfl
      have hsn := nearP_succ es a b
      cases hf : adjF es a b
      · rw [hf] at q1 hsn
        rw [if_neg (by simp), List.append_nil] at hsn
        repeat (first | (with_reducible first | refine SW.seq ?_ | refine SW.block ?_ | refine SW.rowC ?_ | refine SW.skip ?_ | refine SW.exit ?_ | intro _ | refine And.intro (by omega) ?_) | simp (config := { maxSteps := 1000000 }) (disch := (first | omega | (simp only [go_sem]; try omega))) only [go_sem, Nat.reduceAdd, Nat.reduceEqDiff, Nat.reduceLeDiff, Nat.reduceMul, Nat.reduceLT, reduceIte, Int.reduceToNat, w64_id, cast_succ, w2, c1, r1, q1])
        refine SW.condF rfl ?_
        repeat (first | (with_reducible first | refine SW.seq ?_ | refine SW.block ?_ | refine SW.rowC ?_ | refine SW.skip ?_ | refine SW.exit ?_ | intro _ | refine And.intro (by omega) ?_) | simp (config := { maxSteps := 1000000 }) (disch := (first | omega | (simp only [go_sem]; try omega))) only [go_sem, Nat.reduceAdd, Nat.reduceEqDiff, Nat.reduceLeDiff, Nat.reduceMul, Nat.reduceLT, reduceIte, Int.reduceToNat, w64_id, cast_succ])
        refine SLoop.next (n - (b + 1)) (by omega) ⟨b + 1, by omega, rfl, ?_, ?_, hYf⟩
        · rw [hsn]; simp [go_sem]
        · rw [hsn]; exact hY
      · rw [hf] at q1 hsn
        rw [if_pos rfl] at hsn
        generalize nearP es a b = L at *
        repeat (first | (with_reducible first | refine SW.seq ?_ | refine SW.block ?_ | refine SW.rowC ?_ | refine SW.skip ?_ | refine SW.exit ?_ | intro _ | refine And.intro (by omega) ?_) | simp (config := { maxSteps := 1000000 }) (disch := (first | omega | (simp only [go_sem]; try omega))) only [go_sem, Nat.reduceAdd, Nat.reduceEqDiff, Nat.reduceLeDiff, Nat.reduceMul, Nat.reduceLT, reduceIte, Int.reduceToNat, w64_id, cast_succ, w2, c1, r1, q1])
        refine SW.condT rfl ?_
        repeat (first | (with_reducible first | refine SW.seq ?_ | refine SW.block ?_ | refine SW.rowC ?_ | refine SW.skip ?_ | refine SW.exit ?_ | intro _ | refine And.intro (by omega) ?_) | simp (config := { maxSteps := 1000000 }) (disch := (first | omega | (simp only [go_sem]; try omega))) only [go_sem, Nat.reduceAdd, Nat.reduceEqDiff, Nat.reduceLeDiff, Nat.reduceMul, Nat.reduceLT, reduceIte, Int.reduceToNat, w64_id, cast_succ])
        have hYl := (List.getElem?_eq_some_iff.1 hY).1
        refine appN8 (get_appU hY [(⟨0, 2, 1, [I (b : Int)]⟩ : Blk)]) (by simp) (by omega) ?_
        intro Z hZl hZt hZf
        repeat (first | (with_reducible first | refine SW.seq ?_ | refine SW.block ?_ | refine SW.rowC ?_ | refine SW.skip ?_ | refine SW.exit ?_ | intro _ | refine And.intro (by omega) ?_) | simp (config := { maxSteps := 1000000 }) (disch := (first | omega | (simp only [go_sem]; try omega))) only [go_sem, Nat.reduceAdd, Nat.reduceEqDiff, Nat.reduceLeDiff, Nat.reduceMul, Nat.reduceLT, reduceIte, Int.reduceToNat, w64_id, cast_succ])
        refine SLoop.next (n - (b + 1)) (by omega) ⟨b + 1, by omega, rfl, ?_, ?_, fun j hj => ?_⟩
        · rw [hsn]; simp [go_sem]
        · rw [hsn, hZt]; simp
        · rw [hZf j (by omega), List.getElem?_append_left (by omega)]; exact hYf j hj
    · have : b = n := by omega
      subst this
      have hnl : nearP es a b = nearL b es a := rfl
      rw [hnl] at hY hpl ⊢
      have hns := nearT_succ b es a
      have hnt := nearT_len b es a
      generalize nearL b es a = L at *
      repeat (first | (with_reducible first | refine SW.seq ?_ | refine SW.block ?_ | refine SW.rowC ?_ | refine SW.skip ?_ | refine SW.exit ?_ | intro _ | refine And.intro (by omega) ?_) | simp (config := { maxSteps := 1000000 }) (disch := (first | omega | (simp only [go_sem]; try omega))) only [go_sem, Nat.reduceAdd, Nat.reduceEqDiff, Nat.reduceLeDiff, Nat.reduceMul, Nat.reduceLT, reduceIte, Int.reduceToNat, w64_id, cast_succ])
      have hYl := (List.getElem?_eq_some_iff.1 hY).1
      refine GrowSS.appG (H1 := X) (r := X.length) (rv := L.length) (rty := 2) (xs := L) rfl hG hXl (Nat.le_refl _) (by rw [hnt]; omega) (fun j bl _ hbl => by
        have hjl := (List.getElem?_eq_some_iff.1 hbl).1
        rw [List.getElem?_append_left (by omega), hYf j hjl]; exact hbl) (get_appU hY _) ?_
      intro v3 H3 d1 d2 d3
      have hcell := d1.cell1
      repeat (first | (with_reducible first | refine SW.seq ?_ | refine SW.block ?_ | refine SW.rowC ?_ | refine SW.skip ?_ | refine SW.exit ?_ | intro _ | refine And.intro (by omega) ?_) | simp (config := { maxSteps := 1000000 }) (disch := (first | omega | (simp only [go_sem]; try omega))) only [go_sem, Nat.reduceAdd, Nat.reduceEqDiff, Nat.reduceLeDiff, Nat.reduceMul, Nat.reduceLT, reduceIte, Int.reduceToNat, w64_id, cast_succ, hcell])
      refine SLoop.next (b - (a + 1)) (by omega) ⟨a + 1, v3, by omega, rfl, by simp [go_sem], hns ▸ d1, by simp at d2; omega, fun j hj => ?_⟩
      rw [d3 j hj, List.getElem?_append_left (by omega)]; exact hYX j hj
  · have : a = n := by omega
    subst this
    repeat (first | (with_reducible first | refine SW.seq ?_ | refine SW.block ?_ | refine SW.rowC ?_ | refine SW.skip ?_ | refine SW.exit ?_ | intro _ | refine And.intro (by omega) ?_) | simp (config := { maxSteps := 1000000 }) (disch := (first | omega | (simp only [go_sem]; try omega))) only [go_sem, Nat.reduceAdd, Nat.reduceEqDiff, Nat.reduceLeDiff, Nat.reduceMul, Nat.reduceLT, reduceIte, Int.reduceToNat, w64_id, cast_succ])
    refine SW.ret ?_; (try simp only [go_sem]); (first | refine FunPost.one ?_ | refine FunPost.two ?_ | refine FunPost.three ?_); (try simp (config := { maxSteps := 1000000 }) (disch := (first | omega | (simp only [go_sem]; try omega))) only [go_sem, Nat.reduceAdd, Nat.reduceEqDiff, Nat.reduceLeDiff, Nat.reduceMul, Nat.reduceLT, reduceIte, Int.reduceToNat, w64_id, cast_succ])
    have ho := hG.own (Nat.le_refl _)
    obtain ⟨ext, he⟩ := ext_ofR (H := H) (H1 := X) (by omega) (fun j hj => (hXf j (by omega)).trans (hf1 j hj))
    have hz : Froz X H.length v (ilSS (nearT a es a)) := ho.froz (fun r hr => by have := hr.1; omega)
    rw [he] at hz ⊢
    exact GR.froz hz ⟨rfl, rfl⟩
end Go.Proofs.Ytmdeibdplpodpaa
namespace Go.Proofs.Ytmdeibdplpodpaa
open Go.Av
abbrev f_spec_l21Sorted : Nat := 89
def c_spec_l21Sorted : SC :=
 .seq (.reg [
     ⟨(some 2), .mv (.const (.slice none 0 0)), none⟩] [0])
 (.seq (.reg [
     ⟨(some 7), .bslice 2 1 0 [] [], none⟩,
     ⟨(some 3), .mv (.tmp 7), none⟩] [0, 3])
 (.seq (.seq (.reg [
     ⟨(some 4), .mv (.const (.int .i64 0)), none⟩] [0, 3, 4])
 (.block 0 (.loop [0, 3, 4]
   (.seq (.seq (.reg [
       ⟨(some 8), .mv (.tmp 4), none⟩,
       ⟨(some 9), .mv (.tmp 0), none⟩,
       ⟨(some 10), .len (.tmp 9), none⟩,
       ⟨(some 11), .bin .lss (.tmp 8) (.tmp 10), none⟩] [0, 3, 4, 11])
   (.cond (.tmp 11)
    (.skip)
    (.exit 0)))
   (.seq (.block 1 (.seq (.reg [
        ⟨(some 14), .mv (.tmp 3), none⟩,
        ⟨(some 15), .len (.tmp 14), none⟩,
        ⟨(some 5), .mv (.tmp 15), none⟩] [0, 3, 4, 5])
    (.seq (.reg [
        ⟨(some 16), .mv (.tmp 3), none⟩,
        ⟨(some 17), .mv (.tmp 0), none⟩,
        ⟨(some 18), .mv (.tmp 4), none⟩,
        ⟨(some 19), .iaddr 1 (.tmp 17) (.tmp 18), none⟩,
        ⟨(some 20), .load 1 false (.tmp 19), none⟩,
        ⟨(some 21), .bslice 2 1 1 [(.int .i64 0)] [(0, (.tmp 20))], none⟩,
        ⟨(some 22), .app 2 1 8 (.tmp 16) (.tmp 21), none⟩,
        ⟨(some 3), .mv (.tmp 22), none⟩] [0, 3, 4, 5])
    (.block 2 (.loop [0, 3, 4, 5]
      (.seq (.seq (.reg [
          ⟨(some 23), .mv (.tmp 5), none⟩,
          ⟨(some 24), .bin .gtr (.tmp 23) (.const (.int .i64 0)), none⟩,
          ⟨(some 25), .mv (.tmp 24), none⟩,
          ⟨(some 26), .mv (.tmp 3), (some (25, true))⟩,
          ⟨(some 27), .mv (.tmp 5), (some (25, true))⟩,
          ⟨(some 28), .bin .sub (.tmp 27) (.const (.int .i64 1)), (some (25, true))⟩,
          ⟨(some 29), .iaddr 1 (.tmp 26) (.tmp 28), (some (25, true))⟩,
          ⟨(some 30), .load 1 false (.tmp 29), (some (25, true))⟩,
          ⟨(some 31), .mv (.tmp 3), (some (25, true))⟩,
          ⟨(some 32), .mv (.tmp 5), (some (25, true))⟩,
          ⟨(some 33), .iaddr 1 (.tmp 31) (.tmp 32), (some (25, true))⟩,
          ⟨(some 34), .load 1 false (.tmp 33), (some (25, true))⟩,
          ⟨(some 35), .bin .gtr (.tmp 30) (.tmp 34), (some (25, true))⟩,
          ⟨(some 36), .pick (.tmp 25) (.tmp 35) (.const (.bool false)), none⟩] [0, 3, 4, 5, 36])
      (.cond (.tmp 36)
       (.skip)
       (.exit 2)))
      (.block 3 (.seq (.reg [
           ⟨(some 37), .mv (.tmp 3), none⟩,
           ⟨(some 38), .mv (.tmp 5), none⟩,
           ⟨(some 39), .iaddr 1 (.tmp 37) (.tmp 38), none⟩,
           ⟨(some 40), .load 1 false (.tmp 39), none⟩,
           ⟨(some 6), .mv (.tmp 40), none⟩] [0, 3, 4, 5, 6])
       (.seq (.reg [
           ⟨(some 41), .mv (.tmp 3), none⟩,
           ⟨(some 42), .mv (.tmp 5), none⟩,
           ⟨(some 43), .mv (.tmp 3), none⟩,
           ⟨(some 44), .mv (.tmp 5), none⟩,
           ⟨(some 45), .bin .sub (.tmp 44) (.const (.int .i64 1)), none⟩,
           ⟨(some 46), .iaddr 1 (.tmp 43) (.tmp 45), none⟩,
           ⟨(some 47), .load 1 false (.tmp 46), none⟩,
           ⟨(some 48), .iaddr 1 (.tmp 41) (.tmp 42), none⟩,
           ⟨none, .store 1 (.tmp 48) (.tmp 47), none⟩] [0, 3, 4, 5, 6])
       (.seq (.reg [
           ⟨(some 49), .mv (.tmp 3), none⟩,
           ⟨(some 50), .mv (.tmp 5), none⟩,
           ⟨(some 51), .bin .sub (.tmp 50) (.const (.int .i64 1)), none⟩,
           ⟨(some 52), .mv (.tmp 6), none⟩,
           ⟨(some 53), .iaddr 1 (.tmp 49) (.tmp 51), none⟩,
           ⟨none, .store 1 (.tmp 53) (.tmp 52), none⟩] [0, 3, 4, 5])
       (.reg [
           ⟨(some 54), .mv (.tmp 5), none⟩,
           ⟨(some 55), .bin .sub (.tmp 54) (.const (.int .i64 1)), none⟩,
           ⟨(some 5), .mv (.tmp 55), none⟩] [0, 3, 4, 5])))))))))))
   (.reg [
       ⟨(some 12), .mv (.tmp 4), none⟩,
       ⟨(some 13), .bin .add (.tmp 12) (.const (.int .i64 1)), none⟩,
       ⟨(some 4), .mv (.tmp 13), none⟩] [0, 3, 4]))))))
 (.seq (.reg [
     ⟨(some 56), .mv (.tmp 3), none⟩,
     ⟨(some 2), .mv (.tmp 56), none⟩] [2])
 (.ret))))
theorem s_spec_l21Sorted : stripF Try.prog 89 [[0], [0, 3], [0, 3, 4], [0, 3, 4], [0, 3, 4, 11], [0, 3, 4, 5], [0, 3, 4, 5], [0, 3, 4, 5], [0, 3, 4, 5, 36], [0, 3, 4, 5, 6], [0, 3, 4, 5, 6], [0, 3, 4, 5], [0, 3, 4, 5], [0, 3, 4], [2]] = some (c_spec_l21Sorted, [.tmp 2], 57) := by kernel_rfl
theorem isort_sorted (zs : List Int) : (isort zs).Pairwise (· ≤ ·) := by
  have := List.pairwise_mergeSort (le := fun x y : Int => decide (x ≤ y)) (fun a b c h1 h2 => by simp at *; omega) (fun a b => by simp; omega) zs
  exact this.imp fun h => by simpa using h
theorem isort_perm (zs : List Int) : (isort zs).Perm zs := List.mergeSort_perm _ _
theorem isort_uniq {zs ys : List Int} (hp : ys.Perm zs) (hs : ys.Pairwise (· ≤ ·)) : isort zs = ys :=
  List.Perm.eq_of_pairwise (fun a b _ _ h1 h2 => by omega) (isort_sorted zs) hs ((isort_perm zs).trans hp.symm)
theorem isort_nil : isort [] = [] := List.eq_nil_of_length_eq_zero (isort_length [])
theorem isort_insert {pre A B : List Int} {x : Int} (h : isort pre = A ++ B) (hB : ∀ b ∈ B, x < b) (hA : A ≠ [] → A.getD (A.length - 1) 0 ≤ x) : isort (pre ++ [x]) = A ++ x :: B := by
  have hs := isort_sorted pre
  have hp := isort_perm pre
  rw [h] at hs hp
  refine isort_uniq ?_ ?_
  · have h1 : (A ++ x :: B).Perm (x :: (A ++ B)) := List.perm_middle
    have h2 : (pre ++ [x]).Perm (x :: pre) := List.perm_append_singleton x pre
    exact h1.trans ((hp.cons x).trans h2.symm)
  · rw [List.pairwise_append] at hs ⊢
    obtain ⟨s1, s2, s3⟩ := hs
    have hAx : ∀ a ∈ A, a ≤ x := fun a ha => by
      have hne : A ≠ [] := List.ne_nil_of_mem ha
      have hl := hA hne
      obtain ⟨i, hi, rfl⟩ := List.getElem_of_mem ha
      by_cases he : i = A.length - 1
      · subst he
        rw [getD_get hi] at hl; exact hl
      · have := List.pairwise_iff_getElem.1 s1 i (A.length - 1) hi (by omega) (by omega)
        rw [getD_get (by omega)] at hl; omega
    refine ⟨s1, List.pairwise_cons.2 ⟨fun b hb => by have := hB b hb; omega, s2⟩, fun a ha b hb => ?_⟩
    rcases List.mem_cons.1 hb with rfl | hb
    · exact hAx a ha
    · exact s3 a ha b hb
theorem l21Sorted_ok (H : List Blk) (a : AV) (xs : List Int) (ha : aview H a = some (xs.length, xs.map I)) (hl : xs.length ≤ 100000) : ACalls Try.prog f_spec_l21Sorted [a] H (fun r H' => r = ilS (isort xs) ∧ H' = H) := by
  have hav : ∀ ext, aview (H ++ ext) a = some (xs.length, xs.map I) := fun ext => aview_append ha ext
  refine ACalls.introB s_spec_l21Sorted (by simp) ?_; intro hB hA; unfold c_spec_l21Sorted; simp (config := { maxSteps := 1000000 }) (disch := (first | omega | (simp only [go_sem]; try omega))) only [go_sem, Nat.reduceAdd, Nat.reduceEqDiff, Nat.reduceLeDiff, Nat.reduceMul, Nat.reduceLT, reduceIte, Int.reduceToNat, w64_id, cast_succ]
  have hab : ∀ k, H.length ≤ k → Bel k a := fun k hk => (hA a (by simp)).mono hk
  have hab1 := hab (H.length + 1) (by omega)
  repeat (first | (with_reducible first | refine SW.seq ?_ | refine SW.block ?_ | refine SW.rowC ?_ | refine SW.skip ?_ | refine SW.exit ?_ | intro _ | refine And.intro (by omega) ?_) | simp (config := { maxSteps := 1000000 }) (disch := (first | omega | (simp only [go_sem]; try omega))) only [go_sem, Nat.reduceAdd, Nat.reduceEqDiff, Nat.reduceLeDiff, Nat.reduceMul, Nat.reduceLT, reduceIte, Int.reduceToNat, w64_id, cast_succ, hav])
  refine SW.loopE (fun E0 H0 q E' X => ∃ (pre post : List Int), xs = pre ++ post ∧ q = post.length ∧ E' = aput (aput E0 4 (I pre.length)) 3 (.nm H.length pre.length 0 pre.length) ∧ X = H ++ [⟨pre.length, 2, 1, (isort pre).map I⟩]) xs.length ⟨[], xs, rfl, rfl, rfl, by rw [isort_nil]; rfl⟩ ?_
  rintro q E' X ⟨pre, post, hpp, rfl, rfl, rfl⟩
  have hil := isort_length pre
  have hpl : pre.length ≤ 100000 := by rw [hpp] at hl; simp at hl; omega
  have htk : ((isort pre).map I).take pre.length = (isort pre).map I := List.take_of_length_le (by simp [hil])
  simp (config := { maxSteps := 1000000 }) (disch := (first | omega | (simp only [go_sem]; try omega))) only [go_sem, Nat.reduceAdd, Nat.reduceEqDiff, Nat.reduceLeDiff, Nat.reduceMul, Nat.reduceLT, reduceIte, Int.reduceToNat, w64_id, cast_succ]
  repeat (first | (with_reducible first | refine SW.seq ?_ | refine SW.block ?_ | refine SW.rowC ?_ | refine SW.skip ?_ | refine SW.exit ?_ | intro _ | refine And.intro (by omega) ?_) | simp (config := { maxSteps := 1000000 }) (disch := (first | omega | (simp only [go_sem]; try omega))) only [go_sem, Nat.reduceAdd, Nat.reduceEqDiff, Nat.reduceLeDiff, Nat.reduceMul, Nat.reduceLT, reduceIte, Int.reduceToNat, w64_id, cast_succ, hav])
  (first | refine SW.condD rfl (fun h2 => ?_) (fun h2 => ?_) | refine SW.condN rfl (fun h2 => ?_) (fun h2 => ?_) | refine SW.condNB rfl (fun h2 => ?_) (fun h2 => ?_) | refine SW.condB rfl (fun h2 => ?_) (fun h2 => ?_))
  · obtain ⟨x, post, rfl, hg, -⟩ := consOf (d := 0) hpp (by omega)
    repeat (first | (with_reducible first | refine SW.seq ?_ | refine SW.block ?_ | refine SW.rowC ?_ | refine SW.skip ?_ | refine SW.exit ?_ | intro _ | refine And.intro (by omega) ?_) | simp (config := { maxSteps := 1000000 }) (disch := (first | omega | (simp only [go_sem]; try omega))) only [go_sem, Nat.reduceAdd, Nat.reduceEqDiff, Nat.reduceLeDiff, Nat.reduceMul, Nat.reduceLT, reduceIte, Int.reduceToNat, w64_id, cast_succ, hav, hg, htk])
    refine SW.loopE (fun E0 H0 q E' X => ∃ (A B : List Int), isort pre = A ++ B ∧ q = A.length ∧ (∀ b ∈ B, x < b) ∧ E' = aput E0 5 (I A.length) ∧ X = H ++ [⟨pre.length + 1, 2, 1, (A ++ x :: B).map I⟩, ⟨0, 2, 1, [I x]⟩]) pre.length
      ⟨isort pre, [], by simp, hil.symm, by simp, by rw [hil]; rfl, by simp⟩ ?_
    rintro q E' X ⟨A, B, hAB, rfl, hBx, rfl, rfl⟩
    have hlen : A.length + B.length = pre.length := by rw [← hil, hAB]; simp
    have hll : (A ++ x :: B).length = pre.length + 1 := by simp; omega
    have htk2 : ((A ++ x :: B).map I).take (pre.length + 1) = (A ++ x :: B).map I := List.take_of_length_le (by rw [List.length_map, hll]; omega)
    have hk0 : ((A ++ x :: B).map I)[A.length]? = some (I x) := by rw [List.getElem?_map, List.getElem?_append_right (Nat.le_refl _), Nat.sub_self]; rfl
    have fin : (A ≠ [] → A.getD (A.length - 1) 0 ≤ x) → isort (pre ++ [x]) = A ++ x :: B := isort_insert hAB hBx
    have hnx : A ≠ [] → ∃ A' a, A = A' ++ [a] := fun h => ⟨_, _, (List.dropLast_concat_getLast h).symm⟩
    by_cases c1 : A = []
    · have hK0 : A.length = 0 := by rw [c1]; rfl
      have hfin := fin (fun h => absurd c1 h)
      have d1 : decide ((0 : Int) < (A.length : Int)) = false := decide_eq_false (by omega)
      generalize A ++ x :: B = W at *
      generalize A.length = K at *
      simp (config := { maxSteps := 1000000 }) (disch := (first | omega | (simp only [go_sem]; try omega))) only [go_sem, Nat.reduceAdd, Nat.reduceEqDiff, Nat.reduceLeDiff, Nat.reduceMul, Nat.reduceLT, reduceIte, Int.reduceToNat, w64_id, cast_succ]
      repeat (first | (with_reducible first | refine SW.seq ?_ | refine SW.block ?_ | refine SW.rowC ?_ | refine SW.skip ?_ | refine SW.exit ?_ | intro _ | refine And.intro (by omega) ?_) | simp (config := { maxSteps := 1000000 }) (disch := (first | omega | (simp only [go_sem]; try omega))) only [go_sem, Nat.reduceAdd, Nat.reduceEqDiff, Nat.reduceLeDiff, Nat.reduceMul, Nat.reduceLT, reduceIte, Int.reduceToNat, w64_id, cast_succ, hav, htk2, d1])
      refine SW.condF rfl ?_
      repeat (first | (with_reducible first | refine SW.seq ?_ | refine SW.block ?_ | refine SW.rowC ?_ | refine SW.skip ?_ | refine SW.exit ?_ | intro _ | refine And.intro (by omega) ?_) | simp (config := { maxSteps := 1000000 }) (disch := (first | omega | (simp only [go_sem]; try omega))) only [go_sem, Nat.reduceAdd, Nat.reduceEqDiff, Nat.reduceLeDiff, Nat.reduceMul, Nat.reduceLT, reduceIte, Int.reduceToNat, w64_id, cast_succ, hav])
      refine SLoop.nextT 1 post.length hB (by omega) (by simp) (by simp) ?_ ?_ ⟨pre ++ [x], post, by simp [hpp], rfl, ?_, ?_⟩
      · (simp only [go_sem, Nat.reduceAdd, Nat.reduceEqDiff, reduceIte, go_sem, and_self, and_true, true_and, implies_true, List.take_succ_cons, List.take_zero, and_true, true_and, hab1]; try omega)
      · (simp only [go_sem, Nat.reduceAdd, Nat.reduceEqDiff, reduceIte, go_sem, and_self, and_true, true_and, implies_true, List.take_succ_cons, List.take_zero, and_true, true_and, hab1]; try omega)
      · simp [go_sem]
      · rw [hfin]; simp
    · obtain ⟨A', a1, hA'⟩ := hnx c1
      have hK1 : A.length = A'.length + 1 := by rw [hA']; simp
      have d1 : decide ((0 : Int) < (A.length : Int)) = true := decide_eq_true (by omega)
      have e1 : (A.length : Int) - 1 = ((A'.length : Nat) : Int) := by omega
      have hk1 : ((A ++ x :: B).map I)[A'.length]? = some (I a1) := by rw [List.getElem?_map, hA', List.append_assoc, List.getElem?_append_right (Nat.le_refl _), Nat.sub_self]; rfl
      have hset : ((A ++ x :: B).set A.length a1).set A'.length x = A' ++ x :: a1 :: B := by
        rw [hK1, hA', List.append_assoc, List.set_append_right _ _ (by omega), show A'.length + 1 - A'.length = 1 by omega, List.set_append_right _ _ (Nat.le_refl _), Nat.sub_self]
        rfl
      have hAB2 : isort pre = A' ++ a1 :: B := by rw [hAB, hA']; simp
      by_cases c2 : x < a1
      · have d2 : decide (x < a1) = true := decide_eq_true c2
        generalize A ++ x :: B = W at *
        generalize A.length = K at *
        simp (config := { maxSteps := 1000000 }) (disch := (first | omega | (simp only [go_sem]; try omega))) only [go_sem, Nat.reduceAdd, Nat.reduceEqDiff, Nat.reduceLeDiff, Nat.reduceMul, Nat.reduceLT, reduceIte, Int.reduceToNat, w64_id, cast_succ]
        repeat (first | (with_reducible first | refine SW.seq ?_ | refine SW.block ?_ | refine SW.rowC ?_ | refine SW.skip ?_ | refine SW.exit ?_ | intro _ | refine And.intro (by omega) ?_) | simp (config := { maxSteps := 1000000 }) (disch := (first | omega | (simp only [go_sem]; try omega))) only [go_sem, Nat.reduceAdd, Nat.reduceEqDiff, Nat.reduceLeDiff, Nat.reduceMul, Nat.reduceLT, reduceIte, Int.reduceToNat, w64_id, cast_succ, hav, htk2, d1, e1, hk0, hk1, d2])
        refine SW.condT rfl ?_
        repeat (first | (with_reducible first | refine SW.seq ?_ | refine SW.block ?_ | refine SW.rowC ?_ | refine SW.skip ?_ | refine SW.exit ?_ | intro _ | refine And.intro (by omega) ?_) | simp (config := { maxSteps := 1000000 }) (disch := (first | omega | (simp only [go_sem]; try omega))) only [go_sem, Nat.reduceAdd, Nat.reduceEqDiff, Nat.reduceLeDiff, Nat.reduceMul, Nat.reduceLT, reduceIte, Int.reduceToNat, w64_id, cast_succ, hav, htk2, d1, e1, hk0, hk1, d2])
        refine SLoop.next A'.length (by omega) ⟨A', a1 :: B, hAB2, rfl, fun b hb => ?_, by simp [go_sem], by rw [hset]⟩
        rcases List.mem_cons.1 hb with rfl | hb
        · exact c2
        · exact hBx b hb
      · have d2 : decide (x < a1) = false := decide_eq_false c2
        have hfin := fin (fun _ => by rw [hA', List.getD_eq_getElem?_getD]; simp; omega)
        generalize A ++ x :: B = W at *
        generalize A.length = K at *
        simp (config := { maxSteps := 1000000 }) (disch := (first | omega | (simp only [go_sem]; try omega))) only [go_sem, Nat.reduceAdd, Nat.reduceEqDiff, Nat.reduceLeDiff, Nat.reduceMul, Nat.reduceLT, reduceIte, Int.reduceToNat, w64_id, cast_succ]
        repeat (first | (with_reducible first | refine SW.seq ?_ | refine SW.block ?_ | refine SW.rowC ?_ | refine SW.skip ?_ | refine SW.exit ?_ | intro _ | refine And.intro (by omega) ?_) | simp (config := { maxSteps := 1000000 }) (disch := (first | omega | (simp only [go_sem]; try omega))) only [go_sem, Nat.reduceAdd, Nat.reduceEqDiff, Nat.reduceLeDiff, Nat.reduceMul, Nat.reduceLT, reduceIte, Int.reduceToNat, w64_id, cast_succ, hav, htk2, d1, e1, hk0, hk1, d2])
        refine SW.condF rfl ?_
        repeat (first | (with_reducible first | refine SW.seq ?_ | refine SW.block ?_ | refine SW.rowC ?_ | refine SW.skip ?_ | refine SW.exit ?_ | intro _ | refine And.intro (by omega) ?_) | simp (config := { maxSteps := 1000000 }) (disch := (first | omega | (simp only [go_sem]; try omega))) only [go_sem, Nat.reduceAdd, Nat.reduceEqDiff, Nat.reduceLeDiff, Nat.reduceMul, Nat.reduceLT, reduceIte, Int.reduceToNat, w64_id, cast_succ, hav])
        refine SLoop.nextT 1 post.length hB (by omega) (by simp) (by simp) ?_ ?_ ⟨pre ++ [x], post, by simp [hpp], rfl, ?_, ?_⟩
        · (simp only [go_sem, Nat.reduceAdd, Nat.reduceEqDiff, reduceIte, go_sem, and_self, and_true, true_and, implies_true, List.take_succ_cons, List.take_zero, and_true, true_and, hab1]; try omega)
        · (simp only [go_sem, Nat.reduceAdd, Nat.reduceEqDiff, reduceIte, go_sem, and_self, and_true, true_and, implies_true, List.take_succ_cons, List.take_zero, and_true, true_and, hab1]; try omega)
        · simp [go_sem]
        · rw [hfin]; simp
  · obtain ⟨rfl, rfl⟩ := nilOf hpp (by omega)
    repeat (first | (with_reducible first | refine SW.seq ?_ | refine SW.block ?_ | refine SW.rowC ?_ | refine SW.skip ?_ | refine SW.exit ?_ | intro _ | refine And.intro (by omega) ?_) | simp (config := { maxSteps := 1000000 }) (disch := (first | omega | (simp only [go_sem]; try omega))) only [go_sem, Nat.reduceAdd, Nat.reduceEqDiff, Nat.reduceLeDiff, Nat.reduceMul, Nat.reduceLT, reduceIte, Int.reduceToNat, w64_id, cast_succ, hav])
    refine SW.ret ?_; (try simp only [go_sem]); (first | refine FunPost.one ?_ | refine FunPost.two ?_ | refine FunPost.three ?_); (try simp (config := { maxSteps := 1000000 }) (disch := (first | omega | (simp only [go_sem]; try omega))) only [go_sem, Nat.reduceAdd, Nat.reduceEqDiff, Nat.reduceLeDiff, Nat.reduceMul, Nat.reduceLT, reduceIte, Int.reduceToNat, w64_id, cast_succ])
    rw [← hil]
    exact GR.froz (froz_rowI (ver := (isort pre).length) (ty := 2) (Nat.le_refl _) (by simp)) ⟨rfl, rfl⟩
end Go.Proofs.Ytmdeibdplpodpaa
