/- Covering pairs: the program. -/
import Derived.Test.YthogadbnddmkdaaProg
import Derived.KernelRfl
import Derived.Test.YthogadbnddmkdaazTN
import Derived.Test.YthogadbnddmkdaazG1
set_option linter.unusedSimpArgs false
set_option linter.unusedVariables false
set_option maxHeartbeats 4000000
set_option maxRecDepth 100000
namespace Go.Proofs.Ythogadbnddmkdaa
open Go.Av
abbrev f_impl_CoverPairs : Nat := 12
def c_impl_CoverPairs : SC :=
 .seq (.reg [
     ⟨(some 4), .alloc 27 [(.int .i64 0), (.int .i64 0), (.slice none 0 0)], none⟩,
     ⟨(some 5), .mv (.const (.int .i64 0)), none⟩] [0, 1, 4])
 (.seq (.seq (.reg [
     ⟨(some 10), .mv (.tmp 0), none⟩,
     ⟨(some 11), .mv (.tmp 1), none⟩,
     ⟨(some 12), .call 45 [(.tmp 10), (.tmp 11)], none⟩,
     ⟨(some 13), .un .not (.tmp 12), none⟩,
     ⟨(some 14), .mv (.tmp 13), none⟩,
     ⟨(some 15), .mv (.tmp 1), (some (14, false))⟩,
     ⟨(some 16), .bin .lss (.tmp 15) (.const (.int .i64 2)), (some (14, false))⟩,
     ⟨(some 17), .pick (.tmp 14) (.const (.bool true)) (.tmp 16), none⟩] [0, 1, 4, 17])
 (.cond (.tmp 17)
  (.seq (.reg [
      ⟨(some 18), .build [(.int .i64 0), (.int .i64 0), (.slice none 0 0)] [], none⟩,
      ⟨none, .store 3 (.tmp 4) (.tmp 18), none⟩,
      ⟨(some 5), .mv (.const (.int .i64 2)), none⟩] [4, 5])
  (.ret))
  (.skip)))
 (.seq (.reg [
     ⟨(some 19), .mv (.tmp 0), none⟩,
     ⟨(some 20), .mv (.tmp 1), none⟩,
     ⟨(some 21), .build [(.int .i64 0), (.int .i64 0), (.slice none 0 0)] [(0, 1, (.tmp 19)), (1, 1, (.tmp 20))], none⟩,
     ⟨(some 6), .alloc 27 [(.int .i64 0), (.int .i64 0), (.slice none 0 0)], none⟩,
     ⟨none, .store 3 (.tmp 6) (.tmp 21), none⟩] [0, 1, 4, 6])
 (.seq (.reg [
     ⟨(some 22), .mv (.tmp 0), none⟩,
     ⟨(some 23), .mv (.tmp 1), none⟩,
     ⟨(some 24), .call 46 [(.tmp 22), (.tmp 23)], none⟩,
     ⟨(some 7), .mv (.tmp 24), none⟩] [4, 6, 7])
 (.seq (.seq (.reg [
     ⟨(some 25), .mv (.tmp 7), none⟩,
     ⟨(some 26), .call 47 [(.tmp 25)], none⟩,
     ⟨(some 8), .mv (.tmp 26), none⟩] [4, 6, 7, 8])
 (.block 0 (.loop [4, 6, 7, 8]
   (.seq (.seq (.reg [
       ⟨(some 27), .mv (.tmp 8), none⟩,
       ⟨(some 28), .len (.tmp 27), none⟩,
       ⟨(some 29), .bin .gtr (.tmp 28) (.const (.int .i64 0)), none⟩] [4, 6, 7, 8, 29])
   (.cond (.tmp 29)
    (.skip)
    (.exit 0)))
   (.seq (.block 1 (.seq (.seq (.reg [
        ⟨(some 32), .faddr 2 (.tmp 6), none⟩,
        ⟨(some 33), .load 1 false (.tmp 32), none⟩,
        ⟨(some 34), .len (.tmp 33), none⟩,
        ⟨(some 35), .bin .eql (.tmp 34) (.const (.int .i64 256)), none⟩] [4, 6, 7, 8, 35])
    (.cond (.tmp 35)
     (.seq (.reg [
         ⟨(some 36), .build [(.int .i64 0), (.int .i64 0), (.slice none 0 0)] [], none⟩,
         ⟨none, .store 3 (.tmp 4) (.tmp 36), none⟩,
         ⟨(some 5), .mv (.const (.int .i64 5)), none⟩] [4, 5])
     (.ret))
     (.skip)))
    (.seq (.reg [
        ⟨(some 37), .mv (.tmp 7), none⟩,
        ⟨(some 38), .mv (.tmp 8), none⟩,
        ⟨(some 39), .iaddr 4 (.tmp 38) (.const (.int .i64 0)), none⟩,
        ⟨(some 40), .load 4 true (.tmp 39), none⟩,
        ⟨(some 41), .call 48 [(.tmp 37), (.tmp 40)], none⟩,
        ⟨(some 9), .mv (.tmp 41), none⟩] [4, 6, 7, 9])
    (.seq (.reg [
        ⟨(some 42), .mv (.tmp 7), none⟩,
        ⟨(some 43), .mv (.tmp 9), none⟩,
        ⟨(some 44), .call 49 [(.tmp 42), (.tmp 43)], none⟩] [4, 6, 7, 9])
    (.reg [
        ⟨(some 45), .faddr 2 (.tmp 6), none⟩,
        ⟨(some 46), .load 1 false (.tmp 45), none⟩,
        ⟨(some 47), .mv (.tmp 9), none⟩,
        ⟨(some 48), .bslice 39 1 1 [(.slice none 0 0)] [(0, (.tmp 47))], none⟩,
        ⟨(some 49), .app 39 1 24 (.tmp 46) (.tmp 48), none⟩,
        ⟨(some 50), .faddr 2 (.tmp 6), none⟩,
        ⟨none, .store 1 (.tmp 50) (.tmp 49), none⟩] [4, 6, 7])))))
   (.reg [
       ⟨(some 30), .mv (.tmp 7), none⟩,
       ⟨(some 31), .call 47 [(.tmp 30)], none⟩,
       ⟨(some 8), .mv (.tmp 31), none⟩] [4, 6, 7, 8]))))))
 (.seq (.reg [
     ⟨(some 51), .load 3 true (.tmp 6), none⟩,
     ⟨none, .store 3 (.tmp 4) (.tmp 51), none⟩,
     ⟨(some 5), .mv (.const (.int .i64 0)), none⟩] [4, 5])
 (.ret))))))
theorem s_impl_CoverPairs : stripF Try.prog 12 [[0, 1, 4], [0, 1, 4, 17], [4, 5], [0, 1, 4, 6], [4, 6, 7], [4, 6, 7, 8], [4, 6, 7, 8], [4, 6, 7, 8, 29], [4, 6, 7, 8, 35], [4, 5], [4, 6, 7, 9], [4, 6, 7, 9], [4, 6, 7], [4, 6, 7, 8], [4, 5]] = some (c_impl_CoverPairs, [.cell 4 3, .tmp 5], 52) := by kernel_rfl
abbrev tyArr4 : Nat := 80
def FArr (P : Program) (f : FuncId) (args : List AV) (L C : Int) (rows : List (List Int)) (code : Int) : Prop :=
  ∀ H, ACalls P f args H fun r H' => ∃ ext v, H' = H ++ ext ∧ r = .tup [.agg [I L, I C, v], I code] ∧ OwnSS H' (Btw H.length H'.length) v rows
theorem getAppF {H : List Blk} {p : Nat} {b : Blk} (h : H[p]? = some b) (ext : List Blk) : (H ++ ext)[p]? = some b := by
  rw [List.getElem?_append_left (List.getElem?_eq_some_iff.1 h).1]; exact h
theorem view_nm4 {H : List Blk} {r ver ty n : Nat} {cells : List AV} (h : H[r]? = some ⟨ver, ty, 4, cells⟩) (hn : cells.length = n * 4) : aview H (.nm r ver 0 n) = some (n, cells) := by
  simp only [aview, h, if_true, List.drop_zero]
  rw [← hn, List.take_length]
theorem implCover_fa (l c : Int) : FArr Try.prog f_impl_CoverPairs [I l, I c] (cpV l c).1 (cpV l c).2.1 (cpV l c).2.2.1 (cpV l c).2.2.2 := by
  have hs := isShape_fn l c
  unfold cpV
  intro H
  cases hb : shapeOk l c
  · rw [hb] at hs
    simp only [Bool.false_and, Bool.false_eq_true, if_false]
    refine ACalls.introB s_impl_CoverPairs (by simp) ?_; intro hB hA; unfold c_impl_CoverPairs; simp (config := { maxSteps := 1000000 }) (disch := (first | omega | (simp only [go_sem]; try omega))) only [go_sem, Nat.reduceAdd, Nat.reduceEqDiff, Nat.reduceLeDiff, Nat.reduceMul, Nat.reduceLT, reduceIte, Int.reduceToNat, w64_id, cast_succ]
    repeat (first | (with_reducible first | refine SW.seq ?_ | refine SW.block ?_ | refine SW.rowC ?_ | refine SW.skip ?_ | refine SW.exit ?_ | refine PFn.use (hs) ?_ | refine PFn.useq (hs) ?_ | intro _ | refine And.intro (by omega) ?_) | simp (config := { maxSteps := 1000000 }) (disch := (first | omega | (simp only [go_sem]; try omega))) only [go_sem, Nat.reduceAdd, Nat.reduceEqDiff, Nat.reduceLeDiff, Nat.reduceMul, Nat.reduceLT, reduceIte, Int.reduceToNat, w64_id, cast_succ])
    refine SW.condT rfl ?_
    repeat (first | (with_reducible first | refine SW.seq ?_ | refine SW.block ?_ | refine SW.rowC ?_ | refine SW.skip ?_ | refine SW.exit ?_ | intro _ | refine And.intro (by omega) ?_) | simp (config := { maxSteps := 1000000 }) (disch := (first | omega | (simp only [go_sem]; try omega))) only [go_sem, Nat.reduceAdd, Nat.reduceEqDiff, Nat.reduceLeDiff, Nat.reduceMul, Nat.reduceLT, reduceIte, Int.reduceToNat, w64_id, cast_succ])
    refine SW.ret ?_
    refine FunPost.cell_tmp (cs := [I 0, I 0, nilS]) (by simp (config := { maxSteps := 1000000 }) (disch := (first | omega | (simp only [go_sem]; try omega))) only [go_sem, Nat.reduceAdd, Nat.reduceEqDiff, Nat.reduceLeDiff, Nat.reduceMul, Nat.reduceLT, reduceIte, Int.reduceToNat, w64_id, cast_succ]) (GR.of ⟨_, nilS, rfl, rfl, .inr ⟨rfl, .inl rfl⟩⟩)
  rw [hb] at hs
  by_cases h2 : 2 ≤ c
  rotate_left
  · have d2 : decide (2 ≤ c) = false := decide_eq_false h2
    have d3 : decide (c < 2) = true := decide_eq_true (by omega)
    rw [d2]
    simp only [Bool.and_false, Bool.false_eq_true, if_false]
    refine ACalls.introB s_impl_CoverPairs (by simp) ?_; intro hB hA; unfold c_impl_CoverPairs; simp (config := { maxSteps := 1000000 }) (disch := (first | omega | (simp only [go_sem]; try omega))) only [go_sem, Nat.reduceAdd, Nat.reduceEqDiff, Nat.reduceLeDiff, Nat.reduceMul, Nat.reduceLT, reduceIte, Int.reduceToNat, w64_id, cast_succ]
    repeat (first | (with_reducible first | refine SW.seq ?_ | refine SW.block ?_ | refine SW.rowC ?_ | refine SW.skip ?_ | refine SW.exit ?_ | refine PFn.use (hs) ?_ | refine PFn.useq (hs) ?_ | intro _ | refine And.intro (by omega) ?_) | simp (config := { maxSteps := 1000000 }) (disch := (first | omega | (simp only [go_sem]; try omega))) only [go_sem, Nat.reduceAdd, Nat.reduceEqDiff, Nat.reduceLeDiff, Nat.reduceMul, Nat.reduceLT, reduceIte, Int.reduceToNat, w64_id, cast_succ, d3])
    refine SW.condT rfl ?_
    repeat (first | (with_reducible first | refine SW.seq ?_ | refine SW.block ?_ | refine SW.rowC ?_ | refine SW.skip ?_ | refine SW.exit ?_ | intro _ | refine And.intro (by omega) ?_) | simp (config := { maxSteps := 1000000 }) (disch := (first | omega | (simp only [go_sem]; try omega))) only [go_sem, Nat.reduceAdd, Nat.reduceEqDiff, Nat.reduceLeDiff, Nat.reduceMul, Nat.reduceLT, reduceIte, Int.reduceToNat, w64_id, cast_succ])
    refine SW.ret ?_
    refine FunPost.cell_tmp (cs := [I 0, I 0, nilS]) (by simp (config := { maxSteps := 1000000 }) (disch := (first | omega | (simp only [go_sem]; try omega))) only [go_sem, Nat.reduceAdd, Nat.reduceEqDiff, Nat.reduceLeDiff, Nat.reduceMul, Nat.reduceLT, reduceIte, Int.reduceToNat, w64_id, cast_succ]) (GR.of ⟨_, nilS, rfl, rfl, .inr ⟨rfl, .inl rfl⟩⟩)
  have d2 : decide (2 ≤ c) = true := decide_eq_true h2
  have d3 : decide (c < 2) = false := decide_eq_false (by omega)
  rw [d2]
  simp only [Bool.and_self, if_true]
  obtain ⟨p1, p2, p3, p4⟩ := shapeOk_iff.1 hb
  obtain ⟨l, rfl⟩ := Int.eq_ofNat_of_zero_le (show 0 ≤ l by omega)
  obtain ⟨c, rfl⟩ := Int.eq_ofNat_of_zero_le (show 0 ≤ c by omega)
  simp only [Int.toNat_natCast]
  refine ACalls.introB s_impl_CoverPairs (by simp) ?_; intro hB hA; unfold c_impl_CoverPairs; simp (config := { maxSteps := 1000000 }) (disch := (first | omega | (simp only [go_sem]; try omega))) only [go_sem, Nat.reduceAdd, Nat.reduceEqDiff, Nat.reduceLeDiff, Nat.reduceMul, Nat.reduceLT, reduceIte, Int.reduceToNat, w64_id, cast_succ]
  repeat (first | (with_reducible first | refine SW.seq ?_ | refine SW.block ?_ | refine SW.rowC ?_ | refine SW.skip ?_ | refine SW.exit ?_ | refine PFn.use (hs) ?_ | refine PFn.useq (hs) ?_ | intro _ | refine And.intro (by omega) ?_) | simp (config := { maxSteps := 1000000 }) (disch := (first | omega | (simp only [go_sem]; try omega))) only [go_sem, Nat.reduceAdd, Nat.reduceEqDiff, Nat.reduceLeDiff, Nat.reduceMul, Nat.reduceLT, reduceIte, Int.reduceToNat, w64_id, cast_succ, d3])
  refine SW.condF rfl ?_
  repeat (first | (with_reducible first | refine SW.seq ?_ | refine SW.block ?_ | refine SW.rowC ?_ | refine SW.skip ?_ | refine SW.exit ?_ | intro _ | refine And.intro (by omega) ?_) | simp (config := { maxSteps := 1000000 }) (disch := (first | omega | (simp only [go_sem]; try omega))) only [go_sem, Nat.reduceAdd, Nat.reduceEqDiff, Nat.reduceLeDiff, Nat.reduceMul, Nat.reduceLT, reduceIte, Int.reduceToNat, w64_id, cast_succ])
  refine (newCover_ok _ l c (by omega) (by omega)).mono ?_
  rintro r H1 ⟨rfl, rfl⟩
  repeat (first | (with_reducible first | refine SW.seq ?_ | refine SW.block ?_ | refine SW.rowC ?_ | refine SW.skip ?_ | refine SW.exit ?_ | intro _ | refine And.intro (by omega) ?_) | simp (config := { maxSteps := 1000000 }) (disch := (first | omega | (simp only [go_sem]; try omega))) only [go_sem, Nat.reduceAdd, Nat.reduceEqDiff, Nat.reduceLeDiff, Nat.reduceMul, Nat.reduceLT, reduceIte, Int.reduceToNat, w64_id, cast_succ])
  rw [show H.length + 2 + 1 = H.length + 3 from rfl]
  have hop := open_ok (H ++ [⟨0, tyArr, 1, [I 0, I 0, nilS]⟩, ⟨0, tyArr, 1, [I l, I c, nilS]⟩, ⟨0, 4, 1, (marks (c * c * l * l) []).map Bv⟩, ⟨0, tyK, 1, [I l, I c, .nm (H.length + 2) 0 0 (c * c * l * l)]⟩]) (H.length + 3) (H.length + 2) l c [] (by omega) (by omega) (by rw [List.getElem?_append_right (by omega), Nat.add_sub_cancel_left]; rfl) (by rw [List.getElem?_append_right (by omega), Nat.add_sub_cancel_left]; rfl)
  refine hop.mono ?_
  rintro r H1 ⟨ver, k, ext, rfl, rfl, hk, hkb⟩
  have hk' : H.length + 4 ≤ k := by simpa using hk
  have hge : ∀ j b, j < 4 → [(⟨0, tyArr, 1, [I 0, I 0, nilS]⟩ : Blk), ⟨0, tyArr, 1, [I l, I c, nilS]⟩, ⟨0, 4, 1, (marks (c * c * l * l) []).map Bv⟩, ⟨0, tyK, 1, [I l, I c, .nm (H.length + 2) 0 0 (c * c * l * l)]⟩][j]? = some b → (H ++ [(⟨0, tyArr, 1, [I 0, I 0, nilS]⟩ : Blk), ⟨0, tyArr, 1, [I l, I c, nilS]⟩, ⟨0, 4, 1, (marks (c * c * l * l) []).map Bv⟩, ⟨0, tyK, 1, [I l, I c, .nm (H.length + 2) 0 0 (c * c * l * l)]⟩] ++ ext)[H.length + j]? = some b := fun j b hj h => by
    rw [List.getElem?_append_left (by simp; omega), List.getElem?_append_right (by omega), Nat.add_sub_cancel_left]; exact h
  have j0 : (H ++ [(⟨0, tyArr, 1, [I 0, I 0, nilS]⟩ : Blk), ⟨0, tyArr, 1, [I l, I c, nilS]⟩, ⟨0, 4, 1, (marks (c * c * l * l) []).map Bv⟩, ⟨0, tyK, 1, [I l, I c, .nm (H.length + 2) 0 0 (c * c * l * l)]⟩] ++ ext)[H.length]? = some ⟨0, tyArr, 1, [I 0, I 0, nilS]⟩ := hge 0 _ (by omega) rfl
  have j1 := hge 1 _ (by omega) rfl
  have j2 : (H ++ [(⟨0, tyArr, 1, [I 0, I 0, nilS]⟩ : Blk), ⟨0, tyArr, 1, [I l, I c, nilS]⟩, ⟨0, 4, 1, (marks (c * c * l * l) []).map Bv⟩, ⟨0, tyK, 1, [I l, I c, .nm (H.length + 2) 0 0 (c * c * l * l)]⟩] ++ ext)[H.length + 2]? = some (bB (c * c * l * l) [] 0) := hge 2 _ (by omega) rfl
  have j3 := hge 3 _ (by omega) rfl
  have j4 : H.length + 4 ≤ (H ++ [(⟨0, tyArr, 1, [I 0, I 0, nilS]⟩ : Blk), ⟨0, tyArr, 1, [I l, I c, nilS]⟩, ⟨0, 4, 1, (marks (c * c * l * l) []).map Bv⟩, ⟨0, tyK, 1, [I l, I c, .nm (H.length + 2) 0 0 (c * c * l * l)]⟩] ++ ext).length := by simp only [List.length_append, List.length_cons, List.length_nil]; omega
  have j5 : ∀ j, j < H.length → (H ++ [(⟨0, tyArr, 1, [I 0, I 0, nilS]⟩ : Blk), ⟨0, tyArr, 1, [I l, I c, nilS]⟩, ⟨0, 4, 1, (marks (c * c * l * l) []).map Bv⟩, ⟨0, tyK, 1, [I l, I c, .nm (H.length + 2) 0 0 (c * c * l * l)]⟩] ++ ext)[j]? = H[j]? := fun j hj => by rw [List.getElem?_append_left (by simp; omega), List.getElem?_append_left hj]
  clear hge hop hk
  generalize H ++ [(⟨0, tyArr, 1, [I 0, I 0, nilS]⟩ : Blk), ⟨0, tyArr, 1, [I l, I c, nilS]⟩, ⟨0, 4, 1, (marks (c * c * l * l) []).map Bv⟩, ⟨0, tyK, 1, [I l, I c, .nm (H.length + 2) 0 0 (c * c * l * l)]⟩] ++ ext = H1 at *
  repeat (first | (with_reducible first | refine SW.seq ?_ | refine SW.block ?_ | refine SW.rowC ?_ | refine SW.skip ?_ | refine SW.exit ?_ | intro _ | refine And.intro (by omega) ?_) | simp (config := { maxSteps := 1000000 }) (disch := (first | omega | (simp only [go_sem]; try omega))) only [go_sem, Nat.reduceAdd, Nat.reduceEqDiff, Nat.reduceLeDiff, Nat.reduceMul, Nat.reduceLT, reduceIte, Int.reduceToNat, w64_id, cast_succ])
  refine SW.loopE (fun E0 H0 q E' H' => ∃ (f : Nat) (m : List Int) (rows : List (List Int)) (v : AV) (k ver : Nat), q = f ∧ rows.length + f = 257 ∧ rows.length ≤ 256 ∧ E' = aput E0 8 (.nm k ver 0 (opAll l c (inP l c m)).length) ∧ grd l c 257 [] [] = grd l c f m rows ∧
      H'[H.length + 1]? = some ⟨0, tyArr, 1, [I l, I c, v]⟩ ∧ H'[H.length + 2]? = some (bB (c * c * l * l) m 0) ∧ H'[H.length + 3]? = some ⟨0, tyK, 1, [I l, I c, .nm (H.length + 2) 0 0 (c * c * l * l)]⟩ ∧ GrowSS H' (H.length + 4) tyLL v rows ∧ H.length + 4 ≤ H'.length ∧ H'[H.length]? = some ⟨0, tyArr, 1, [I 0, I 0, nilS]⟩ ∧ (∀ j, j < H.length → H'[j]? = H[j]?) ∧ H'[k]? = some ⟨ver, tyArr4, 4, (opAll l c (inP l c m)).flatten.map I⟩) 257
    ⟨257, [], [], nilS, k, ver, rfl, rfl, by simp, rfl, rfl, j1, j2, j3, .inl ⟨rfl, rfl⟩, j4, j0, j5, hkb⟩ ?_
  clear hkb hk' j0 j1 j2 j3 j4 j5
  rintro q E' H2 ⟨f, m, rows, v, k, ver, rfl, hrf, hr6, rfl, hgr, i1, i2, i3, i4, i5, i6, i7, i8⟩
  obtain ⟨q, rfl⟩ : ∃ q', q = q' + 1 := ⟨q - 1, by omega⟩
  rw [hgr]
  have hq4 : ∀ q ∈ opAll l c (inP l c m), q.length = 4 := opTo_4 l c _ c
  have hmem := fun q (h : q ∈ opAll l c (inP l c m)) => opAll_mem h
  simp (config := { maxSteps := 1000000 }) (disch := (first | omega | (simp only [go_sem]; try omega))) only [go_sem, Nat.reduceAdd, Nat.reduceEqDiff, Nat.reduceLeDiff, Nat.reduceMul, Nat.reduceLT, reduceIte, Int.reduceToNat, w64_id, cast_succ]
  repeat (first | (with_reducible first | refine SW.seq ?_ | refine SW.block ?_ | refine SW.rowC ?_ | refine SW.skip ?_ | refine SW.exit ?_ | intro _ | refine And.intro (by omega) ?_) | simp (config := { maxSteps := 1000000 }) (disch := (first | omega | (simp only [go_sem]; try omega))) only [go_sem, Nat.reduceAdd, Nat.reduceEqDiff, Nat.reduceLeDiff, Nat.reduceMul, Nat.reduceLT, reduceIte, Int.reduceToNat, w64_id, cast_succ])
  cases hL : opAll l c (inP l c m) with
  | nil =>
    rw [hL] at i8
    have hva : aview H2 (.nm k ver 0 0) = some (0, []) := view_nm4 i8 rfl
    have e1 := pc_lds (off := 0) (n := 3) i1 (by simp)
    have e2 := pc_st (off := 0) (cs := [I l, I c, v]) i6 (by simp)
    repeat (first | (with_reducible first | refine SW.seq ?_ | refine SW.block ?_ | refine SW.rowC ?_ | refine SW.skip ?_ | refine SW.exit ?_ | intro _ | refine And.intro (by omega) ?_) | simp (config := { maxSteps := 1000000 }) (disch := (first | omega | (simp only [go_sem]; try omega))) only [go_sem, Nat.reduceAdd, Nat.reduceEqDiff, Nat.reduceLeDiff, Nat.reduceMul, Nat.reduceLT, reduceIte, Int.reduceToNat, w64_id, cast_succ, hva])
    refine SW.condF rfl ?_
    rw [grd_done hL]
    repeat (first | (with_reducible first | refine SW.seq ?_ | refine SW.block ?_ | refine SW.rowC ?_ | refine SW.skip ?_ | refine SW.exit ?_ | intro _ | refine And.intro (by omega) ?_) | simp (config := { maxSteps := 1000000 }) (disch := (first | omega | (simp only [go_sem]; try omega))) only [go_sem, Nat.reduceAdd, Nat.reduceEqDiff, Nat.reduceLeDiff, Nat.reduceMul, Nat.reduceLT, reduceIte, Int.reduceToNat, w64_id, cast_succ, hva, e1, i4.parts, i4.cell1])
    rw [e2]
    repeat (first | (with_reducible first | refine SW.seq ?_ | refine SW.block ?_ | refine SW.rowC ?_ | refine SW.skip ?_ | refine SW.exit ?_ | intro _ | refine And.intro (by omega) ?_) | simp (config := { maxSteps := 1000000 }) (disch := (first | omega | (simp only [go_sem]; try omega))) only [go_sem, Nat.reduceAdd, Nat.reduceEqDiff, Nat.reduceLeDiff, Nat.reduceMul, Nat.reduceLT, reduceIte, Int.reduceToNat, w64_id, cast_succ])
    refine SW.ret ?_
    have hlt1 : H.length < H2.length := (List.getElem?_eq_some_iff.1 i6).1
    obtain ⟨ext, he⟩ := prefix_of (H := H) (H' := H2.set H.length ⟨0, tyArr, 1, [I l, I c, v]⟩) (by simp; omega) (fun j hj => by rw [List.getElem?_set_ne (by omega), i7 j hj])
    refine FunPost.cell_tmp (cs := [I l, I c, v]) (pc_lds (p := H.length) (ver := 0) (ty := tyArr) (sz := 1) (off := 0) (n := 3) (cells := [I l, I c, v]) (List.getElem?_set_self hlt1) (by simp)) (GR.of ⟨ext, v, he, rfl, ?_⟩)
    have := (i4.same (H' := H2.set H.length ⟨0, tyArr, 1, [I l, I c, v]⟩) (fun j b h1 h2 => by rw [List.getElem?_set_ne (by omega)]; exact h2)).own (b := H.length) (by omega)
    exact this
  | cons Q t =>
    obtain ⟨x, y, a, b, hxy, hy, ha, hb2, rfl⟩ := hmem Q (by rw [hL]; simp)
    rw [hL] at i8
    have hqn : ([(x : Int), y, a, b] :: t).flatten.length = ([(x : Int), y, a, b] :: t).length * 4 := flat4 (by rw [← hL]; exact hq4)
    have hva : aview H2 (.nm k ver 0 (t.length + 1)) = some (t.length + 1, I x :: I y :: I a :: I b :: t.flatten.map I) := by
      refine view_nm4 i8 ?_
      have : (([(x : Int), y, a, b] :: t).flatten.map I).length = ([(x : Int), y, a, b] :: t).length * 4 := by rw [List.length_map, hqn]
      simpa using this
    have hac : acells H2 4 (.el (.nm k ver 0 (t.length + 1)) 0) = some [I x, I y, I a, I b] := by
      simp [acells, hva]
    have m1 := fun (o : Nat) => pc_alive (off := o) i1
    have m2 := fun (o : Nat) => pc_ld (off := o) i1
    have dlen : decide ((0 : Int) < ((t.length + 1 : Nat) : Int)) = true := decide_eq_true (by omega)
    have ca := i4.cell1
    have hvv : ∃ cells, aview H2 v = some (rows.length, cells) := by
      rcases i4 with ⟨rfl, rfl⟩ | ⟨t2, ver2, cells, rfl, hc⟩
      · exact ⟨[], rfl⟩
      · exact ⟨cells, view_nm hc.2.1 hc.2.2.1⟩
    obtain ⟨cells, hvv⟩ := hvv
    repeat (first | (with_reducible first | refine SW.seq ?_ | refine SW.block ?_ | refine SW.rowC ?_ | refine SW.skip ?_ | refine SW.exit ?_ | intro _ | refine And.intro (by omega) ?_) | simp (config := { maxSteps := 1000000 }) (disch := (first | omega | (simp only [go_sem]; try omega))) only [go_sem, Nat.reduceAdd, Nat.reduceEqDiff, Nat.reduceLeDiff, Nat.reduceMul, Nat.reduceLT, reduceIte, Int.reduceToNat, w64_id, cast_succ, hva, dlen])
    refine SW.condT rfl ?_
    repeat (first | (with_reducible first | refine SW.seq ?_ | refine SW.block ?_ | refine SW.rowC ?_ | refine SW.skip ?_ | refine SW.exit ?_ | intro _ | refine And.intro (by omega) ?_) | simp (config := { maxSteps := 1000000 }) (disch := (first | omega | (simp only [go_sem]; try omega))) only [go_sem, Nat.reduceAdd, Nat.reduceEqDiff, Nat.reduceLeDiff, Nat.reduceMul, Nat.reduceLT, reduceIte, Int.reduceToNat, w64_id, cast_succ, hva, m1, m2, hvv])
    by_cases hfull : rows.length = 256
    · have d5 : decide ((rows.length : Int) = 256) = true := decide_eq_true (by omega)
      rw [d5]
      refine SW.condT rfl ?_
      rw [grd_full hL hfull]
      have e5 := pc_st (off := 0) (cs := [I 0, I 0, nilS]) i6 (by simp)
      repeat (first | (with_reducible first | refine SW.seq ?_ | refine SW.block ?_ | refine SW.rowC ?_ | refine SW.skip ?_ | refine SW.exit ?_ | intro _ | refine And.intro (by omega) ?_) | simp (config := { maxSteps := 1000000 }) (disch := (first | omega | (simp only [go_sem]; try omega))) only [go_sem, Nat.reduceAdd, Nat.reduceEqDiff, Nat.reduceLeDiff, Nat.reduceMul, Nat.reduceLT, reduceIte, Int.reduceToNat, w64_id, cast_succ])
      rw [e5]
      repeat (first | (with_reducible first | refine SW.seq ?_ | refine SW.block ?_ | refine SW.rowC ?_ | refine SW.skip ?_ | refine SW.exit ?_ | intro _ | refine And.intro (by omega) ?_) | simp (config := { maxSteps := 1000000 }) (disch := (first | omega | (simp only [go_sem]; try omega))) only [go_sem, Nat.reduceAdd, Nat.reduceEqDiff, Nat.reduceLeDiff, Nat.reduceMul, Nat.reduceLT, reduceIte, Int.reduceToNat, w64_id, cast_succ])
      refine SW.ret ?_
      have hlt1 : H.length < H2.length := (List.getElem?_eq_some_iff.1 i6).1
      obtain ⟨ext, he⟩ := prefix_of (H := H) (H' := H2.set H.length ⟨0, tyArr, 1, [I 0, I 0, nilS]⟩) (by simp; omega) (fun j hj => by rw [List.getElem?_set_ne (by omega), i7 j hj])
      exact FunPost.cell_tmp (cs := [I 0, I 0, nilS]) (pc_lds (p := H.length) (ver := 0) (ty := tyArr) (sz := 1) (off := 0) (n := 3) (cells := [I 0, I 0, nilS]) (List.getElem?_set_self hlt1) (by simp)) (GR.of ⟨ext, nilS, he, rfl, .inr ⟨rfl, .inl rfl⟩⟩)
    · have d5 : decide ((rows.length : Int) = 256) = false := decide_eq_false (by omega)
      rw [d5]
      refine SW.condF rfl ?_
      rw [grd_step hL hfull]
      repeat (first | (with_reducible first | refine SW.seq ?_ | refine SW.block ?_ | refine SW.rowC ?_ | refine SW.skip ?_ | refine SW.exit ?_ | intro _ | refine And.intro (by omega) ?_) | simp (config := { maxSteps := 1000000 }) (disch := (first | omega | (simp only [go_sem]; try omega))) only [go_sem, Nat.reduceAdd, Nat.reduceEqDiff, Nat.reduceLeDiff, Nat.reduceMul, Nat.reduceLT, reduceIte, Int.reduceToNat, w64_id, cast_succ, hva, hac])
      obtain ⟨w1, w2, -, -⟩ := nextRow_ok (l := l) (m := m) (v := (a : Int)) (w := (b : Int)) (by omega) (by omega) (by omega) hxy hy
      refine (nextR_ok H2 (H.length + 3) (H.length + 2) l c m x y a b (by omega) (by omega) (by omega) hxy hy (by omega) (by omega) i3 i2).mono ?_
      rintro r H3 ⟨ver2, k2, ext2, rfl, hH3, hk2, hkb2⟩
      generalize hrow : nextRow l c m x y a b = row at *
      have hk2l : k2 < H3.length := (List.getElem?_eq_some_iff.1 hkb2).1
      have hold : ∀ j b, H2[j]? = some b → H3[j]? = some b := fun j b h => by rw [hH3]; exact getAppF h _
      have h3l : H2.length ≤ H3.length := by rw [hH3]; simp
      have hpre : ∀ j, j < H.length → H3[j]? = H[j]? := fun j hj => by rw [hH3, List.getElem?_append_left (by omega)]; exact i7 j hj
      have hwv : ∀ z ∈ row, 0 ≤ z ∧ z < (l : Int) := fun z hz => by
        obtain ⟨j, hj, rfl⟩ := List.getElem_of_mem hz
        rw [List.getElem_eq_getD 0]
        exact w2 j (by omega)
      repeat (first | (with_reducible first | refine SW.seq ?_ | refine SW.block ?_ | refine SW.rowC ?_ | refine SW.skip ?_ | refine SW.exit ?_ | intro _ | refine And.intro (by omega) ?_) | simp (config := { maxSteps := 1000000 }) (disch := (first | omega | (simp only [go_sem]; try omega))) only [go_sem, Nat.reduceAdd, Nat.reduceEqDiff, Nat.reduceLeDiff, Nat.reduceMul, Nat.reduceLT, reduceIte, Int.reduceToNat, w64_id, cast_succ])
      refine (add_okA H3 (H.length + 3) (H.length + 2) (.nm k2 ver2 0 c) l c m row (by omega) (by omega) (by omega) hwv (by omega) (hold _ _ i3) (hold _ _ i2) (fun B => by
        rw [w1]
        exact view_nm (ty := 2) (by rw [List.getElem?_set_ne (by omega)]; exact hkb2) (by simp [w1]))).mono ?_
      rintro r H4 rfl
      have hrl : H.length + 2 < H3.length := by omega
      have g1 : (H3.set (H.length + 2) (bB (c * c * l * l) (m ++ codes l c row) 0))[H.length + 1]? = some ⟨0, tyArr, 1, [I l, I c, v]⟩ := by rw [List.getElem?_set_ne (by omega)]; exact hold _ _ i1
      have g2 : (H3.set (H.length + 2) (bB (c * c * l * l) (m ++ codes l c row) 0))[H.length + 2]? = some (bB (c * c * l * l) (m ++ codes l c row) 0) := List.getElem?_set_self hrl
      have g3 : (H3.set (H.length + 2) (bB (c * c * l * l) (m ++ codes l c row) 0))[H.length + 3]? = some ⟨0, tyK, 1, [I l, I c, .nm (H.length + 2) 0 0 (c * c * l * l)]⟩ := by rw [List.getElem?_set_ne (by omega)]; exact hold _ _ i3
      have g6 : (H3.set (H.length + 2) (bB (c * c * l * l) (m ++ codes l c row) 0))[H.length]? = some ⟨0, tyArr, 1, [I 0, I 0, nilS]⟩ := by rw [List.getElem?_set_ne (by omega)]; exact hold _ _ i6
      have g7 : ∀ j, j < H.length → (H3.set (H.length + 2) (bB (c * c * l * l) (m ++ codes l c row) 0))[j]? = H[j]? := fun j hj => by rw [List.getElem?_set_ne (by omega)]; exact hpre j hj
      have g8 : ∀ j b, H.length + 4 ≤ j → H2[j]? = some b → (H3.set (H.length + 2) (bB (c * c * l * l) (m ++ codes l c row) 0))[j]? = some b := fun j b hj h => by rw [List.getElem?_set_ne (by omega)]; exact hold j b h
      have g9 : (H3.set (H.length + 2) (bB (c * c * l * l) (m ++ codes l c row) 0))[k2]? = some ⟨ver2, 2, 1, row.map I⟩ := by rw [List.getElem?_set_ne (by omega)]; exact hkb2
      have g10 : H3.length = (H3.set (H.length + 2) (bB (c * c * l * l) (m ++ codes l c row) 0)).length := by rw [List.length_set]
      generalize H3.set (H.length + 2) (bB (c * c * l * l) (m ++ codes l c row) 0) = H4 at *
      have n1 := fun (o : Nat) => pc_alive (off := o) g1
      have n2 := fun (o : Nat) => pc_ld (off := o) g1
      have n3 := fun l2 (o : Nat) => pc_alive (off := o) (getAppF g1 l2)
      repeat (first | (with_reducible first | refine SW.seq ?_ | refine SW.block ?_ | refine SW.rowC ?_ | refine SW.skip ?_ | refine SW.exit ?_ | intro _ | refine And.intro (by omega) ?_) | simp (config := { maxSteps := 1000000 }) (disch := (first | omega | (simp only [go_sem]; try omega))) only [go_sem, Nat.reduceAdd, Nat.reduceEqDiff, Nat.reduceLeDiff, Nat.reduceMul, Nat.reduceLT, reduceIte, Int.reduceToNat, w64_id, cast_succ, n1, n2, n3])
      refine GrowSS.appG (H1 := H2) (H := H4 ++ [⟨0, tyLL, 1, [.nm k2 ver2 0 c]⟩]) (r := k2) (rv := ver2) (rty := 2) (xs := row) w1.symm i4 i5 hk2 (by omega) (fun j b hj hb => getAppF (g8 j b hj hb) _) (getAppF g9 _) ?_
      intro v3 H5 r1 r2 r3
      have r5 : ∀ j, j < H.length + 4 → H5[j]? = H4[j]? := fun j hj => by rw [r3 j hj, List.getElem?_append_left (by omega)]
      have o1 : H5[H.length + 1]? = some ⟨0, tyArr, 1, [I l, I c, v]⟩ := by rw [r5 _ (by omega)]; exact g1
      have hl5 : H4.length ≤ H5.length := by simp at r2; omega
      repeat (first | (with_reducible first | refine SW.seq ?_ | refine SW.block ?_ | refine SW.rowC ?_ | refine SW.skip ?_ | refine SW.exit ?_ | intro _ | refine And.intro (by omega) ?_) | simp (config := { maxSteps := 1000000 }) (disch := (first | omega | (simp only [go_sem]; try omega))) only [go_sem, Nat.reduceAdd, Nat.reduceEqDiff, Nat.reduceLeDiff, Nat.reduceMul, Nat.reduceLT, reduceIte, Int.reduceToNat, w64_id, cast_succ, pc_alive o1, pc_ld o1, r1.parts, r1.cell1])
      rw [pc_st o1 (by simp), show setMany [I l, I c, v] 2 [v3] = [I l, I c, v3] from rfl]
      have a1l : H.length + 1 < H5.length := by omega
      have b1 : (H5.set (H.length + 1) ⟨0, tyArr, 1, [I l, I c, v3]⟩)[H.length + 1]? = some ⟨0, tyArr, 1, [I l, I c, v3]⟩ := List.getElem?_set_self a1l
      have b2 : (H5.set (H.length + 1) ⟨0, tyArr, 1, [I l, I c, v3]⟩)[H.length + 2]? = some (bB (c * c * l * l) (m ++ codes l c row) 0) := by rw [List.getElem?_set_ne (by omega), r5 _ (by omega)]; exact g2
      have b3 : (H5.set (H.length + 1) ⟨0, tyArr, 1, [I l, I c, v3]⟩)[H.length + 3]? = some ⟨0, tyK, 1, [I l, I c, .nm (H.length + 2) 0 0 (c * c * l * l)]⟩ := by rw [List.getElem?_set_ne (by omega), r5 _ (by omega)]; exact g3
      have b6 : (H5.set (H.length + 1) ⟨0, tyArr, 1, [I l, I c, v3]⟩)[H.length]? = some ⟨0, tyArr, 1, [I 0, I 0, nilS]⟩ := by rw [List.getElem?_set_ne (by omega), r5 _ (by omega)]; exact g6
      have b7 : ∀ j, j < H.length → (H5.set (H.length + 1) ⟨0, tyArr, 1, [I l, I c, v3]⟩)[j]? = H[j]? := fun j hj => by rw [List.getElem?_set_ne (by omega), r5 _ (by omega)]; exact g7 j hj
      have b4 := r1.same (H' := H5.set (H.length + 1) ⟨0, tyArr, 1, [I l, I c, v3]⟩) (fun j b h1 h2 => by rw [List.getElem?_set_ne (by omega)]; exact h2)
      have b5 : H.length + 4 ≤ (H5.set (H.length + 1) ⟨0, tyArr, 1, [I l, I c, v3]⟩).length := by rw [List.length_set]; omega
      generalize H5.set (H.length + 1) ⟨0, tyArr, 1, [I l, I c, v3]⟩ = H6 at *
      repeat (first | (with_reducible first | refine SW.seq ?_ | refine SW.block ?_ | refine SW.rowC ?_ | refine SW.skip ?_ | refine SW.exit ?_ | intro _ | refine And.intro (by omega) ?_) | simp (config := { maxSteps := 1000000 }) (disch := (first | omega | (simp only [go_sem]; try omega))) only [go_sem, Nat.reduceAdd, Nat.reduceEqDiff, Nat.reduceLeDiff, Nat.reduceMul, Nat.reduceLT, reduceIte, Int.reduceToNat, w64_id, cast_succ])
      refine (open_ok H6 (H.length + 3) (H.length + 2) l c (m ++ codes l c row) (by omega) (by omega) b3 b2).mono ?_
      rintro r H7 ⟨ver3, k3, ext3, rfl, hH7, hk3, hkb3⟩
      have hold7 : ∀ j b, H6[j]? = some b → H7[j]? = some b := fun j b h => by rw [hH7]; exact getAppF h _
      repeat (first | (with_reducible first | refine SW.seq ?_ | refine SW.block ?_ | refine SW.rowC ?_ | refine SW.skip ?_ | refine SW.exit ?_ | intro _ | refine And.intro (by omega) ?_) | simp (config := { maxSteps := 1000000 }) (disch := (first | omega | (simp only [go_sem]; try omega))) only [go_sem, Nat.reduceAdd, Nat.reduceEqDiff, Nat.reduceLeDiff, Nat.reduceMul, Nat.reduceLT, reduceIte, Int.reduceToNat, w64_id, cast_succ])
      refine SLoop.next q (by omega) ⟨q, m ++ codes l c row, rows ++ [row], v3, k3, ver3, rfl, by simp; omega, by simp; omega, rfl, rfl, hold7 _ _ b1, hold7 _ _ b2, hold7 _ _ b3, b4.same (fun j b _ h => hold7 j b h), by rw [hH7, List.length_append]; omega, hold7 _ _ b6, fun j hj => by rw [hH7, List.getElem?_append_left (by omega)]; exact b7 j hj, hkb3⟩
end Go.Proofs.Ythogadbnddmkdaa
