/- Pairs of points: how many blocks hold them. -/
import Derived.Test.YtflnjgeoegofdaaProg
import Derived.KernelRfl
import Derived.Test.YtflnjgeoegofdaazK19
import Derived.Test.YtflnjgeoegofdaazK10
set_option linter.unusedSimpArgs false
set_option linter.unusedVariables false
set_option maxHeartbeats 4000000
set_option maxRecDepth 100000
namespace Go.Proofs.Ytflnjgeoegofdaa
open Go.Av
abbrev f_impl_filledSquare : Nat := 20
def c_impl_filledSquare : SC :=
 .seq (.reg [
     ⟨(some 4), .mv (.const (.slice none 0 0)), none⟩] [0, 1])
 (.seq (.reg [
     ⟨(some 5), .mv (.const (.slice none 0 0)), none⟩] [0, 1, 5])
 (.seq (.seq (.reg [
     ⟨(some 6), .mv (.const (.int .i64 0)), none⟩] [0, 1, 5, 6])
 (.block 0 (.loop [0, 1, 5, 6]
   (.seq (.seq (.reg [
       ⟨(some 9), .mv (.tmp 6), none⟩,
       ⟨(some 10), .mv (.tmp 0), none⟩,
       ⟨(some 11), .bin .lss (.tmp 9) (.tmp 10), none⟩] [0, 1, 5, 6, 11])
   (.cond (.tmp 11)
    (.skip)
    (.exit 0)))
   (.seq (.block 1 (.seq (.reg [
        ⟨(some 7), .mv (.const (.slice none 0 0)), none⟩] [0, 1, 5, 6, 7])
    (.seq (.seq (.reg [
        ⟨(some 8), .mv (.const (.int .i64 0)), none⟩] [0, 1, 5, 6, 7, 8])
    (.block 2 (.loop [0, 1, 5, 6, 7, 8]
      (.seq (.seq (.reg [
          ⟨(some 14), .mv (.tmp 8), none⟩,
          ⟨(some 15), .mv (.tmp 0), none⟩,
          ⟨(some 16), .bin .lss (.tmp 14) (.tmp 15), none⟩] [0, 1, 5, 6, 7, 8, 16])
      (.cond (.tmp 16)
       (.skip)
       (.exit 2)))
      (.seq (.block 3 (.reg [
           ⟨(some 19), .mv (.tmp 7), none⟩,
           ⟨(some 20), .mv (.tmp 1), none⟩,
           ⟨(some 21), .mv (.tmp 6), none⟩,
           ⟨(some 22), .mv (.tmp 8), none⟩,
           ⟨(some 23), .callv (.tmp 20) [(.tmp 21), (.tmp 22)], none⟩,
           ⟨(some 24), .bslice 2 1 1 [(.int .i64 0)] [(0, (.tmp 23))], none⟩,
           ⟨(some 25), .app 2 1 8 (.tmp 19) (.tmp 24), none⟩,
           ⟨(some 7), .mv (.tmp 25), none⟩] [0, 1, 5, 6, 7, 8]))
      (.reg [
          ⟨(some 17), .mv (.tmp 8), none⟩,
          ⟨(some 18), .bin .add (.tmp 17) (.const (.int .i64 1)), none⟩,
          ⟨(some 8), .mv (.tmp 18), none⟩] [0, 1, 5, 6, 7, 8]))))))
    (.reg [
        ⟨(some 26), .mv (.tmp 5), none⟩,
        ⟨(some 27), .mv (.tmp 7), none⟩,
        ⟨(some 28), .bslice 30 1 1 [(.slice none 0 0)] [(0, (.tmp 27))], none⟩,
        ⟨(some 29), .app 30 1 24 (.tmp 26) (.tmp 28), none⟩,
        ⟨(some 5), .mv (.tmp 29), none⟩] [0, 1, 5, 6]))))
   (.reg [
       ⟨(some 12), .mv (.tmp 6), none⟩,
       ⟨(some 13), .bin .add (.tmp 12) (.const (.int .i64 1)), none⟩,
       ⟨(some 6), .mv (.tmp 13), none⟩] [0, 1, 5, 6]))))))
 (.seq (.reg [
     ⟨(some 30), .mv (.tmp 5), none⟩,
     ⟨(some 4), .mv (.tmp 30), none⟩] [4])
 (.ret))))
theorem s_impl_filledSquare : stripF Try.prog 20 [[0, 1], [0, 1, 5], [0, 1, 5, 6], [0, 1, 5, 6], [0, 1, 5, 6, 11], [0, 1, 5, 6, 7], [0, 1, 5, 6, 7, 8], [0, 1, 5, 6, 7, 8], [0, 1, 5, 6, 7, 8, 16], [0, 1, 5, 6, 7, 8], [0, 1, 5, 6, 7, 8], [0, 1, 5, 6], [0, 1, 5, 6], [4]] = some (c_impl_filledSquare, [.tmp 4], 31) := by kernel_rfl
def sqF (n : Nat) (f : Nat → Nat → Int) (x : Nat) : List (List Int) := (List.range x).map fun x => tab n (f x)
theorem sqF_succ (n : Nat) (f : Nat → Nat → Int) (x : Nat) : sqF n f (x + 1) = sqF n f x ++ [tab n (f x)] := by simp [sqF, List.range_succ]
theorem sqF_length (n : Nat) (f : Nat → Nat → Int) (x : Nat) : (sqF n f x).length = x := by simp [sqF]
theorem tab_succ (n : Nat) (f : Nat → Int) : tab (n + 1) f = tab n f ++ [f n] := by simp [tab, List.range_succ]
theorem sqB_snoc (v w k : Nat) (xss : List (List Int)) (xs : List Int) : sqB v w k (xss ++ [xs]) = ⟨v, 30, 1, nmsV w (k + 1) xss ++ [.nm (k + 1 + xss.length) w 0 xs.length]⟩ :: (rowsV w xss ++ [⟨w, 2, 1, xs.map I⟩]) := by
  simp [sqB, nmsV_app, rowsV]
theorem getAt {L : List Blk} {j : Nat} (h : L.length = j) (b : Blk) (r : List Blk) : (L ++ b :: r)[j]? = some b := by subst h; simp
theorem setAt {L : List Blk} {j : Nat} (h : L.length = j) (b c : Blk) (r : List Blk) : (L ++ b :: r).set j c = L ++ c :: r := by subst h; simp
theorem filledSquare_ok (H : List Blk) (n : Nat) (hn : n ≤ 1000) (g : Nat) (cs : List AV) (f : Nat → Nat → Int) (hg : callable Try.prog g = true)
    (hf : ∀ (x y : Nat) (ext : List Blk), x < n → y < n → ACalls Try.prog g (I x :: I y :: cs) (H ++ ext) (fun r H' => r = I (f x y) ∧ H' = H ++ ext)) :
    ACalls Try.prog f_impl_filledSquare [I n, .fn g cs] H (fun r H' => r = .nm H.length n 0 n ∧ H' = H ++ sqB n n H.length (sqF n f n)) := by
  refine ACalls.introB s_impl_filledSquare (by simp) ?_; intro hB hA; unfold c_impl_filledSquare; simp (config := { maxSteps := 1000000 }) (disch := (first | omega | (simp only [go_sem]; try omega))) only [go_sem, Nat.reduceAdd, Nat.reduceEqDiff, Nat.reduceLeDiff, Nat.reduceMul, Nat.reduceLT, reduceIte, Int.reduceToNat, w64_id, cast_succ]
  have hcs : ∀ c ∈ cs, Bel H.length c := by
    have := hA (.fn g cs) (by simp)
    rw [Bel_fn] at this; exact this
  have hcs' : ∀ k, ∀ c ∈ cs, Bel (H.length + k) c := fun k c hc => (hcs c hc).mono (by omega)
  repeat (first | (with_reducible first | refine SW.seq ?_ | refine SW.block ?_ | refine SW.rowC ?_ | refine SW.skip ?_ | refine SW.exit ?_ | intro _ | refine And.intro (by omega) ?_) | simp (config := { maxSteps := 1000000 }) (disch := (first | omega | (simp only [go_sem]; try omega))) only [go_sem, Nat.reduceAdd, Nat.reduceEqDiff, Nat.reduceLeDiff, Nat.reduceMul, Nat.reduceLT, reduceIte, Int.reduceToNat, w64_id, cast_succ])
  refine SW.ghost (Gh.name 5 30 1 rfl) ?_
  simp (config := { maxSteps := 1000000 }) (disch := (first | omega | (simp only [go_sem]; try omega))) only [go_sem, Nat.reduceAdd, Nat.reduceEqDiff, Nat.reduceLeDiff, Nat.reduceMul, Nat.reduceLT, reduceIte, Int.reduceToNat, w64_id, cast_succ]
  refine SW.loopE (fun E0 H0 q E' H' => ∃ x : Nat, x ≤ n ∧ q = n - x ∧ E' = aput (aput E0 6 (I x)) 5 (.nm H.length x 0 x) ∧ H' = H ++ sqB x n H.length (sqF n f x)) n ⟨0, by omega, by omega, rfl, rfl⟩ ?_
  rintro q E' H' ⟨x, hx, rfl, rfl, rfl⟩
  have hl := sqF_length n f x
  have hsu := sqF_succ n f x
  generalize hS : sqF n f x = S at *
  have hL := sqB_length x n H.length S
  rw [hl] at hL
  have hbb := sqB_BB (k := H.length) (n := H.length + (x + 1)) (v := x) (w := n) (xss := S) (by omega)
  simp (config := { maxSteps := 1000000 }) (disch := (first | omega | (simp only [go_sem]; try omega))) only [go_sem, Nat.reduceAdd, Nat.reduceEqDiff, Nat.reduceLeDiff, Nat.reduceMul, Nat.reduceLT, reduceIte, Int.reduceToNat, w64_id, cast_succ]
  repeat (first | (with_reducible first | refine SW.seq ?_ | refine SW.block ?_ | refine SW.rowC ?_ | refine SW.skip ?_ | refine SW.exit ?_ | intro _ | refine And.intro (by omega) ?_) | simp (config := { maxSteps := 1000000 }) (disch := (first | omega | (simp only [go_sem]; try omega))) only [go_sem, Nat.reduceAdd, Nat.reduceEqDiff, Nat.reduceLeDiff, Nat.reduceMul, Nat.reduceLT, reduceIte, Int.reduceToNat, w64_id, cast_succ])
  (first | refine SW.condD rfl (fun h => ?_) (fun h => ?_) | refine SW.condN rfl (fun h => ?_) (fun h => ?_) | refine SW.condNB rfl (fun h => ?_) (fun h => ?_) | refine SW.condB rfl (fun h => ?_) (fun h => ?_))
  · repeat (first | (with_reducible first | refine SW.seq ?_ | refine SW.block ?_ | refine SW.rowC ?_ | refine SW.skip ?_ | refine SW.exit ?_ | intro _ | refine And.intro (by omega) ?_) | simp (config := { maxSteps := 1000000 }) (disch := (first | omega | (simp only [go_sem]; try omega))) only [go_sem, Nat.reduceAdd, Nat.reduceEqDiff, Nat.reduceLeDiff, Nat.reduceMul, Nat.reduceLT, reduceIte, Int.reduceToNat, w64_id, cast_succ])
    refine SW.ghost (Gh.name 7 2 1 rfl) ?_
    simp (config := { maxSteps := 1000000 }) (disch := (first | omega | (simp only [go_sem]; try omega))) only [go_sem, Nat.reduceAdd, Nat.reduceEqDiff, Nat.reduceLeDiff, Nat.reduceMul, Nat.reduceLT, reduceIte, Int.reduceToNat, w64_id, cast_succ, hL]
    refine SW.loopE (fun E0 H0 q E' H' => ∃ y : Nat, y ≤ n ∧ q = n - y ∧ E' = aput (aput E0 8 (I y)) 7 (.nm (H.length + (x + 1)) y 0 y) ∧ H' = H ++ (sqB x n H.length S ++ [⟨y, 2, 1, (tab y (f x)).map I⟩])) n ⟨0, by omega, by omega, rfl, rfl⟩ ?_
    rintro q E' H' ⟨y, hy, rfl, rfl, rfl⟩
    have hty := tab_length y (f x)
    have hts := tab_succ y (f x)
    generalize hT : tab y (f x) = T at *
    have htk : (T.map I).take y = T.map I := List.take_of_length_le (by simp [hty])
    simp (config := { maxSteps := 1000000 }) (disch := (first | omega | (simp only [go_sem]; try omega))) only [go_sem, Nat.reduceAdd, Nat.reduceEqDiff, Nat.reduceLeDiff, Nat.reduceMul, Nat.reduceLT, reduceIte, Int.reduceToNat, w64_id, cast_succ]
    repeat (first | (with_reducible first | refine SW.seq ?_ | refine SW.block ?_ | refine SW.rowC ?_ | refine SW.skip ?_ | refine SW.exit ?_ | intro _ | refine And.intro (by omega) ?_) | simp (config := { maxSteps := 1000000 }) (disch := (first | omega | (simp only [go_sem]; try omega))) only [go_sem, Nat.reduceAdd, Nat.reduceEqDiff, Nat.reduceLeDiff, Nat.reduceMul, Nat.reduceLT, reduceIte, Int.reduceToNat, w64_id, cast_succ])
    (first | refine SW.condD rfl (fun h2 => ?_) (fun h2 => ?_) | refine SW.condN rfl (fun h2 => ?_) (fun h2 => ?_) | refine SW.condNB rfl (fun h2 => ?_) (fun h2 => ?_) | refine SW.condB rfl (fun h2 => ?_) (fun h2 => ?_))
    · repeat (first | (with_reducible first | refine SW.seq ?_ | refine SW.block ?_ | refine SW.rowC ?_ | refine SW.skip ?_ | refine SW.exit ?_ | intro _ | refine And.intro (by omega) ?_) | simp (config := { maxSteps := 1000000 }) (disch := (first | omega | (simp only [go_sem]; try omega))) only [go_sem, Nat.reduceAdd, Nat.reduceEqDiff, Nat.reduceLeDiff, Nat.reduceMul, Nat.reduceLT, reduceIte, Int.reduceToNat, w64_id, cast_succ, hg])
      refine (hf x y _ (by omega) (by omega)).mono ?_
      rintro r H' ⟨rfl, rfl⟩
      repeat (first | (with_reducible first | refine SW.seq ?_ | refine SW.block ?_ | refine SW.rowC ?_ | refine SW.skip ?_ | refine SW.exit ?_ | intro _ | refine And.intro (by omega) ?_) | simp (config := { maxSteps := 1000000 }) (disch := (first | omega | (simp only [go_sem]; try omega))) only [go_sem, Nat.reduceAdd, Nat.reduceEqDiff, Nat.reduceLeDiff, Nat.reduceMul, Nat.reduceLT, reduceIte, Int.reduceToNat, w64_id, cast_succ, getAt hL, setAt hL, hT, htk])
      refine SLoop.nextE (L := sqB x n H.length S ++ [⟨y + 1, 2, 1, (T ++ [f x y]).map I⟩]) (n - (y + 1)) ⟨_, by rw [List.append_assoc]; rfl⟩ hB (by omega) (by omega) ?_ ?_ ⟨y + 1, by omega, rfl, ?_, by rw [hts]⟩
      · rw [List.length_append, hL]
        (simp only [go_sem, Nat.reduceAdd, Nat.reduceEqDiff, reduceIte, go_sem, and_self, and_true, true_and, implies_true, List.take_succ_cons, List.take_zero, and_true, true_and]; try omega)
        exact ⟨hcs' _, by omega, by omega⟩
      · rw [List.length_append, hL]
        refine BB.app (BB.mono hbb (by simp)) ?_
        rw [BB_cons, all_mapI]; exact ⟨trivial, trivial⟩
      · simp [go_sem]
    · have : y = n := by omega
      subst this
      have hnt : (nmsV y (H.length + 1) S).take x = nmsV y (H.length + 1) S := List.take_of_length_le (by rw [nmsV_length]; omega)
      have hnl := nmsV_length y (H.length + 1) S
      have hL1 : (sqB (x + 1) y H.length (S ++ [T])).length = x + 2 := by rw [sqB_length]; simp; omega
      repeat (first | (with_reducible first | refine SW.seq ?_ | refine SW.block ?_ | refine SW.rowC ?_ | refine SW.skip ?_ | refine SW.exit ?_ | intro _ | refine And.intro (by omega) ?_) | simp (config := { maxSteps := 1000000 }) (disch := (first | omega | (simp only [go_sem]; try omega))) only [go_sem, Nat.reduceAdd, Nat.reduceEqDiff, Nat.reduceLeDiff, Nat.reduceMul, Nat.reduceLT, reduceIte, Int.reduceToNat, w64_id, cast_succ, sqB, hnt, hnl, hl])
      refine SLoop.nextE (L := sqB (x + 1) y H.length (S ++ [T])) (y - (x + 1)) ⟨_, by rw [sqB_snoc, List.cons_append, List.append_assoc, hty, show H.length + 1 + S.length = H.length + (x + 1) by omega]; rfl⟩ hB (by omega) (by omega) ?_ ?_ ⟨x + 1, by omega, rfl, ?_, by rw [hsu, hT]; rfl⟩
      · rw [hL1]
        (simp only [go_sem, Nat.reduceAdd, Nat.reduceEqDiff, reduceIte, go_sem, and_self, and_true, true_and, implies_true, List.take_succ_cons, List.take_zero, and_true, true_and]; try omega)
        exact ⟨hcs' _, by omega⟩
      · rw [hL1]; exact sqB_BB (by simp; omega)
      · simp [go_sem]
  · have : x = n := by omega
    subst this
    repeat (first | (with_reducible first | refine SW.seq ?_ | refine SW.block ?_ | refine SW.rowC ?_ | refine SW.skip ?_ | refine SW.exit ?_ | intro _ | refine And.intro (by omega) ?_) | simp (config := { maxSteps := 1000000 }) (disch := (first | omega | (simp only [go_sem]; try omega))) only [go_sem, Nat.reduceAdd, Nat.reduceEqDiff, Nat.reduceLeDiff, Nat.reduceMul, Nat.reduceLT, reduceIte, Int.reduceToNat, w64_id, cast_succ])
    refine SW.ret ?_; (try simp only [go_sem]); (first | refine FunPost.one ?_ | refine FunPost.two ?_ | refine FunPost.three ?_); (try simp (config := { maxSteps := 1000000 }) (disch := (first | omega | (simp only [go_sem]; try omega))) only [go_sem, Nat.reduceAdd, Nat.reduceEqDiff, Nat.reduceLeDiff, Nat.reduceMul, Nat.reduceLT, reduceIte, Int.reduceToNat, w64_id, cast_succ])
    exact GR.of ⟨rfl, by rw [hS]⟩
end Go.Proofs.Ytflnjgeoegofdaa
