/- Subsets in order: ranks, the next one, all of them. -/
import Derived.Test.YtnlfokkljgbaaaaProg
import Derived.KernelRfl
import Derived.Test.YtnlfokkljgbaaaazK2
set_option linter.unusedSimpArgs false
set_option linter.unusedVariables false
set_option maxHeartbeats 4000000
set_option maxRecDepth 100000
namespace Go.Proofs.Ytnlfokkljgbaaaa
open Go.Av
abbrev f_impl_allSubsets : Nat := 44
def c_impl_allSubsets : SC :=
 .seq (.reg [
     ⟨(some 4), .mv (.const (.slice none 0 0)), none⟩] [0, 1])
 (.seq (.reg [
     ⟨(some 5), .mv (.const (.slice none 0 0)), none⟩] [0, 1, 5])
 (.seq (.reg [
     ⟨(some 8), .mv (.tmp 1), none⟩,
     ⟨(some 9), .call 69 [(.tmp 8)], none⟩,
     ⟨(some 10), .mv (.tmp 1), none⟩,
     ⟨(some 11), .mv (.tmp 0), none⟩,
     ⟨(some 12), .bin .leq (.tmp 10) (.tmp 11), none⟩,
     ⟨(some 6), .mv (.tmp 9), none⟩,
     ⟨(some 7), .mv (.tmp 12), none⟩] [0, 5, 6, 7])
 (.seq (.block 0 (.loop [0, 5, 6, 7]
   (.seq (.seq (.reg [
       ⟨(some 13), .mv (.tmp 7), none⟩] [0, 5, 6, 13])
   (.cond (.tmp 13)
    (.skip)
    (.exit 0)))
   (.block 1 (.seq (.reg [
        ⟨(some 14), .mv (.tmp 5), none⟩,
        ⟨(some 15), .mv (.tmp 6), none⟩,
        ⟨(some 16), .bslice 29 1 1 [(.slice none 0 0)] [(0, (.tmp 15))], none⟩,
        ⟨(some 17), .app 29 1 24 (.tmp 14) (.tmp 16), none⟩,
        ⟨(some 5), .mv (.tmp 17), none⟩] [0, 5, 6])
    (.reg [
        ⟨(some 19), .mv (.tmp 0), none⟩,
        ⟨(some 20), .mv (.tmp 6), none⟩,
        ⟨(some 21), .call 70 [(.tmp 19), (.tmp 20)], none⟩,
        ⟨(some 18), .mv (.tmp 21), none⟩,
        ⟨(some 22), .ext (.tmp 18) 0, none⟩,
        ⟨(some 23), .ext (.tmp 18) 1, none⟩,
        ⟨(some 6), .mv (.tmp 22), none⟩,
        ⟨(some 7), .mv (.tmp 23), none⟩] [0, 5, 6, 7]))))))
 (.seq (.reg [
     ⟨(some 24), .mv (.tmp 5), none⟩,
     ⟨(some 4), .mv (.tmp 24), none⟩] [4])
 (.ret)))))
theorem s_impl_allSubsets : stripF Try.prog 44 [[0, 1], [0, 1, 5], [0, 5, 6, 7], [0, 5, 6, 7], [0, 5, 6, 13], [0, 5, 6], [0, 5, 6, 7], [4]] = some (c_impl_allSubsets, [.tmp 4], 25) := by kernel_rfl
abbrev f_impl_identity : Nat := 69
def c_impl_identity : SC :=
 .seq (.reg [
     ⟨(some 2), .mv (.const (.slice none 0 0)), none⟩] [0])
 (.seq (.reg [
     ⟨(some 5), .mv (.tmp 0), none⟩,
     ⟨(some 6), .mslice 2 8 (.int .i64 0) (.tmp 5) (.tmp 5), none⟩,
     ⟨(some 3), .mv (.tmp 6), none⟩] [3])
 (.seq (.seq (.reg [
     ⟨(some 7), .mv (.tmp 3), none⟩,
     ⟨(some 8), .len (.tmp 7), none⟩,
     ⟨(some 9), .mv (.const (.int .i64 0)), none⟩] [3, 8, 9])
 (.block 0 (.loop [3, 8, 9]
   (.seq (.reg [
       ⟨(some 10), .bin .lss (.tmp 9) (.tmp 8), none⟩] [3, 8, 9, 10])
   (.seq (.cond (.tmp 10)
    (.skip)
    (.exit 0))
   (.seq (.block 1 (.seq (.reg [
        ⟨(some 11), .mv (.tmp 9), none⟩,
        ⟨(some 4), .mv (.tmp 11), none⟩] [3, 4, 8, 9])
    (.reg [
        ⟨(some 12), .mv (.tmp 3), none⟩,
        ⟨(some 13), .mv (.tmp 4), none⟩,
        ⟨(some 14), .mv (.tmp 4), none⟩,
        ⟨(some 15), .iaddr 1 (.tmp 12) (.tmp 13), none⟩,
        ⟨none, .store 1 (.tmp 15) (.tmp 14), none⟩] [3, 8, 9])))
   (.reg [
       ⟨(some 16), .bin .add (.tmp 9) (.const (.int .i64 1)), none⟩,
       ⟨(some 9), .mv (.tmp 16), none⟩] [3, 8, 9])))))))
 (.seq (.reg [
     ⟨(some 17), .mv (.tmp 3), none⟩,
     ⟨(some 2), .mv (.tmp 17), none⟩] [2])
 (.ret))))
theorem s_impl_identity : stripF Try.prog 69 [[0], [3], [3, 8, 9], [3, 8, 9], [3, 8, 9, 10], [3, 4, 8, 9], [3, 8, 9], [3, 8, 9], [2]] = some (c_impl_identity, [.tmp 2], 18) := by kernel_rfl
abbrev f_impl_NextSubset : Nat := 70
def c_impl_NextSubset : SC :=
 .seq (.reg [
     ⟨(some 4), .mv (.const (.slice none 0 0)), none⟩,
     ⟨(some 5), .mv (.const (.bool false)), none⟩] [0, 1])
 (.seq (.seq (.reg [
     ⟨(some 10), .mv (.tmp 1), none⟩,
     ⟨(some 11), .mv (.tmp 0), none⟩,
     ⟨(some 12), .call 92 [(.tmp 10), (.tmp 11)], none⟩,
     ⟨(some 13), .un .not (.tmp 12), none⟩] [0, 1, 13])
 (.cond (.tmp 13)
  (.seq (.reg [
      ⟨(some 4), .mv (.const (.slice none 0 0)), none⟩,
      ⟨(some 5), .mv (.const (.bool false)), none⟩] [4, 5])
  (.ret))
  (.skip)))
 (.seq (.reg [
     ⟨(some 14), .mv (.tmp 1), none⟩,
     ⟨(some 15), .call 93 [(.tmp 14)], none⟩,
     ⟨(some 6), .mv (.tmp 15), none⟩] [0, 1, 6])
 (.seq (.seq (.reg [
     ⟨(some 16), .mv (.tmp 6), none⟩,
     ⟨(some 17), .bin .sub (.tmp 16) (.const (.int .i64 1)), none⟩,
     ⟨(some 7), .mv (.tmp 17), none⟩] [0, 1, 6, 7])
 (.block 0 (.loop [0, 1, 6, 7]
   (.seq (.seq (.reg [
       ⟨(some 18), .mv (.tmp 7), none⟩,
       ⟨(some 19), .bin .geq (.tmp 18) (.const (.int .i64 0)), none⟩] [0, 1, 6, 7, 19])
   (.cond (.tmp 19)
    (.skip)
    (.exit 0)))
   (.seq (.block 1 (.seq (.seq (.reg [
        ⟨(some 22), .mv (.tmp 1), none⟩,
        ⟨(some 23), .mv (.tmp 7), none⟩,
        ⟨(some 24), .iaddr 1 (.tmp 22) (.tmp 23), none⟩,
        ⟨(some 25), .load 1 false (.tmp 24), none⟩,
        ⟨(some 26), .mv (.tmp 0), none⟩,
        ⟨(some 27), .mv (.tmp 6), none⟩,
        ⟨(some 28), .bin .sub (.tmp 26) (.tmp 27), none⟩,
        ⟨(some 29), .mv (.tmp 7), none⟩,
        ⟨(some 30), .bin .add (.tmp 28) (.tmp 29), none⟩,
        ⟨(some 31), .bin .eql (.tmp 25) (.tmp 30), none⟩] [0, 1, 6, 7, 31])
    (.cond (.tmp 31)
     (.exit 1)
     (.skip)))
    (.seq (.reg [
        ⟨(some 32), .mv (.tmp 1), none⟩,
        ⟨(some 33), .call 77 [(.tmp 32)], none⟩,
        ⟨(some 8), .mv (.tmp 33), none⟩] [1, 6, 7, 8])
    (.seq (.seq (.reg [
        ⟨(some 34), .mv (.tmp 7), none⟩,
        ⟨(some 9), .mv (.tmp 34), none⟩] [1, 6, 7, 8, 9])
    (.block 2 (.loop [1, 6, 7, 8, 9]
      (.seq (.seq (.reg [
          ⟨(some 35), .mv (.tmp 9), none⟩,
          ⟨(some 36), .mv (.tmp 6), none⟩,
          ⟨(some 37), .bin .lss (.tmp 35) (.tmp 36), none⟩] [1, 6, 7, 8, 9, 37])
      (.cond (.tmp 37)
       (.skip)
       (.exit 2)))
      (.seq (.block 3 (.reg [
           ⟨(some 40), .mv (.tmp 8), none⟩,
           ⟨(some 41), .mv (.tmp 9), none⟩,
           ⟨(some 42), .mv (.tmp 1), none⟩,
           ⟨(some 43), .mv (.tmp 7), none⟩,
           ⟨(some 44), .iaddr 1 (.tmp 42) (.tmp 43), none⟩,
           ⟨(some 45), .load 1 false (.tmp 44), none⟩,
           ⟨(some 46), .bin .add (.tmp 45) (.const (.int .i64 1)), none⟩,
           ⟨(some 47), .mv (.tmp 9), none⟩,
           ⟨(some 48), .bin .add (.tmp 46) (.tmp 47), none⟩,
           ⟨(some 49), .mv (.tmp 7), none⟩,
           ⟨(some 50), .bin .sub (.tmp 48) (.tmp 49), none⟩,
           ⟨(some 51), .iaddr 1 (.tmp 40) (.tmp 41), none⟩,
           ⟨none, .store 1 (.tmp 51) (.tmp 50), none⟩] [1, 6, 7, 8, 9]))
      (.reg [
          ⟨(some 38), .mv (.tmp 9), none⟩,
          ⟨(some 39), .bin .add (.tmp 38) (.const (.int .i64 1)), none⟩,
          ⟨(some 9), .mv (.tmp 39), none⟩] [1, 6, 7, 8, 9]))))))
    (.seq (.reg [
        ⟨(some 52), .mv (.tmp 8), none⟩,
        ⟨(some 4), .mv (.tmp 52), none⟩,
        ⟨(some 5), .mv (.const (.bool true)), none⟩] [4, 5])
    (.ret))))))
   (.reg [
       ⟨(some 20), .mv (.tmp 7), none⟩,
       ⟨(some 21), .bin .sub (.tmp 20) (.const (.int .i64 1)), none⟩,
       ⟨(some 7), .mv (.tmp 21), none⟩] [0, 1, 6, 7]))))))
 (.seq (.reg [
     ⟨(some 4), .mv (.const (.slice none 0 0)), none⟩,
     ⟨(some 5), .mv (.const (.bool false)), none⟩] [4, 5])
 (.ret)))))
theorem s_impl_NextSubset : stripF Try.prog 70 [[0, 1], [0, 1, 13], [4, 5], [0, 1, 6], [0, 1, 6, 7], [0, 1, 6, 7], [0, 1, 6, 7, 19], [0, 1, 6, 7, 31], [1, 6, 7, 8], [1, 6, 7, 8, 9], [1, 6, 7, 8, 9], [1, 6, 7, 8, 9, 37], [1, 6, 7, 8, 9], [1, 6, 7, 8, 9], [4, 5], [0, 1, 6, 7], [4, 5]] = some (c_impl_NextSubset, [.tmp 4, .tmp 5], 53) := by kernel_rfl
abbrev f_slices_Clone_Lint64_int64 : Nat := 77
def c_slices_Clone_Lint64_int64 : SC :=
 .seq (.reg [
     ⟨(some 2), .mv (.const (.slice none 0 0)), none⟩] [0])
 (.seq (.seq (.reg [
     ⟨(some 3), .mv (.tmp 0), none⟩,
     ⟨(some 4), .isnil false (.tmp 3), none⟩] [0, 4])
 (.cond (.tmp 4)
  (.seq (.reg [
      ⟨(some 2), .mv (.const (.slice none 0 0)), none⟩] [2])
  (.ret))
  (.skip)))
 (.seq (.reg [
     ⟨(some 5), .bslice 2 1 0 [] [], none⟩,
     ⟨(some 6), .mv (.tmp 0), none⟩,
     ⟨(some 7), .app 2 1 8 (.tmp 5) (.tmp 6), none⟩,
     ⟨(some 2), .mv (.tmp 7), none⟩] [2])
 (.ret)))
theorem s_slices_Clone_Lint64_int64 : stripF Try.prog 77 [[0], [0, 4], [2], [2]] = some (c_slices_Clone_Lint64_int64, [.tmp 2], 8) := by kernel_rfl
theorem _root_.Go.Av.GR.froz0 {H0 : List Blk} {R : AV → List Blk → Prop} {r r' : AV} (hf : Froz H0 H0.length r r') (h : R r' H0) : GR H0 R r H0 := by
  have := GR.froz (H0 := H0) (ext := []) (R := R) (by simpa using hf) h
  simpa using this
def tab (n : Nat) (f : Nat → Int) : List Int := (List.range n).map f
theorem tab_length (n : Nat) (f : Nat → Int) : (tab n f).length = n := by simp [tab]
theorem tab_getD {n : Nat} (f : Nat → Int) {i : Nat} (h : i < n) : (tab n f).getD i 0 = f i := by simp [tab, h]
theorem tab_set (n : Nat) (f : Nat → Int) (i : Nat) (v : Int) : (tab n f).set i v = tab n (fun j => if j = i then v else f j) := by
  unfold tab
  apply List.ext_getElem
  · simp
  · intro j h1 h2
    simp only [List.getElem_set, List.getElem_map, List.getElem_range]
    by_cases h : i = j
    · simp [h]
    · simp [h, Ne.symm h]
theorem tab_congr {n : Nat} {f g : Nat → Int} (h : ∀ j, j < n → f j = g j) : tab n f = tab n g := by
  unfold tab
  exact List.map_congr_left fun j hj => h j (List.mem_range.1 hj)
theorem tab_of (l : List Int) : l = tab l.length fun j => l.getD j 0 := by
  unfold tab
  apply List.ext_getElem
  · simp
  · intro j h1 h2
    simp [List.getElem?_eq_getElem h1]
theorem tab_rep (n : Nat) (v : Int) : List.replicate n v = tab n fun _ => v := by
  unfold tab
  apply List.ext_getElem <;> simp
theorem take_tab (n : Nat) (f : Nat → Int) : ((tab n f).map I).take n = (tab n f).map I := List.take_of_length_le (by simp [tab_length])
theorem clone_ok (H : List Blk) (a : AV) (xs : List Int) (ha : RdS H a xs) (hl : xs.length ≤ 1073741824) :
    ACalls Try.prog f_slices_Clone_Lint64_int64 [a] H (fun r H' => ∃ ver, r = .nm H.length ver 0 xs.length ∧ H' = H ++ [⟨ver, 2, 1, xs.map I⟩]) := by
  refine ACalls.introB s_slices_Clone_Lint64_int64 (by simp) ?_; intro hB hA; unfold c_slices_Clone_Lint64_int64; simp (config := { maxSteps := 1000000 }) (disch := (first | omega | (simp only [go_sem]; try omega))) only [go_sem, Nat.reduceAdd, Nat.reduceEqDiff, Nat.reduceLeDiff, Nat.reduceMul, Nat.reduceLT, reduceIte, Int.reduceToNat, w64_id, cast_succ]
  have h2 := aview_append ha [⟨0, 2, 1, []⟩]
  refine SW.seq ?_; refine SW.rowC ?_; simp (config := { maxSteps := 1000000 }) (disch := (first | omega | (simp only [go_sem]; try omega))) only [go_sem, Nat.reduceAdd, Nat.reduceEqDiff, Nat.reduceLeDiff, Nat.reduceMul, Nat.reduceLT, reduceIte, Int.reduceToNat, w64_id, cast_succ]
  refine SW.seq ?_
  refine SW.seq ?_; refine SW.rowC ?_; simp (config := { maxSteps := 1000000 }) (disch := (first | omega | (simp only [go_sem]; try omega))) only [go_sem, Nat.reduceAdd, Nat.reduceEqDiff, Nat.reduceLeDiff, Nat.reduceMul, Nat.reduceLT, reduceIte, Int.reduceToNat, w64_id, cast_succ, ha]
  intro b hb
  refine SW.condB rfl (fun h => ?_) (fun h => ?_)
  · have : xs = [] := List.eq_nil_of_length_eq_zero (hb h)
    subst this
    repeat (first | (with_reducible first | refine SW.seq ?_ | refine SW.block ?_ | refine SW.rowC ?_ | refine SW.skip ?_ | refine SW.exit ?_ | intro _ | refine And.intro (by omega) ?_) | simp (config := { maxSteps := 1000000 }) (disch := (first | omega | (simp only [go_sem]; try omega))) only [go_sem, Nat.reduceAdd, Nat.reduceEqDiff, Nat.reduceLeDiff, Nat.reduceMul, Nat.reduceLT, reduceIte, Int.reduceToNat, w64_id, cast_succ])
    refine SW.ret ?_; (try simp only [go_sem]); (first | refine FunPost.one ?_ | refine FunPost.two ?_ | refine FunPost.three ?_); (try simp (config := { maxSteps := 1000000 }) (disch := (first | omega | (simp only [go_sem]; try omega))) only [go_sem, Nat.reduceAdd, Nat.reduceEqDiff, Nat.reduceLeDiff, Nat.reduceMul, Nat.reduceLT, reduceIte, Int.reduceToNat, w64_id, cast_succ])
    refine GR.name 2 1 (GR.of ?_)
    exact ⟨0, rfl, rfl⟩
  · repeat (first | (with_reducible first | refine SW.seq ?_ | refine SW.block ?_ | refine SW.rowC ?_ | refine SW.skip ?_ | refine SW.exit ?_ | intro _ | refine And.intro (by omega) ?_) | simp (config := { maxSteps := 1000000 }) (disch := (first | omega | (simp only [go_sem]; try omega))) only [go_sem, Nat.reduceAdd, Nat.reduceEqDiff, Nat.reduceLeDiff, Nat.reduceMul, Nat.reduceLT, reduceIte, Int.reduceToNat, w64_id, cast_succ, ha, h2])
    refine SW.ret ?_; (try simp only [go_sem]); (first | refine FunPost.one ?_ | refine FunPost.two ?_ | refine FunPost.three ?_); (try simp (config := { maxSteps := 1000000 }) (disch := (first | omega | (simp only [go_sem]; try omega))) only [go_sem, Nat.reduceAdd, Nat.reduceEqDiff, Nat.reduceLeDiff, Nat.reduceMul, Nat.reduceLT, reduceIte, Int.reduceToNat, w64_id, cast_succ])
    exact GR.of ⟨1, rfl, rfl⟩
def nextGo (n : Int) (set : List Int) : Nat → Option (List Int)
  | 0 => none
  | i + 1 => if set.getD i 0 = n - set.length + i then nextGo n set i else some (tab set.length fun j => if j < i then set.getD j 0 else set.getD i 0 + 1 + j - i)
def nextSub (n : Int) (set : List Int) : Option (List Int) := nextGo n set set.length
def nextAV : Option (List Int) → AV
  | some s => .tup [ilS s, Bv true]
  | none => .tup [ilS [], Bv false]
theorem NextSubset_fn (n : Int) (set : List Int) (hv : asc 0 (n - 1) set = true) (h0 : 0 ≤ n) (h1 : n ≤ 32) : PFn Try.prog f_impl_NextSubset [I n, ilS set] (nextAV (nextSub n set)) := by
  have hvs := ValidSet_fn set n
  rw [hv, decide_eq_true h0, decide_eq_true h1] at hvs
  have hm := asc_mem hv
  have hl : set.length ≤ 32 := by rcases asc_len hv with h | h <;> simp_all; omega
  intro H; refine ACalls.introB s_impl_NextSubset (by simp) ?_; intro hB hA; unfold c_impl_NextSubset; simp (config := { maxSteps := 1000000 }) (disch := (first | omega | (simp only [go_sem]; try omega))) only [go_sem, Nat.reduceAdd, Nat.reduceEqDiff, Nat.reduceLeDiff, Nat.reduceMul, Nat.reduceLT, reduceIte, Int.reduceToNat, w64_id, cast_succ]
  repeat (first | (with_reducible first | refine SW.seq ?_ | refine SW.block ?_ | refine SW.rowC ?_ | refine SW.skip ?_ | refine SW.exit ?_ | refine PFn.use (hvs) ?_ | refine PFn.useq (hvs) ?_ | intro _ | refine And.intro (by omega) ?_) | simp (config := { maxSteps := 1000000 }) (disch := (first | omega | (simp only [go_sem]; try omega))) only [go_sem, Nat.reduceAdd, Nat.reduceEqDiff, Nat.reduceLeDiff, Nat.reduceMul, Nat.reduceLT, reduceIte, Int.reduceToNat, w64_id, cast_succ])
  refine SW.condF rfl ?_
  repeat (first | (with_reducible first | refine SW.seq ?_ | refine SW.block ?_ | refine SW.rowC ?_ | refine SW.skip ?_ | refine SW.exit ?_ | refine PFn.use (size_fn _) ?_ | refine PFn.useq (size_fn _) ?_ | intro _ | refine And.intro (by omega) ?_) | simp (config := { maxSteps := 1000000 }) (disch := (first | omega | (simp only [go_sem]; try omega))) only [go_sem, Nat.reduceAdd, Nat.reduceEqDiff, Nat.reduceLeDiff, Nat.reduceMul, Nat.reduceLT, reduceIte, Int.reduceToNat, w64_id, cast_succ])
  refine SW.loopE (fun E0 H0 q E' H' => ∃ i : Nat, i ≤ set.length ∧ q = i ∧ E' = aput E0 7 (I ((i : Int) - 1)) ∧ H' = H0 ∧ nextSub n set = nextGo n set i) set.length ⟨set.length, by omega, rfl, rfl, rfl, rfl⟩ ?_
  rintro i E' H' ⟨q, hi, rfl, rfl, rfl, hn⟩
  simp (config := { maxSteps := 1000000 }) (disch := (first | omega | (simp only [go_sem]; try omega))) only [go_sem, Nat.reduceAdd, Nat.reduceEqDiff, Nat.reduceLeDiff, Nat.reduceMul, Nat.reduceLT, reduceIte, Int.reduceToNat, w64_id, cast_succ]
  repeat (first | (with_reducible first | refine SW.seq ?_ | refine SW.block ?_ | refine SW.rowC ?_ | refine SW.skip ?_ | refine SW.exit ?_ | intro _ | refine And.intro (by omega) ?_) | simp (config := { maxSteps := 1000000 }) (disch := (first | omega | (simp only [go_sem]; try omega))) only [go_sem, Nat.reduceAdd, Nat.reduceEqDiff, Nat.reduceLeDiff, Nat.reduceMul, Nat.reduceLT, reduceIte, Int.reduceToNat, w64_id, cast_succ])
  (first | refine SW.condD rfl (fun h => ?_) (fun h => ?_) | refine SW.condN rfl (fun h => ?_) (fun h => ?_) | refine SW.condNB rfl (fun h => ?_) (fun h => ?_) | refine SW.condB rfl (fun h => ?_) (fun h => ?_))
  · obtain ⟨i, rfl⟩ : ∃ j, i = j + 1 := ⟨i - 1, by omega⟩
    have e1 : ((i + 1 : Nat) : Int) - 1 = (i : Nat) := by omega
    have hx := hm (set.getD i 0) (by simp [List.getElem?_eq_getElem (show i < set.length by omega)])
    repeat (first | (with_reducible first | refine SW.seq ?_ | refine SW.block ?_ | refine SW.rowC ?_ | refine SW.skip ?_ | refine SW.exit ?_ | intro _ | refine And.intro (by omega) ?_) | simp (config := { maxSteps := 1000000 }) (disch := (first | omega | (simp only [go_sem]; try omega))) only [go_sem, Nat.reduceAdd, Nat.reduceEqDiff, Nat.reduceLeDiff, Nat.reduceMul, Nat.reduceLT, reduceIte, Int.reduceToNat, w64_id, cast_succ, e1])
    (first | refine SW.condD rfl (fun h2 => ?_) (fun h2 => ?_) | refine SW.condN rfl (fun h2 => ?_) (fun h2 => ?_) | refine SW.condNB rfl (fun h2 => ?_) (fun h2 => ?_) | refine SW.condB rfl (fun h2 => ?_) (fun h2 => ?_))
    · repeat (first | (with_reducible first | refine SW.seq ?_ | refine SW.block ?_ | refine SW.rowC ?_ | refine SW.skip ?_ | refine SW.exit ?_ | intro _ | refine And.intro (by omega) ?_) | simp (config := { maxSteps := 1000000 }) (disch := (first | omega | (simp only [go_sem]; try omega))) only [go_sem, Nat.reduceAdd, Nat.reduceEqDiff, Nat.reduceLeDiff, Nat.reduceMul, Nat.reduceLT, reduceIte, Int.reduceToNat, w64_id, cast_succ])
      refine SLoop.next i (by omega) ⟨i, by omega, rfl, rfl, rfl, ?_⟩
      rw [hn, nextGo, if_pos h2]
    · rw [nextGo, if_neg h2] at hn
      repeat (first | (with_reducible first | refine SW.seq ?_ | refine SW.block ?_ | refine SW.rowC ?_ | refine SW.skip ?_ | refine SW.exit ?_ | intro _ | refine And.intro (by omega) ?_) | simp (config := { maxSteps := 1000000 }) (disch := (first | omega | (simp only [go_sem]; try omega))) only [go_sem, Nat.reduceAdd, Nat.reduceEqDiff, Nat.reduceLeDiff, Nat.reduceMul, Nat.reduceLT, reduceIte, Int.reduceToNat, w64_id, cast_succ])
      refine (clone_ok _ _ set (rd_ilS _ _) (by omega)).mono ?_
      rintro r H1 ⟨ver, rfl, rfl⟩
      repeat (first | (with_reducible first | refine SW.seq ?_ | refine SW.block ?_ | refine SW.rowC ?_ | refine SW.skip ?_ | refine SW.exit ?_ | intro _ | refine And.intro (by omega) ?_) | simp (config := { maxSteps := 1000000 }) (disch := (first | omega | (simp only [go_sem]; try omega))) only [go_sem, Nat.reduceAdd, Nat.reduceEqDiff, Nat.reduceLeDiff, Nat.reduceMul, Nat.reduceLT, reduceIte, Int.reduceToNat, w64_id, cast_succ, e1])
      refine SW.loopE (fun E0 H0 q E' H1 => ∃ m : Nat, i ≤ m ∧ m ≤ set.length ∧ q = set.length - m ∧ E' = aput E0 9 (I m) ∧ H1 = H' ++ [⟨ver, 2, 1, (tab set.length fun j => if j < i then set.getD j 0 else if j < m then set.getD i 0 + 1 + j - i else set.getD j 0).map I⟩]) (set.length - i) ⟨i, by omega, by omega, rfl, rfl, ?_⟩ ?_
      · congr 4
        rw [tab_of set, tab_length]
        exact tab_congr fun j hj => by
          simp only [tab_getD _ hj]
          split <;> first | rfl | (split <;> first | rfl | omega)
      rintro q E' H1 ⟨m, hm1, hm2, rfl, rfl, rfl⟩
      simp (config := { maxSteps := 1000000 }) (disch := (first | omega | (simp only [go_sem]; try omega))) only [go_sem, Nat.reduceAdd, Nat.reduceEqDiff, Nat.reduceLeDiff, Nat.reduceMul, Nat.reduceLT, reduceIte, Int.reduceToNat, w64_id, cast_succ]
      repeat (first | (with_reducible first | refine SW.seq ?_ | refine SW.block ?_ | refine SW.rowC ?_ | refine SW.skip ?_ | refine SW.exit ?_ | intro _ | refine And.intro (by omega) ?_) | simp (config := { maxSteps := 1000000 }) (disch := (first | omega | (simp only [go_sem]; try omega))) only [go_sem, Nat.reduceAdd, Nat.reduceEqDiff, Nat.reduceLeDiff, Nat.reduceMul, Nat.reduceLT, reduceIte, Int.reduceToNat, w64_id, cast_succ])
      (first | refine SW.condD rfl (fun h3 => ?_) (fun h3 => ?_) | refine SW.condN rfl (fun h3 => ?_) (fun h3 => ?_) | refine SW.condNB rfl (fun h3 => ?_) (fun h3 => ?_) | refine SW.condB rfl (fun h3 => ?_) (fun h3 => ?_))
      · have hll := tab_length set.length fun j => if j < i then set.getD j 0 else if j < m then set.getD i 0 + 1 + j - i else set.getD j 0
        repeat (first | (with_reducible first | refine SW.seq ?_ | refine SW.block ?_ | refine SW.rowC ?_ | refine SW.skip ?_ | refine SW.exit ?_ | intro _ | refine And.intro (by omega) ?_) | simp (config := { maxSteps := 1000000 }) (disch := (first | omega | (simp only [go_sem]; try omega))) only [go_sem, Nat.reduceAdd, Nat.reduceEqDiff, Nat.reduceLeDiff, Nat.reduceMul, Nat.reduceLT, reduceIte, Int.reduceToNat, w64_id, cast_succ, take_tab])
        refine SLoop.next (set.length - (m + 1)) (by omega) ⟨m + 1, by omega, by omega, rfl, ?_, ?_⟩
        · simp [go_sem]
        · rw [tab_set]
          congr 4
          exact tab_congr fun j hj => by
            by_cases hjm : j = m
            · subst hjm
              rw [if_pos rfl, if_neg (by omega), if_pos (by omega)]
            · rw [if_neg hjm]
              by_cases hji : j < i
              · rw [if_pos hji, if_pos hji]
              · rw [if_neg hji, if_neg hji]
                by_cases hjm2 : j < m
                · rw [if_pos hjm2, if_pos (by omega)]
                · rw [if_neg hjm2, if_neg (by omega)]
      · have : m = set.length := by omega
        subst this
        repeat (first | (with_reducible first | refine SW.seq ?_ | refine SW.block ?_ | refine SW.rowC ?_ | refine SW.skip ?_ | refine SW.exit ?_ | intro _ | refine And.intro (by omega) ?_) | simp (config := { maxSteps := 1000000 }) (disch := (first | omega | (simp only [go_sem]; try omega))) only [go_sem, Nat.reduceAdd, Nat.reduceEqDiff, Nat.reduceLeDiff, Nat.reduceMul, Nat.reduceLT, reduceIte, Int.reduceToNat, w64_id, cast_succ])
        refine SW.ret ?_; (try simp only [go_sem]); (first | refine FunPost.one ?_ | refine FunPost.two ?_ | refine FunPost.three ?_); (try simp (config := { maxSteps := 1000000 }) (disch := (first | omega | (simp only [go_sem]; try omega))) only [go_sem, Nat.reduceAdd, Nat.reduceEqDiff, Nat.reduceLeDiff, Nat.reduceMul, Nat.reduceLT, reduceIte, Int.reduceToNat, w64_id, cast_succ])
        have hf := froz_rowI (H := H' ++ [⟨ver, 2, 1, (tab set.length fun j => if j < i then set.getD j 0 else if j < set.length then set.getD i 0 + 1 + j - i else set.getD j 0).map I⟩]) (b := H'.length) (r := H'.length) (ver := ver) (ty := 2) (xs := tab set.length fun j => if j < i then set.getD j 0 else if j < set.length then set.getD i 0 + 1 + j - i else set.getD j 0) (by omega) (by simp)
        rw [tab_length] at hf
        refine GR.froz (froz_tup2 hf (froz_B' _)) (And.intro ?_ rfl)
        rw [hn]
        exact congrArg (fun s => nextAV (some s)) (tab_congr fun j hj => by
          by_cases hji : j < i
          · rw [if_pos hji, if_pos hji]
          · rw [if_neg hji, if_neg hji, if_pos hj])
  · have : i = 0 := by omega
    subst this
    repeat (first | (with_reducible first | refine SW.seq ?_ | refine SW.block ?_ | refine SW.rowC ?_ | refine SW.skip ?_ | refine SW.exit ?_ | intro _ | refine And.intro (by omega) ?_) | simp (config := { maxSteps := 1000000 }) (disch := (first | omega | (simp only [go_sem]; try omega))) only [go_sem, Nat.reduceAdd, Nat.reduceEqDiff, Nat.reduceLeDiff, Nat.reduceMul, Nat.reduceLT, reduceIte, Int.reduceToNat, w64_id, cast_succ])
    refine SW.ret ?_; (try simp only [go_sem]); (first | refine FunPost.one ?_ | refine FunPost.two ?_ | refine FunPost.three ?_); (try simp (config := { maxSteps := 1000000 }) (disch := (first | omega | (simp only [go_sem]; try omega))) only [go_sem, Nat.reduceAdd, Nat.reduceEqDiff, Nat.reduceLeDiff, Nat.reduceMul, Nat.reduceLT, reduceIte, Int.reduceToNat, w64_id, cast_succ])
    refine GR.froz0 (r' := nextAV (nextSub n set)) ?_ ⟨rfl, rfl⟩
    rw [hn]
    exact froz_tup2 .nil (froz_B' _)
def idL (k : Nat) : List Int := tab k fun i => i
theorem identity_fn (k : Nat) (hk : k ≤ 1000000) : PFn Try.prog f_impl_identity [I k] (ilS (idL k)) := by
  intro H; refine ACalls.introB s_impl_identity (by simp) ?_; intro hB hA; unfold c_impl_identity; simp (config := { maxSteps := 1000000 }) (disch := (first | omega | (simp only [go_sem]; try omega))) only [go_sem, Nat.reduceAdd, Nat.reduceEqDiff, Nat.reduceLeDiff, Nat.reduceMul, Nat.reduceLT, reduceIte, Int.reduceToNat, w64_id, cast_succ]
  repeat (first | (with_reducible first | refine SW.seq ?_ | refine SW.block ?_ | refine SW.rowC ?_ | refine SW.skip ?_ | refine SW.exit ?_ | intro _ | refine And.intro (by omega) ?_) | simp (config := { maxSteps := 1000000 }) (disch := (first | omega | (simp only [go_sem]; try omega))) only [go_sem, Nat.reduceAdd, Nat.reduceEqDiff, Nat.reduceLeDiff, Nat.reduceMul, Nat.reduceLT, reduceIte, Int.reduceToNat, w64_id, cast_succ])
  rw [tab_rep]
  refine SW.loopE (fun E0 H0 q E' H' => ∃ m : Nat, m ≤ k ∧ q = k - m ∧ E' = aput E0 9 (I m) ∧ H' = H ++ [⟨0, 2, 1, (tab k fun j => if j < m then (j : Int) else 0).map I⟩]) k ⟨0, by omega, by omega, rfl, by simp⟩ ?_
  rintro q E' H' ⟨m, hm, rfl, rfl, rfl⟩
  simp (config := { maxSteps := 1000000 }) (disch := (first | omega | (simp only [go_sem]; try omega))) only [go_sem, Nat.reduceAdd, Nat.reduceEqDiff, Nat.reduceLeDiff, Nat.reduceMul, Nat.reduceLT, reduceIte, Int.reduceToNat, w64_id, cast_succ]
  repeat (first | (with_reducible first | refine SW.seq ?_ | refine SW.block ?_ | refine SW.rowC ?_ | refine SW.skip ?_ | refine SW.exit ?_ | intro _ | refine And.intro (by omega) ?_) | simp (config := { maxSteps := 1000000 }) (disch := (first | omega | (simp only [go_sem]; try omega))) only [go_sem, Nat.reduceAdd, Nat.reduceEqDiff, Nat.reduceLeDiff, Nat.reduceMul, Nat.reduceLT, reduceIte, Int.reduceToNat, w64_id, cast_succ])
  have hll := tab_length k fun j => if j < m then (j : Int) else 0
  (first | refine SW.condD rfl (fun h => ?_) (fun h => ?_) | refine SW.condN rfl (fun h => ?_) (fun h => ?_) | refine SW.condNB rfl (fun h => ?_) (fun h => ?_) | refine SW.condB rfl (fun h => ?_) (fun h => ?_))
  · repeat (first | (with_reducible first | refine SW.seq ?_ | refine SW.block ?_ | refine SW.rowC ?_ | refine SW.skip ?_ | refine SW.exit ?_ | intro _ | refine And.intro (by omega) ?_) | simp (config := { maxSteps := 1000000 }) (disch := (first | omega | (simp only [go_sem]; try omega))) only [go_sem, Nat.reduceAdd, Nat.reduceEqDiff, Nat.reduceLeDiff, Nat.reduceMul, Nat.reduceLT, reduceIte, Int.reduceToNat, w64_id, cast_succ, take_tab])
    refine SLoop.next (k - (m + 1)) (by omega) ⟨m + 1, by omega, rfl, ?_, ?_⟩
    · simp [go_sem]
    · rw [tab_set]
      congr 4
      exact tab_congr fun j hj => by
        by_cases hjm : j = m
        · subst hjm; rw [if_pos rfl, if_pos (by omega)]
        · rw [if_neg hjm]
          by_cases h2 : j < m
          · rw [if_pos h2, if_pos (by omega)]
          · rw [if_neg h2, if_neg (by omega)]
  · have : m = k := by omega
    subst this
    repeat (first | (with_reducible first | refine SW.seq ?_ | refine SW.block ?_ | refine SW.rowC ?_ | refine SW.skip ?_ | refine SW.exit ?_ | intro _ | refine And.intro (by omega) ?_) | simp (config := { maxSteps := 1000000 }) (disch := (first | omega | (simp only [go_sem]; try omega))) only [go_sem, Nat.reduceAdd, Nat.reduceEqDiff, Nat.reduceLeDiff, Nat.reduceMul, Nat.reduceLT, reduceIte, Int.reduceToNat, w64_id, cast_succ])
    refine SW.ret ?_; (try simp only [go_sem]); (first | refine FunPost.one ?_ | refine FunPost.two ?_ | refine FunPost.three ?_); (try simp (config := { maxSteps := 1000000 }) (disch := (first | omega | (simp only [go_sem]; try omega))) only [go_sem, Nat.reduceAdd, Nat.reduceEqDiff, Nat.reduceLeDiff, Nat.reduceMul, Nat.reduceLT, reduceIte, Int.reduceToNat, w64_id, cast_succ])
    have hf := froz_rowI (H := H ++ [⟨0, 2, 1, (tab m fun j => if j < m then (j : Int) else 0).map I⟩]) (b := H.length) (r := H.length) (ver := 0) (ty := 2) (xs := tab m fun j => if j < m then (j : Int) else 0) (by omega) (by simp)
    rw [hll] at hf
    refine GR.froz hf ⟨?_, rfl⟩
    rw [idL]
    congr 1
    exact tab_congr fun j hj => by rw [if_pos hj]
def chainS (n : Int) : List (List Int) → Prop
  | [] => True
  | [s] => asc 0 (n - 1) s = true ∧ nextSub n s = none
  | s :: t :: r => asc 0 (n - 1) s = true ∧ nextSub n s = some t ∧ chainS n (t :: r)
theorem allSubsets_fn (n : Int) (k : Nat) (L : List (List Int)) (h0 : 0 ≤ n) (h1 : n ≤ 32) (hL : L.length ≤ 1000000000000) (hk : (k : Int) ≤ n → ∃ r, L = idL k :: r) (hk2 : ¬ (k : Int) ≤ n → L = []) (hk3 : k ≤ 1000000) (hc : chainS n L) : PFn Try.prog f_impl_allSubsets [I n, I k] (ilSS L) := by
  intro H; refine ACalls.introB s_impl_allSubsets (by simp) ?_; intro hB hA; unfold c_impl_allSubsets; simp (config := { maxSteps := 1000000 }) (disch := (first | omega | (simp only [go_sem]; try omega))) only [go_sem, Nat.reduceAdd, Nat.reduceEqDiff, Nat.reduceLeDiff, Nat.reduceMul, Nat.reduceLT, reduceIte, Int.reduceToNat, w64_id, cast_succ]
  repeat (first | (with_reducible first | refine SW.seq ?_ | refine SW.block ?_ | refine SW.rowC ?_ | refine SW.skip ?_ | refine SW.exit ?_ | refine PFn.use (identity_fn k hk3) ?_ | refine PFn.useq (identity_fn k hk3) ?_ | intro _ | refine And.intro (by omega) ?_) | simp (config := { maxSteps := 1000000 }) (disch := (first | omega | (simp only [go_sem]; try omega))) only [go_sem, Nat.reduceAdd, Nat.reduceEqDiff, Nat.reduceLeDiff, Nat.reduceMul, Nat.reduceLT, reduceIte, Int.reduceToNat, w64_id, cast_succ])
  have hcur : ∀ s r, L = s :: r → idL k = s := by
    intro s r h
    by_cases hkn : (k : Int) ≤ n
    · obtain ⟨r', h2⟩ := hk hkn
      rw [h2] at h; cases h; rfl
    · rw [hk2 hkn] at h; cases h
  have hmore : decide ((k : Int) ≤ n) = !L.isEmpty := by
    by_cases hkn : (k : Int) ≤ n
    · obtain ⟨r', h2⟩ := hk hkn
      rw [h2, decide_eq_true hkn]; rfl
    · rw [hk2 hkn, decide_eq_false hkn]; rfl
  rw [hmore]
  refine SW.ghost (Gh.name 5 29 1 rfl) ?_
  simp (config := { maxSteps := 1000000 }) (disch := (first | omega | (simp only [go_sem]; try omega))) only [go_sem, Nat.reduceAdd, Nat.reduceEqDiff, Nat.reduceLeDiff, Nat.reduceMul, Nat.reduceLT, reduceIte, Int.reduceToNat, w64_id, cast_succ]
  refine SW.loopE (fun E0 H0 q E' H' => ∃ (done rest : List (List Int)) (ver : Nat) (cur : List Int), L = done ++ rest ∧ q = rest.length ∧ E' = aput (aput (aput E0 5 (.nm H.length ver 0 done.length)) 6 (ilS cur)) 7 (Bv (!rest.isEmpty)) ∧ H' = H ++ [⟨ver, 29, 1, done.map ilS⟩] ∧ (∀ s r, rest = s :: r → cur = s) ∧ chainS n rest) L.length ⟨[], L, 0, idL k, rfl, rfl, rfl, rfl, hcur, hc⟩ ?_
  rintro q E' H' ⟨done, rest, ver, cur, hp, rfl, rfl, rfl, hcr, hcc⟩
  simp (config := { maxSteps := 1000000 }) (disch := (first | omega | (simp only [go_sem]; try omega))) only [go_sem, Nat.reduceAdd, Nat.reduceEqDiff, Nat.reduceLeDiff, Nat.reduceMul, Nat.reduceLT, reduceIte, Int.reduceToNat, w64_id, cast_succ]
  repeat (first | (with_reducible first | refine SW.seq ?_ | refine SW.block ?_ | refine SW.rowC ?_ | refine SW.skip ?_ | refine SW.exit ?_ | intro _ | refine And.intro (by omega) ?_) | simp (config := { maxSteps := 1000000 }) (disch := (first | omega | (simp only [go_sem]; try omega))) only [go_sem, Nat.reduceAdd, Nat.reduceEqDiff, Nat.reduceLeDiff, Nat.reduceMul, Nat.reduceLT, reduceIte, Int.reduceToNat, w64_id, cast_succ])
  cases rest with
  | nil =>
    refine SW.condF rfl ?_
    rw [List.append_nil] at hp
    subst hp
    repeat (first | (with_reducible first | refine SW.seq ?_ | refine SW.block ?_ | refine SW.rowC ?_ | refine SW.skip ?_ | refine SW.exit ?_ | intro _ | refine And.intro (by omega) ?_) | simp (config := { maxSteps := 1000000 }) (disch := (first | omega | (simp only [go_sem]; try omega))) only [go_sem, Nat.reduceAdd, Nat.reduceEqDiff, Nat.reduceLeDiff, Nat.reduceMul, Nat.reduceLT, reduceIte, Int.reduceToNat, w64_id, cast_succ])
    refine SW.ret ?_; (try simp only [go_sem]); (first | refine FunPost.one ?_ | refine FunPost.two ?_ | refine FunPost.three ?_); (try simp (config := { maxSteps := 1000000 }) (disch := (first | omega | (simp only [go_sem]; try omega))) only [go_sem, Nat.reduceAdd, Nat.reduceEqDiff, Nat.reduceLeDiff, Nat.reduceMul, Nat.reduceLT, reduceIte, Int.reduceToNat, w64_id, cast_succ])
    exact GR.froz (froz_rowS (ver := ver) (ty := 29) (Nat.le_refl _) (by simp)) ⟨rfl, rfl⟩
  | cons s r =>
    have hs := hcr s r rfl
    subst hs
    refine SW.condT rfl ?_
    have hlen : done.length + 1 ≤ 1000000000000 := by rw [hp] at hL; simp at hL; omega
    cases r with
    | nil =>
      have hnx := NextSubset_fn n cur hcc.1 h0 h1
      rw [hcc.2, nextAV] at hnx
      repeat (first | (with_reducible first | refine SW.seq ?_ | refine SW.block ?_ | refine SW.rowC ?_ | refine SW.skip ?_ | refine SW.exit ?_ | refine PFn.use (hnx) ?_ | refine PFn.useq (hnx) ?_ | intro _ | refine And.intro (by omega) ?_) | simp (config := { maxSteps := 1000000 }) (disch := (first | omega | (simp only [go_sem]; try omega))) only [go_sem, Nat.reduceAdd, Nat.reduceEqDiff, Nat.reduceLeDiff, Nat.reduceMul, Nat.reduceLT, reduceIte, Int.reduceToNat, w64_id, cast_succ])
      refine SLoop.nextT 1 0 hB (by omega) (by simp) (by simp) ?_ ?_ ⟨done ++ [cur], [], ver + 1, [], by simp [hp], rfl, ?_, ?_, (fun s r h => by cases h), trivial⟩
      · (simp only [go_sem, Nat.reduceAdd, Nat.reduceEqDiff, reduceIte, go_sem, and_self, and_true, true_and, implies_true, List.take_succ_cons, List.take_zero, and_true, true_and]; try omega)
      · (simp only [go_sem, Nat.reduceAdd, Nat.reduceEqDiff, reduceIte, go_sem, and_self, and_true, true_and, implies_true, List.take_succ_cons, List.take_zero, and_true, true_and]; try omega)
      · simp [go_sem]
      · simp
    | cons t r =>
      have hnx := NextSubset_fn n cur hcc.1 h0 h1
      rw [hcc.2.1, nextAV] at hnx
      repeat (first | (with_reducible first | refine SW.seq ?_ | refine SW.block ?_ | refine SW.rowC ?_ | refine SW.skip ?_ | refine SW.exit ?_ | refine PFn.use (hnx) ?_ | refine PFn.useq (hnx) ?_ | intro _ | refine And.intro (by omega) ?_) | simp (config := { maxSteps := 1000000 }) (disch := (first | omega | (simp only [go_sem]; try omega))) only [go_sem, Nat.reduceAdd, Nat.reduceEqDiff, Nat.reduceLeDiff, Nat.reduceMul, Nat.reduceLT, reduceIte, Int.reduceToNat, w64_id, cast_succ])
      refine SLoop.nextT 1 (r.length + 1) hB (by omega) (by simp) (by simp) ?_ ?_ ⟨done ++ [cur], t :: r, ver + 1, t, by simp [hp], rfl, ?_, ?_, (fun s r h => by cases h; rfl), hcc.2.2⟩
      · (simp only [go_sem, Nat.reduceAdd, Nat.reduceEqDiff, reduceIte, go_sem, and_self, and_true, true_and, implies_true, List.take_succ_cons, List.take_zero, and_true, true_and]; try omega)
      · (simp only [go_sem, Nat.reduceAdd, Nat.reduceEqDiff, reduceIte, go_sem, and_self, and_true, true_and, implies_true, List.take_succ_cons, List.take_zero, and_true, true_and]; try omega)
      · simp [go_sem]
      · simp
end Go.Proofs.Ytnlfokkljgbaaaa
