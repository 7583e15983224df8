/- Subsets in order: ranks, the next one, all of them. -/
import Derived.Test.YtmdeibdplpodpaaGreatProg
import Derived.KernelRfl
import Derived.Test.YtmdeibdplpodpaaGreatzK2
set_option linter.unusedSimpArgs false
set_option linter.unusedVariables false
set_option maxHeartbeats 4000000
set_option maxRecDepth 100000
namespace Go.Proofs.YtmdeibdplpodpaaGreat
open Go.Av
abbrev f_impl_allSubsets : Nat := 110
def c_impl_allSubsets : SC :=
 .seq (.reg [
     ⟨(some 4), .mv (.const (.slice none 0 0)), none⟩] [0, 1])
 (.seq (.reg [
     ⟨(some 5), .mv (.const (.slice none 0 0)), none⟩] [0, 1, 5])
 (.seq (.reg [
     ⟨(some 8), .mv (.tmp 1), none⟩,
     ⟨(some 9), .call 140 [(.tmp 8)], none⟩,
     ⟨(some 10), .mv (.tmp 1), none⟩,
     ⟨(some 11), .mv (.tmp 0), none⟩,
     ⟨(some 12), .bin .leq (.tmp 10) (.tmp 11), none⟩,
     ⟨(some 6), .mv (.tmp 9), none⟩,
     ⟨(some 7), .mv (.tmp 12), none⟩] [0, 5, 6, 7])
 (.seq (.block 0 (.loop [0, 5, 6, 7]
   (.seq (.seq (.reg [
       ⟨(some 13), .mv (.tmp 7), none⟩] [0, 5, 6, 13])
   (.cond (.tmp 13)
    (.skip)
    (.exit 0)))
   (.block 1 (.seq (.reg [
        ⟨(some 14), .mv (.tmp 5), none⟩,
        ⟨(some 15), .mv (.tmp 6), none⟩,
        ⟨(some 16), .bslice 22 1 1 [(.slice none 0 0)] [(0, (.tmp 15))], none⟩,
        ⟨(some 17), .app 22 1 24 (.tmp 14) (.tmp 16), none⟩,
        ⟨(some 5), .mv (.tmp 17), none⟩] [0, 5, 6])
    (.reg [
        ⟨(some 19), .mv (.tmp 0), none⟩,
        ⟨(some 20), .mv (.tmp 6), none⟩,
        ⟨(some 21), .call 141 [(.tmp 19), (.tmp 20)], none⟩,
        ⟨(some 18), .mv (.tmp 21), none⟩,
        ⟨(some 22), .ext (.tmp 18) 0, none⟩,
        ⟨(some 23), .ext (.tmp 18) 1, none⟩,
        ⟨(some 6), .mv (.tmp 22), none⟩,
        ⟨(some 7), .mv (.tmp 23), none⟩] [0, 5, 6, 7]))))))
 (.seq (.reg [
     ⟨(some 24), .mv (.tmp 5), none⟩,
     ⟨(some 4), .mv (.tmp 24), none⟩] [4])
 (.ret)))))
theorem s_impl_allSubsets : stripF Tryz.prog 110 [[0, 1], [0, 1, 5], [0, 5, 6, 7], [0, 5, 6, 7], [0, 5, 6, 13], [0, 5, 6], [0, 5, 6, 7], [4]] = some (c_impl_allSubsets, [.tmp 4], 25) := by kernel_rfl
abbrev f_slices_Clone_Lint64_int64 : Nat := 113
def c_slices_Clone_Lint64_int64 : SC :=
 .seq (.reg [
     ⟨(some 2), .mv (.const (.slice none 0 0)), none⟩] [0])
 (.seq (.seq (.reg [
     ⟨(some 3), .mv (.tmp 0), none⟩,
     ⟨(some 4), .isnil false (.tmp 3), none⟩] [0, 4])
 (.cond (.tmp 4)
  (.seq (.reg [
      ⟨(some 2), .mv (.const (.slice none 0 0)), none⟩] [2])
  (.ret))
  (.skip)))
 (.seq (.reg [
     ⟨(some 5), .bslice 2 1 0 [] [], none⟩,
     ⟨(some 6), .mv (.tmp 0), none⟩,
     ⟨(some 7), .app 2 1 8 (.tmp 5) (.tmp 6), none⟩,
     ⟨(some 2), .mv (.tmp 7), none⟩] [2])
 (.ret)))
theorem s_slices_Clone_Lint64_int64 : stripF Tryz.prog 113 [[0], [0, 4], [2], [2]] = some (c_slices_Clone_Lint64_int64, [.tmp 2], 8) := by kernel_rfl
abbrev f_impl_identity : Nat := 140
def c_impl_identity : SC :=
 .seq (.reg [
     ⟨(some 2), .mv (.const (.slice none 0 0)), none⟩] [0])
 (.seq (.reg [
     ⟨(some 5), .mv (.tmp 0), none⟩,
     ⟨(some 6), .mslice 2 8 (.int .i64 0) (.tmp 5) (.tmp 5), none⟩,
     ⟨(some 3), .mv (.tmp 6), none⟩] [3])
 (.seq (.seq (.reg [
     ⟨(some 7), .mv (.tmp 3), none⟩,
     ⟨(some 8), .len (.tmp 7), none⟩,
     ⟨(some 9), .mv (.const (.int .i64 0)), none⟩] [3, 8, 9])
 (.block 0 (.loop [3, 8, 9]
   (.seq (.reg [
       ⟨(some 10), .bin .lss (.tmp 9) (.tmp 8), none⟩] [3, 8, 9, 10])
   (.seq (.cond (.tmp 10)
    (.skip)
    (.exit 0))
   (.seq (.block 1 (.seq (.reg [
        ⟨(some 11), .mv (.tmp 9), none⟩,
        ⟨(some 4), .mv (.tmp 11), none⟩] [3, 4, 8, 9])
    (.reg [
        ⟨(some 12), .mv (.tmp 3), none⟩,
        ⟨(some 13), .mv (.tmp 4), none⟩,
        ⟨(some 14), .mv (.tmp 4), none⟩,
        ⟨(some 15), .iaddr 1 (.tmp 12) (.tmp 13), none⟩,
        ⟨none, .store 1 (.tmp 15) (.tmp 14), none⟩] [3, 8, 9])))
   (.reg [
       ⟨(some 16), .bin .add (.tmp 9) (.const (.int .i64 1)), none⟩,
       ⟨(some 9), .mv (.tmp 16), none⟩] [3, 8, 9])))))))
 (.seq (.reg [
     ⟨(some 17), .mv (.tmp 3), none⟩,
     ⟨(some 2), .mv (.tmp 17), none⟩] [2])
 (.ret))))
theorem s_impl_identity : stripF Tryz.prog 140 [[0], [3], [3, 8, 9], [3, 8, 9], [3, 8, 9, 10], [3, 4, 8, 9], [3, 8, 9], [3, 8, 9], [2]] = some (c_impl_identity, [.tmp 2], 18) := by kernel_rfl
abbrev f_impl_NextSubset : Nat := 141
def c_impl_NextSubset : SC :=
 .seq (.reg [
     ⟨(some 4), .mv (.const (.slice none 0 0)), none⟩,
     ⟨(some 5), .mv (.const (.bool false)), none⟩] [0, 1])
 (.seq (.seq (.reg [
     ⟨(some 10), .mv (.tmp 1), none⟩,
     ⟨(some 11), .mv (.tmp 0), none⟩,
     ⟨(some 12), .call 174 [(.tmp 10), (.tmp 11)], none⟩,
     ⟨(some 13), .un .not (.tmp 12), none⟩] [0, 1, 13])
 (.cond (.tmp 13)
  (.seq (.reg [
      ⟨(some 4), .mv (.const (.slice none 0 0)), none⟩,
      ⟨(some 5), .mv (.const (.bool false)), none⟩] [4, 5])
  (.ret))
  (.skip)))
 (.seq (.reg [
     ⟨(some 14), .mv (.tmp 1), none⟩,
     ⟨(some 15), .call 66 [(.tmp 14)], none⟩,
     ⟨(some 6), .mv (.tmp 15), none⟩] [0, 1, 6])
 (.seq (.seq (.reg [
     ⟨(some 16), .mv (.tmp 6), none⟩,
     ⟨(some 17), .bin .sub (.tmp 16) (.const (.int .i64 1)), none⟩,
     ⟨(some 7), .mv (.tmp 17), none⟩] [0, 1, 6, 7])
 (.block 0 (.loop [0, 1, 6, 7]
   (.seq (.seq (.reg [
       ⟨(some 18), .mv (.tmp 7), none⟩,
       ⟨(some 19), .bin .geq (.tmp 18) (.const (.int .i64 0)), none⟩] [0, 1, 6, 7, 19])
   (.cond (.tmp 19)
    (.skip)
    (.exit 0)))
   (.seq (.block 1 (.seq (.seq (.reg [
        ⟨(some 22), .mv (.tmp 1), none⟩,
        ⟨(some 23), .mv (.tmp 7), none⟩,
        ⟨(some 24), .iaddr 1 (.tmp 22) (.tmp 23), none⟩,
        ⟨(some 25), .load 1 false (.tmp 24), none⟩,
        ⟨(some 26), .mv (.tmp 0), none⟩,
        ⟨(some 27), .mv (.tmp 6), none⟩,
        ⟨(some 28), .bin .sub (.tmp 26) (.tmp 27), none⟩,
        ⟨(some 29), .mv (.tmp 7), none⟩,
        ⟨(some 30), .bin .add (.tmp 28) (.tmp 29), none⟩,
        ⟨(some 31), .bin .eql (.tmp 25) (.tmp 30), none⟩] [0, 1, 6, 7, 31])
    (.cond (.tmp 31)
     (.exit 1)
     (.skip)))
    (.seq (.reg [
        ⟨(some 32), .mv (.tmp 1), none⟩,
        ⟨(some 33), .call 113 [(.tmp 32)], none⟩,
        ⟨(some 8), .mv (.tmp 33), none⟩] [1, 6, 7, 8])
    (.seq (.seq (.reg [
        ⟨(some 34), .mv (.tmp 7), none⟩,
        ⟨(some 9), .mv (.tmp 34), none⟩] [1, 6, 7, 8, 9])
    (.block 2 (.loop [1, 6, 7, 8, 9]
      (.seq (.seq (.reg [
          ⟨(some 35), .mv (.tmp 9), none⟩,
          ⟨(some 36), .mv (.tmp 6), none⟩,
          ⟨(some 37), .bin .lss (.tmp 35) (.tmp 36), none⟩] [1, 6, 7, 8, 9, 37])
      (.cond (.tmp 37)
       (.skip)
       (.exit 2)))
      (.seq (.block 3 (.reg [
           ⟨(some 40), .mv (.tmp 8), none⟩,
           ⟨(some 41), .mv (.tmp 9), none⟩,
           ⟨(some 42), .mv (.tmp 1), none⟩,
           ⟨(some 43), .mv (.tmp 7), none⟩,
           ⟨(some 44), .iaddr 1 (.tmp 42) (.tmp 43), none⟩,
           ⟨(some 45), .load 1 false (.tmp 44), none⟩,
           ⟨(some 46), .bin .add (.tmp 45) (.const (.int .i64 1)), none⟩,
           ⟨(some 47), .mv (.tmp 9), none⟩,
           ⟨(some 48), .bin .add (.tmp 46) (.tmp 47), none⟩,
           ⟨(some 49), .mv (.tmp 7), none⟩,
           ⟨(some 50), .bin .sub (.tmp 48) (.tmp 49), none⟩,
           ⟨(some 51), .iaddr 1 (.tmp 40) (.tmp 41), none⟩,
           ⟨none, .store 1 (.tmp 51) (.tmp 50), none⟩] [1, 6, 7, 8, 9]))
      (.reg [
          ⟨(some 38), .mv (.tmp 9), none⟩,
          ⟨(some 39), .bin .add (.tmp 38) (.const (.int .i64 1)), none⟩,
          ⟨(some 9), .mv (.tmp 39), none⟩] [1, 6, 7, 8, 9]))))))
    (.seq (.reg [
        ⟨(some 52), .mv (.tmp 8), none⟩,
        ⟨(some 4), .mv (.tmp 52), none⟩,
        ⟨(some 5), .mv (.const (.bool true)), none⟩] [4, 5])
    (.ret))))))
   (.reg [
       ⟨(some 20), .mv (.tmp 7), none⟩,
       ⟨(some 21), .bin .sub (.tmp 20) (.const (.int .i64 1)), none⟩,
       ⟨(some 7), .mv (.tmp 21), none⟩] [0, 1, 6, 7]))))))
 (.seq (.reg [
     ⟨(some 4), .mv (.const (.slice none 0 0)), none⟩,
     ⟨(some 5), .mv (.const (.bool false)), none⟩] [4, 5])
 (.ret)))))
theorem s_impl_NextSubset : stripF Tryz.prog 141 [[0, 1], [0, 1, 13], [4, 5], [0, 1, 6], [0, 1, 6, 7], [0, 1, 6, 7], [0, 1, 6, 7, 19], [0, 1, 6, 7, 31], [1, 6, 7, 8], [1, 6, 7, 8, 9], [1, 6, 7, 8, 9], [1, 6, 7, 8, 9, 37], [1, 6, 7, 8, 9], [1, 6, 7, 8, 9], [4, 5], [0, 1, 6, 7], [4, 5]] = some (c_impl_NextSubset, [.tmp 4, .tmp 5], 53) := by kernel_rfl
theorem _root_.Go.Av.GR.froz0 {H0 : List Blk} {R : AV → List Blk → Prop} {r r' : AV} (hf : Froz H0 H0.length r r') (h : R r' H0) : GR H0 R r H0 := by
  have := GR.froz (H0 := H0) (ext := []) (R := R) (by simpa using hf) h
  simpa using this
def tab (n : Nat) (f : Nat → Int) : List Int := (List.range n).map f
theorem tab_length (n : Nat) (f : Nat → Int) : (tab n f).length = n := by simp [tab]
theorem tab_getD {n : Nat} (f : Nat → Int) {i : Nat} (h : i < n) : (tab n f).getD i 0 = f i := by simp [tab, h]
theorem tab_set (n : Nat) (f : Nat → Int) (i : Nat) (v : Int) : (tab n f).set i v = tab n (fun j => if j = i then v else f j) := by
  unfold tab
  apply List.ext_getElem
  · simp
  · intro j h1 h2
    simp only [List.getElem_set, List.getElem_map, List.getElem_range]
    by_cases h : i = j
    · simp [h]
    · simp [h, Ne.symm h]
theorem tab_congr {n : Nat} {f g : Nat → Int} (h : ∀ j, j < n → f j = g j) : tab n f = tab n g := by
  unfold tab
  exact List.map_congr_left fun j hj => h j (List.mem_range.1 hj)
theorem tab_of (l : List Int) : l = tab l.length fun j => l.getD j 0 := by
  unfold tab
  apply List.ext_getElem
  · simp
  · intro j h1 h2
    simp [List.getElem?_eq_getElem h1]
theorem tab_rep (n : Nat) (v : Int) : List.replicate n v = tab n fun _ => v := by
  unfold tab
  apply List.ext_getElem <;> simp
theorem take_tab (n : Nat) (f : Nat → Int) : ((tab n f).map I).take n = (tab n f).map I := List.take_of_length_le (by simp [tab_length])
def chooseI (n k : Int) : Int :=
  if (decide (0 ≤ n) && decide (n ≤ 32)) && (decide (0 ≤ k) && decide (k ≤ n)) then (List.range k.toNat).foldl (fun c (i : Nat) => w64 ((w64 (c * (n - k + (i + 1 : Nat)))).tdiv (i + 1 : Nat))) 1 else 0
theorem clone_ok (H : List Blk) (a : AV) (xs : List Int) (ha : RdS H a xs) (hl : xs.length ≤ 1073741824) :
    ACalls Tryz.prog f_slices_Clone_Lint64_int64 [a] H (fun r H' => ∃ ver, r = .nm H.length ver 0 xs.length ∧ H' = H ++ [⟨ver, 2, 1, xs.map I⟩]) := by
  refine ACalls.introB s_slices_Clone_Lint64_int64 (by simp) ?_; intro hB hA; unfold c_slices_Clone_Lint64_int64; simp (config := { maxSteps := 1000000 }) (disch := (first | omega | (simp only [go_sem]; try omega))) only [go_sem, Nat.reduceAdd, Nat.reduceEqDiff, Nat.reduceLeDiff, Nat.reduceMul, Nat.reduceLT, reduceIte, Int.reduceToNat, w64_id, cast_succ]
  have h2 := aview_append ha [⟨0, 2, 1, []⟩]
  refine SW.seq ?_; refine SW.rowC ?_; simp (config := { maxSteps := 1000000 }) (disch := (first | omega | (simp only [go_sem]; try omega))) only [go_sem, Nat.reduceAdd, Nat.reduceEqDiff, Nat.reduceLeDiff, Nat.reduceMul, Nat.reduceLT, reduceIte, Int.reduceToNat, w64_id, cast_succ]
  refine SW.seq ?_
  refine SW.seq ?_; refine SW.rowC ?_; simp (config := { maxSteps := 1000000 }) (disch := (first | omega | (simp only [go_sem]; try omega))) only [go_sem, Nat.reduceAdd, Nat.reduceEqDiff, Nat.reduceLeDiff, Nat.reduceMul, Nat.reduceLT, reduceIte, Int.reduceToNat, w64_id, cast_succ, ha]
  intro b hb
  refine SW.condB rfl (fun h => ?_) (fun h => ?_)
  · have : xs = [] := List.eq_nil_of_length_eq_zero (hb h)
    subst this
    repeat (first | (with_reducible first | refine SW.seq ?_ | refine SW.block ?_ | refine SW.rowC ?_ | refine SW.skip ?_ | refine SW.exit ?_ | intro _ | refine And.intro (by omega) ?_) | simp (config := { maxSteps := 1000000 }) (disch := (first | omega | (simp only [go_sem]; try omega))) only [go_sem, Nat.reduceAdd, Nat.reduceEqDiff, Nat.reduceLeDiff, Nat.reduceMul, Nat.reduceLT, reduceIte, Int.reduceToNat, w64_id, cast_succ])
    refine SW.ret ?_; (try simp only [go_sem]); (first | refine FunPost.one ?_ | refine FunPost.two ?_ | refine FunPost.three ?_); (try simp (config := { maxSteps := 1000000 }) (disch := (first | omega | (simp only [go_sem]; try omega))) only [go_sem, Nat.reduceAdd, Nat.reduceEqDiff, Nat.reduceLeDiff, Nat.reduceMul, Nat.reduceLT, reduceIte, Int.reduceToNat, w64_id, cast_succ])
    refine GR.name 2 1 (GR.of ?_)
    exact ⟨0, rfl, rfl⟩
  · repeat (first | (with_reducible first | refine SW.seq ?_ | refine SW.block ?_ | refine SW.rowC ?_ | refine SW.skip ?_ | refine SW.exit ?_ | intro _ | refine And.intro (by omega) ?_) | simp (config := { maxSteps := 1000000 }) (disch := (first | omega | (simp only [go_sem]; try omega))) only [go_sem, Nat.reduceAdd, Nat.reduceEqDiff, Nat.reduceLeDiff, Nat.reduceMul, Nat.reduceLT, reduceIte, Int.reduceToNat, w64_id, cast_succ, ha, h2])
    refine SW.ret ?_; (try simp only [go_sem]); (first | refine FunPost.one ?_ | refine FunPost.two ?_ | refine FunPost.three ?_); (try simp (config := { maxSteps := 1000000 }) (disch := (first | omega | (simp only [go_sem]; try omega))) only [go_sem, Nat.reduceAdd, Nat.reduceEqDiff, Nat.reduceLeDiff, Nat.reduceMul, Nat.reduceLT, reduceIte, Int.reduceToNat, w64_id, cast_succ])
    exact GR.of ⟨1, rfl, rfl⟩
def nextGo (n : Int) (set : List Int) : Nat → Option (List Int)
  | 0 => none
  | i + 1 => if set.getD i 0 = n - set.length + i then nextGo n set i else some (tab set.length fun j => if j < i then set.getD j 0 else set.getD i 0 + 1 + j - i)
def nextSub (n : Int) (set : List Int) : Option (List Int) := nextGo n set set.length
def idL (k : Nat) : List Int := tab k fun i => i
end Go.Proofs.YtmdeibdplpodpaaGreat
