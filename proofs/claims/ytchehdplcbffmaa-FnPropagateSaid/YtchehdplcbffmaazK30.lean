/- Partial squares: candidates, empty cells, copies. -/
import Derived.Test.YtchehdplcbffmaaProg
import Derived.KernelRfl
import Derived.Test.YtchehdplcbffmaazQO
import Derived.Test.YtchehdplcbffmaazK29
import Derived.Test.YtchehdplcbffmaazK10
import Derived.Test.YtchehdplcbffmaazK20
set_option linter.unusedSimpArgs false
set_option linter.unusedVariables false
set_option maxHeartbeats 4000000
set_option maxRecDepth 100000
namespace Go.Proofs.Ytchehdplcbffmaa
open Go.Av
abbrev f_impl_copyLists : Nat := 47
def c_impl_copyLists : SC :=
 .seq (.reg [
     ⟨(some 2), .mv (.const (.slice none 0 0)), none⟩] [0])
 (.seq (.reg [
     ⟨(some 3), .mv (.const (.slice none 0 0)), none⟩] [0, 3])
 (.seq (.seq (.reg [
     ⟨(some 6), .mv (.tmp 0), none⟩,
     ⟨(some 7), .len (.tmp 6), none⟩,
     ⟨(some 8), .mv (.const (.int .i64 0)), none⟩] [3, 6, 7, 8])
 (.block 0 (.loop [3, 6, 7, 8]
   (.seq (.reg [
       ⟨(some 9), .bin .lss (.tmp 8) (.tmp 7), none⟩] [3, 6, 7, 8, 9])
   (.seq (.cond (.tmp 9)
    (.skip)
    (.exit 0))
   (.seq (.block 1 (.seq (.reg [
        ⟨(some 10), .iaddr 1 (.tmp 6) (.tmp 8), none⟩,
        ⟨(some 11), .load 1 false (.tmp 10), none⟩,
        ⟨(some 5), .mv (.tmp 11), none⟩] [3, 5, 6, 7, 8])
    (.reg [
        ⟨(some 12), .mv (.tmp 3), none⟩,
        ⟨(some 13), .mv (.tmp 5), none⟩,
        ⟨(some 14), .call 88 [(.tmp 13)], none⟩,
        ⟨(some 15), .bslice 33 1 1 [(.slice none 0 0)] [(0, (.tmp 14))], none⟩,
        ⟨(some 16), .app 33 1 24 (.tmp 12) (.tmp 15), none⟩,
        ⟨(some 3), .mv (.tmp 16), none⟩] [3, 6, 7, 8])))
   (.reg [
       ⟨(some 17), .bin .add (.tmp 8) (.const (.int .i64 1)), none⟩,
       ⟨(some 8), .mv (.tmp 17), none⟩] [3, 6, 7, 8])))))))
 (.seq (.reg [
     ⟨(some 18), .mv (.tmp 3), none⟩,
     ⟨(some 2), .mv (.tmp 18), none⟩] [2])
 (.ret))))
theorem s_impl_copyLists : stripF Try.prog 47 [[0], [0, 3], [3, 6, 7, 8], [3, 6, 7, 8], [3, 6, 7, 8, 9], [3, 5, 6, 7, 8], [3, 6, 7, 8], [3, 6, 7, 8], [2]] = some (c_impl_copyLists, [.tmp 2], 19) := by kernel_rfl
abbrev f_impl_emptyCells : Nat := 49
def c_impl_emptyCells : SC :=
 .seq (.reg [
     ⟨(some 2), .mv (.const (.slice none 0 0)), none⟩] [0])
 (.seq (.reg [
     ⟨(some 3), .mv (.const (.slice none 0 0)), none⟩] [0, 3])
 (.seq (.seq (.reg [
     ⟨(some 8), .mv (.tmp 0), none⟩,
     ⟨(some 9), .len (.tmp 8), none⟩,
     ⟨(some 10), .mv (.const (.int .i64 0)), none⟩] [0, 3, 8, 9, 10])
 (.block 0 (.loop [0, 3, 8, 9, 10]
   (.seq (.reg [
       ⟨(some 11), .bin .lss (.tmp 10) (.tmp 9), none⟩] [0, 3, 8, 9, 10, 11])
   (.seq (.cond (.tmp 11)
    (.skip)
    (.exit 0))
   (.seq (.block 1 (.seq (.reg [
        ⟨(some 12), .mv (.tmp 10), none⟩,
        ⟨(some 13), .iaddr 1 (.tmp 8) (.tmp 10), none⟩,
        ⟨(some 14), .load 1 false (.tmp 13), none⟩,
        ⟨(some 4), .mv (.tmp 12), none⟩,
        ⟨(some 5), .mv (.tmp 14), none⟩] [0, 3, 4, 5, 8, 9, 10])
    (.seq (.reg [
        ⟨(some 15), .mv (.tmp 5), none⟩,
        ⟨(some 16), .len (.tmp 15), none⟩,
        ⟨(some 17), .mv (.const (.int .i64 0)), none⟩] [0, 3, 4, 8, 9, 10, 15, 16, 17])
    (.block 2 (.loop [0, 3, 4, 8, 9, 10, 15, 16, 17]
      (.seq (.reg [
          ⟨(some 18), .bin .lss (.tmp 17) (.tmp 16), none⟩] [0, 3, 4, 8, 9, 10, 15, 16, 17, 18])
      (.seq (.cond (.tmp 18)
       (.skip)
       (.exit 2))
      (.seq (.block 3 (.seq (.reg [
           ⟨(some 19), .mv (.tmp 17), none⟩,
           ⟨(some 20), .iaddr 1 (.tmp 15) (.tmp 17), none⟩,
           ⟨(some 21), .load 1 false (.tmp 20), none⟩,
           ⟨(some 6), .mv (.tmp 19), none⟩,
           ⟨(some 7), .mv (.tmp 21), none⟩] [0, 3, 4, 6, 7, 8, 9, 10, 15, 16, 17])
       (.seq (.reg [
           ⟨(some 22), .mv (.tmp 7), none⟩,
           ⟨(some 23), .bin .eql (.tmp 22) (.const (.int .i64 (-1))), none⟩] [0, 3, 4, 6, 8, 9, 10, 15, 16, 17, 23])
       (.cond (.tmp 23)
        (.reg [
            ⟨(some 24), .mv (.tmp 3), none⟩,
            ⟨(some 25), .mv (.tmp 4), none⟩,
            ⟨(some 26), .mv (.tmp 0), none⟩,
            ⟨(some 27), .len (.tmp 26), none⟩,
            ⟨(some 28), .bin .mul (.tmp 25) (.tmp 27), none⟩,
            ⟨(some 29), .mv (.tmp 6), none⟩,
            ⟨(some 30), .bin .add (.tmp 28) (.tmp 29), none⟩,
            ⟨(some 31), .bslice 2 1 1 [(.int .i64 0)] [(0, (.tmp 30))], none⟩,
            ⟨(some 32), .app 2 1 8 (.tmp 24) (.tmp 31), none⟩,
            ⟨(some 3), .mv (.tmp 32), none⟩] [0, 3, 4, 8, 9, 10, 15, 16, 17])
        (.skip)))))
      (.reg [
          ⟨(some 33), .bin .add (.tmp 17) (.const (.int .i64 1)), none⟩,
          ⟨(some 17), .mv (.tmp 33), none⟩] [0, 3, 4, 8, 9, 10, 15, 16, 17])))))))))
   (.reg [
       ⟨(some 34), .bin .add (.tmp 10) (.const (.int .i64 1)), none⟩,
       ⟨(some 10), .mv (.tmp 34), none⟩] [0, 3, 8, 9, 10])))))))
 (.seq (.reg [
     ⟨(some 35), .mv (.tmp 3), none⟩,
     ⟨(some 2), .mv (.tmp 35), none⟩] [2])
 (.ret))))
theorem s_impl_emptyCells : stripF Try.prog 49 [[0], [0, 3], [0, 3, 8, 9, 10], [0, 3, 8, 9, 10], [0, 3, 8, 9, 10, 11], [0, 3, 4, 5, 8, 9, 10], [0, 3, 4, 8, 9, 10, 15, 16, 17], [0, 3, 4, 8, 9, 10, 15, 16, 17], [0, 3, 4, 8, 9, 10, 15, 16, 17, 18], [0, 3, 4, 6, 7, 8, 9, 10, 15, 16, 17], [0, 3, 4, 6, 8, 9, 10, 15, 16, 17, 23], [0, 3, 4, 8, 9, 10, 15, 16, 17], [0, 3, 4, 8, 9, 10, 15, 16, 17], [0, 3, 8, 9, 10], [2]] = some (c_impl_emptyCells, [.tmp 2], 36) := by kernel_rfl
abbrev f_impl_candidates : Nat := 52
def c_impl_candidates : SC :=
 .seq (.reg [
     ⟨(some 6), .mv (.const (.slice none 0 0)), none⟩] [0, 1, 2])
 (.seq (.reg [
     ⟨(some 7), .mv (.const (.slice none 0 0)), none⟩] [0, 1, 2, 7])
 (.seq (.seq (.reg [
     ⟨(some 8), .mv (.const (.int .i64 0)), none⟩] [0, 1, 2, 7, 8])
 (.block 0 (.loop [0, 1, 2, 7, 8]
   (.seq (.seq (.reg [
       ⟨(some 9), .mv (.tmp 8), none⟩,
       ⟨(some 10), .mv (.tmp 0), none⟩,
       ⟨(some 11), .call 42 [(.tmp 10)], none⟩,
       ⟨(some 12), .bin .lss (.tmp 9) (.tmp 11), none⟩] [0, 1, 2, 7, 8, 12])
   (.cond (.tmp 12)
    (.skip)
    (.exit 0)))
   (.seq (.block 1 (.seq (.reg [
        ⟨(some 15), .mv (.tmp 0), none⟩,
        ⟨(some 16), .mv (.tmp 1), none⟩,
        ⟨(some 17), .iaddr 1 (.tmp 15) (.tmp 16), none⟩,
        ⟨(some 18), .load 1 false (.tmp 17), none⟩,
        ⟨(some 19), .mv (.tmp 8), none⟩,
        ⟨(some 20), .call 53 [(.tmp 18), (.tmp 19)], none⟩,
        ⟨(some 21), .un .not (.tmp 20), none⟩,
        ⟨(some 22), .mv (.tmp 21), none⟩,
        ⟨(some 23), .mv (.tmp 0), (some (22, true))⟩,
        ⟨(some 24), .mv (.tmp 2), (some (22, true))⟩,
        ⟨(some 25), .mv (.tmp 8), (some (22, true))⟩,
        ⟨(some 26), .call 54 [(.tmp 23), (.tmp 24), (.tmp 25)], (some (22, true))⟩,
        ⟨(some 27), .un .not (.tmp 26), (some (22, true))⟩,
        ⟨(some 28), .pick (.tmp 22) (.tmp 27) (.const (.bool false)), none⟩] [0, 1, 2, 7, 8, 28])
    (.cond (.tmp 28)
     (.reg [
         ⟨(some 29), .mv (.tmp 7), none⟩,
         ⟨(some 30), .mv (.tmp 8), none⟩,
         ⟨(some 31), .bslice 2 1 1 [(.int .i64 0)] [(0, (.tmp 30))], none⟩,
         ⟨(some 32), .app 2 1 8 (.tmp 29) (.tmp 31), none⟩,
         ⟨(some 7), .mv (.tmp 32), none⟩] [0, 1, 2, 7, 8])
     (.skip))))
   (.reg [
       ⟨(some 13), .mv (.tmp 8), none⟩,
       ⟨(some 14), .bin .add (.tmp 13) (.const (.int .i64 1)), none⟩,
       ⟨(some 8), .mv (.tmp 14), none⟩] [0, 1, 2, 7, 8]))))))
 (.seq (.reg [
     ⟨(some 33), .mv (.tmp 7), none⟩,
     ⟨(some 6), .mv (.tmp 33), none⟩] [6])
 (.ret))))
theorem s_impl_candidates : stripF Try.prog 52 [[0, 1, 2], [0, 1, 2, 7], [0, 1, 2, 7, 8], [0, 1, 2, 7, 8], [0, 1, 2, 7, 8, 12], [0, 1, 2, 7, 8, 28], [0, 1, 2, 7, 8], [0, 1, 2, 7, 8], [6]] = some (c_impl_candidates, [.tmp 6], 34) := by kernel_rfl
abbrev f_spec_l09Candidates : Nat := 78
def c_spec_l09Candidates : SC :=
 .seq (.reg [
     ⟨(some 6), .mv (.const (.slice none 0 0)), none⟩] [0, 1, 2])
 (.seq (.reg [
     ⟨(some 12), .mv (.tmp 0), none⟩,
     ⟨(some 13), .len (.tmp 12), none⟩,
     ⟨(some 7), .mv (.tmp 13), none⟩] [0, 1, 2, 7])
 (.seq (.reg [
     ⟨(some 14), .bslice 2 1 0 [] [], none⟩,
     ⟨(some 8), .mv (.tmp 14), none⟩] [0, 1, 2, 7, 8])
 (.seq (.seq (.reg [
     ⟨(some 9), .mv (.const (.int .i64 0)), none⟩] [0, 1, 2, 7, 8, 9])
 (.block 0 (.loop [0, 1, 2, 7, 8, 9]
   (.seq (.seq (.reg [
       ⟨(some 15), .mv (.tmp 9), none⟩,
       ⟨(some 16), .mv (.tmp 7), none⟩,
       ⟨(some 17), .bin .lss (.tmp 15) (.tmp 16), none⟩] [0, 1, 2, 7, 8, 9, 17])
   (.cond (.tmp 17)
    (.skip)
    (.exit 0)))
   (.seq (.block 1 (.seq (.reg [
        ⟨(some 10), .mv (.const (.bool true)), none⟩] [0, 1, 2, 7, 8, 9, 10])
    (.seq (.seq (.reg [
        ⟨(some 11), .mv (.const (.int .i64 0)), none⟩] [0, 1, 2, 7, 8, 9, 10, 11])
    (.block 2 (.loop [0, 1, 2, 7, 8, 9, 10, 11]
      (.seq (.seq (.reg [
          ⟨(some 20), .mv (.tmp 11), none⟩,
          ⟨(some 21), .mv (.tmp 7), none⟩,
          ⟨(some 22), .bin .lss (.tmp 20) (.tmp 21), none⟩] [0, 1, 2, 7, 8, 9, 10, 11, 22])
      (.cond (.tmp 22)
       (.skip)
       (.exit 2)))
      (.seq (.block 3 (.seq (.reg [
           ⟨(some 25), .mv (.tmp 0), none⟩,
           ⟨(some 26), .mv (.tmp 1), none⟩,
           ⟨(some 27), .iaddr 1 (.tmp 25) (.tmp 26), none⟩,
           ⟨(some 28), .load 1 false (.tmp 27), none⟩,
           ⟨(some 29), .mv (.tmp 11), none⟩,
           ⟨(some 30), .iaddr 1 (.tmp 28) (.tmp 29), none⟩,
           ⟨(some 31), .load 1 false (.tmp 30), none⟩,
           ⟨(some 32), .mv (.tmp 9), none⟩,
           ⟨(some 33), .bin .eql (.tmp 31) (.tmp 32), none⟩,
           ⟨(some 34), .mv (.tmp 33), none⟩,
           ⟨(some 35), .mv (.tmp 0), (some (34, false))⟩,
           ⟨(some 36), .mv (.tmp 11), (some (34, false))⟩,
           ⟨(some 37), .iaddr 1 (.tmp 35) (.tmp 36), (some (34, false))⟩,
           ⟨(some 38), .load 1 false (.tmp 37), (some (34, false))⟩,
           ⟨(some 39), .mv (.tmp 2), (some (34, false))⟩,
           ⟨(some 40), .iaddr 1 (.tmp 38) (.tmp 39), (some (34, false))⟩,
           ⟨(some 41), .load 1 false (.tmp 40), (some (34, false))⟩,
           ⟨(some 42), .mv (.tmp 9), (some (34, false))⟩,
           ⟨(some 43), .bin .eql (.tmp 41) (.tmp 42), (some (34, false))⟩,
           ⟨(some 44), .pick (.tmp 34) (.const (.bool true)) (.tmp 43), none⟩] [0, 1, 2, 7, 8, 9, 10, 11, 44])
       (.cond (.tmp 44)
        (.reg [
            ⟨(some 10), .mv (.const (.bool false)), none⟩] [0, 1, 2, 7, 8, 9, 10, 11])
        (.skip))))
      (.reg [
          ⟨(some 23), .mv (.tmp 11), none⟩,
          ⟨(some 24), .bin .add (.tmp 23) (.const (.int .i64 1)), none⟩,
          ⟨(some 11), .mv (.tmp 24), none⟩] [0, 1, 2, 7, 8, 9, 10, 11]))))))
    (.seq (.reg [
        ⟨(some 45), .mv (.tmp 10), none⟩] [0, 1, 2, 7, 8, 9, 45])
    (.cond (.tmp 45)
     (.reg [
         ⟨(some 46), .mv (.tmp 8), none⟩,
         ⟨(some 47), .mv (.tmp 9), none⟩,
         ⟨(some 48), .bslice 2 1 1 [(.int .i64 0)] [(0, (.tmp 47))], none⟩,
         ⟨(some 49), .app 2 1 8 (.tmp 46) (.tmp 48), none⟩,
         ⟨(some 8), .mv (.tmp 49), none⟩] [0, 1, 2, 7, 8, 9])
     (.skip))))))
   (.reg [
       ⟨(some 18), .mv (.tmp 9), none⟩,
       ⟨(some 19), .bin .add (.tmp 18) (.const (.int .i64 1)), none⟩,
       ⟨(some 9), .mv (.tmp 19), none⟩] [0, 1, 2, 7, 8, 9]))))))
 (.seq (.reg [
     ⟨(some 50), .mv (.tmp 8), none⟩,
     ⟨(some 6), .mv (.tmp 50), none⟩] [6])
 (.ret)))))
theorem s_spec_l09Candidates : stripF Try.prog 78 [[0, 1, 2], [0, 1, 2, 7], [0, 1, 2, 7, 8], [0, 1, 2, 7, 8, 9], [0, 1, 2, 7, 8, 9], [0, 1, 2, 7, 8, 9, 17], [0, 1, 2, 7, 8, 9, 10], [0, 1, 2, 7, 8, 9, 10, 11], [0, 1, 2, 7, 8, 9, 10, 11], [0, 1, 2, 7, 8, 9, 10, 11, 22], [0, 1, 2, 7, 8, 9, 10, 11, 44], [0, 1, 2, 7, 8, 9, 10, 11], [0, 1, 2, 7, 8, 9, 10, 11], [0, 1, 2, 7, 8, 9, 45], [0, 1, 2, 7, 8, 9], [0, 1, 2, 7, 8, 9], [6]] = some (c_spec_l09Candidates, [.tmp 6], 51) := by kernel_rfl
def candP (p : List (List Int)) (x y : Nat) (v : Nat) : Bool := !(p.getD x []).contains (v : Int) && !colHas p y v
def cands (p : List (List Int)) (x y m : Nat) : List Int := ((List.range m).filter (candP p x y)).map fun (v : Nat) => (v : Int)
theorem cands_succ (p : List (List Int)) (x y m : Nat) : cands p x y (m + 1) = cands p x y m ++ (if candP p x y m then [(m : Int)] else []) := by
  unfold cands
  rw [List.range_succ, List.filter_append, List.map_append, List.filter_cons, List.filter_nil]
  congr 1
  split <;> rfl
theorem cands_len (p : List (List Int)) (x y m : Nat) : (cands p x y m).length ≤ m := by
  have := List.length_filter_le (candP p x y) (List.range m)
  unfold cands; rw [List.length_map]; rwa [List.length_range] at this
theorem cands_mem {p : List (List Int)} {x y m : Nat} {v : Int} (h : v ∈ cands p x y m) : 0 ≤ v ∧ v < m := by
  obtain ⟨k, hk, rfl⟩ := List.mem_map.1 h
  have := List.mem_range.1 (List.mem_filter.1 hk).1
  omega
theorem candidates_new (p : List (List Int)) (x y : Nat) (hn : p.length ≤ 100) (hx : x < p.length) (hy : ∀ r ∈ p, y < r.length) : NewL Try.prog f_impl_candidates [ilSS p, I x, I y] (cands p x y p.length) := by
  intro H
  refine ACalls.introB s_impl_candidates (by simp) ?_; intro hB hA; unfold c_impl_candidates; simp (config := { maxSteps := 1000000 }) (disch := (first | omega | (simp only [go_sem]; try omega))) only [go_sem, Nat.reduceAdd, Nat.reduceEqDiff, Nat.reduceLeDiff, Nat.reduceMul, Nat.reduceLT, reduceIte, Int.reduceToNat, w64_id, cast_succ]
  repeat (first | (with_reducible first | refine SW.seq ?_ | refine SW.block ?_ | refine SW.rowC ?_ | refine SW.skip ?_ | refine SW.exit ?_ | intro _ | refine And.intro (by omega) ?_) | simp (config := { maxSteps := 1000000 }) (disch := (first | omega | (simp only [go_sem]; try omega))) only [go_sem, Nat.reduceAdd, Nat.reduceEqDiff, Nat.reduceLeDiff, Nat.reduceMul, Nat.reduceLT, reduceIte, Int.reduceToNat, w64_id, cast_succ])
  refine SW.ghost (Gh.name 7 2 1 rfl) ?_
  simp (config := { maxSteps := 1000000 }) (disch := (first | omega | (simp only [go_sem]; try omega))) only [go_sem, Nat.reduceAdd, Nat.reduceEqDiff, Nat.reduceLeDiff, Nat.reduceMul, Nat.reduceLT, reduceIte, Int.reduceToNat, w64_id, cast_succ]
  refine SW.loopE (fun E0 H0 q E' H' => ∃ (m ver : Nat), m ≤ p.length ∧ q = p.length - m ∧ E' = aput (aput E0 8 (I m)) 7 (.nm H.length ver 0 (cands p x y m).length) ∧ H' = H ++ [⟨ver, 2, 1, (cands p x y m).map I⟩]) p.length ⟨0, 0, by omega, by omega, rfl, rfl⟩ ?_
  rintro q E' H' ⟨m, ver, hm, rfl, rfl, rfl⟩
  have hcl := cands_len p x y m
  have hcs := cands_succ p x y m
  generalize hC : cands p x y m = C at *
  simp (config := { maxSteps := 1000000 }) (disch := (first | omega | (simp only [go_sem]; try omega))) only [go_sem, Nat.reduceAdd, Nat.reduceEqDiff, Nat.reduceLeDiff, Nat.reduceMul, Nat.reduceLT, reduceIte, Int.reduceToNat, w64_id, cast_succ]
  repeat (first | (with_reducible first | refine SW.seq ?_ | refine SW.block ?_ | refine SW.rowC ?_ | refine SW.skip ?_ | refine SW.exit ?_ | refine PFn.use (sizeS_fn _) ?_ | refine PFn.useq (sizeS_fn _) ?_ | intro _ | refine And.intro (by omega) ?_) | simp (config := { maxSteps := 1000000 }) (disch := (first | omega | (simp only [go_sem]; try omega))) only [go_sem, Nat.reduceAdd, Nat.reduceEqDiff, Nat.reduceLeDiff, Nat.reduceMul, Nat.reduceLT, reduceIte, Int.reduceToNat, w64_id, cast_succ])
  (first | refine SW.condD rfl (fun h => ?_) (fun h => ?_) | refine SW.condN rfl (fun h => ?_) (fun h => ?_) | refine SW.condNB rfl (fun h => ?_) (fun h => ?_) | refine SW.condB rfl (fun h => ?_) (fun h => ?_))
  · repeat (first | (with_reducible first | refine SW.seq ?_ | refine SW.block ?_ | refine SW.rowC ?_ | refine SW.skip ?_ | refine SW.exit ?_ | refine PFn.use (ContainsI_fn _ _) ?_ | refine PFn.useq (ContainsI_fn _ _) ?_ | intro _ | refine And.intro (by omega) ?_) | simp (config := { maxSteps := 1000000 }) (disch := (first | omega | (simp only [go_sem]; try omega))) only [go_sem, Nat.reduceAdd, Nat.reduceEqDiff, Nat.reduceLeDiff, Nat.reduceMul, Nat.reduceLT, reduceIte, Int.reduceToNat, w64_id, cast_succ])
    cases h1 : (p.getD x []).contains (m : Int)
    · repeat (first | (with_reducible first | refine SW.seq ?_ | refine SW.block ?_ | refine SW.rowC ?_ | refine SW.skip ?_ | refine SW.exit ?_ | refine PFn.use (inColumn_fn p y m hy) ?_ | refine PFn.useq (inColumn_fn p y m hy) ?_ | intro _ | refine And.intro (by omega) ?_) | simp (config := { maxSteps := 1000000 }) (disch := (first | omega | (simp only [go_sem]; try omega))) only [go_sem, Nat.reduceAdd, Nat.reduceEqDiff, Nat.reduceLeDiff, Nat.reduceMul, Nat.reduceLT, reduceIte, Int.reduceToNat, w64_id, cast_succ, h1])
      cases h2 : colHas p y (m : Int)
      · refine SW.condT rfl ?_
        rw [if_pos (by unfold candP; rw [h1, h2]; rfl)] at hcs
        repeat (first | (with_reducible first | refine SW.seq ?_ | refine SW.block ?_ | refine SW.rowC ?_ | refine SW.skip ?_ | refine SW.exit ?_ | intro _ | refine And.intro (by omega) ?_) | simp (config := { maxSteps := 1000000 }) (disch := (first | omega | (simp only [go_sem]; try omega))) only [go_sem, Nat.reduceAdd, Nat.reduceEqDiff, Nat.reduceLeDiff, Nat.reduceMul, Nat.reduceLT, reduceIte, Int.reduceToNat, w64_id, cast_succ])
        refine SLoop.nextT 1 (p.length - (m + 1)) hB (by omega) (by omega) (by simp) ?_ ?_ ⟨m + 1, ver + 1, by omega, rfl, ?_, ?_⟩
        · (simp only [go_sem, Nat.reduceAdd, Nat.reduceEqDiff, reduceIte, go_sem, and_self, and_true, true_and, implies_true, List.take_succ_cons, List.take_zero, and_true, true_and]; try omega)
        · (simp only [go_sem, Nat.reduceAdd, Nat.reduceEqDiff, reduceIte, go_sem, and_self, and_true, true_and, implies_true, List.take_succ_cons, List.take_zero, and_true, true_and]; try omega)
        · rw [hcs]; simp [go_sem]
        · rw [hcs]; simp
      · refine SW.condF rfl ?_
        rw [if_neg (by unfold candP; rw [h1, h2]; simp), List.append_nil] at hcs
        repeat (first | (with_reducible first | refine SW.seq ?_ | refine SW.block ?_ | refine SW.rowC ?_ | refine SW.skip ?_ | refine SW.exit ?_ | intro _ | refine And.intro (by omega) ?_) | simp (config := { maxSteps := 1000000 }) (disch := (first | omega | (simp only [go_sem]; try omega))) only [go_sem, Nat.reduceAdd, Nat.reduceEqDiff, Nat.reduceLeDiff, Nat.reduceMul, Nat.reduceLT, reduceIte, Int.reduceToNat, w64_id, cast_succ])
        refine SLoop.next (p.length - (m + 1)) (by omega) ⟨m + 1, ver, by omega, rfl, ?_, by rw [hcs]⟩
        rw [hcs]; simp [go_sem]
    · repeat (first | (with_reducible first | refine SW.seq ?_ | refine SW.block ?_ | refine SW.rowC ?_ | refine SW.skip ?_ | refine SW.exit ?_ | intro _ | refine And.intro (by omega) ?_) | simp (config := { maxSteps := 1000000 }) (disch := (first | omega | (simp only [go_sem]; try omega))) only [go_sem, Nat.reduceAdd, Nat.reduceEqDiff, Nat.reduceLeDiff, Nat.reduceMul, Nat.reduceLT, reduceIte, Int.reduceToNat, w64_id, cast_succ, h1])
      refine SW.condF rfl ?_
      rw [if_neg (by unfold candP; rw [h1]; simp), List.append_nil] at hcs
      repeat (first | (with_reducible first | refine SW.seq ?_ | refine SW.block ?_ | refine SW.rowC ?_ | refine SW.skip ?_ | refine SW.exit ?_ | intro _ | refine And.intro (by omega) ?_) | simp (config := { maxSteps := 1000000 }) (disch := (first | omega | (simp only [go_sem]; try omega))) only [go_sem, Nat.reduceAdd, Nat.reduceEqDiff, Nat.reduceLeDiff, Nat.reduceMul, Nat.reduceLT, reduceIte, Int.reduceToNat, w64_id, cast_succ])
      refine SLoop.next (p.length - (m + 1)) (by omega) ⟨m + 1, ver, by omega, rfl, ?_, by rw [hcs]⟩
      rw [hcs]; simp [go_sem]
  · have : m = p.length := by omega
    subst this
    repeat (first | (with_reducible first | refine SW.seq ?_ | refine SW.block ?_ | refine SW.rowC ?_ | refine SW.skip ?_ | refine SW.exit ?_ | intro _ | refine And.intro (by omega) ?_) | simp (config := { maxSteps := 1000000 }) (disch := (first | omega | (simp only [go_sem]; try omega))) only [go_sem, Nat.reduceAdd, Nat.reduceEqDiff, Nat.reduceLeDiff, Nat.reduceMul, Nat.reduceLT, reduceIte, Int.reduceToNat, w64_id, cast_succ])
    refine SW.ret ?_; (try simp only [go_sem]); (first | refine FunPost.one ?_ | refine FunPost.two ?_ | refine FunPost.three ?_); (try simp (config := { maxSteps := 1000000 }) (disch := (first | omega | (simp only [go_sem]; try omega))) only [go_sem, Nat.reduceAdd, Nat.reduceEqDiff, Nat.reduceLeDiff, Nat.reduceMul, Nat.reduceLT, reduceIte, Int.reduceToNat, w64_id, cast_succ])
    rw [hC]
    exact GR.of (newL_of (ver := ver) (ty := 2) (Nat.le_refl _) (by simp))
theorem l09Candidates_new (p : List (List Int)) (x y : Nat) (hn : p.length ≤ 100) (hx : x < p.length) (hl : ∀ r ∈ p, r.length = p.length) (hy : y < p.length) : NewL Try.prog f_spec_l09Candidates [ilSS p, I x, I y] (cands p x y p.length) := by
  intro H
  have hrow : (p.getD x []).length = p.length := hl _ (by simp [List.getElem?_eq_getElem hx])
  refine ACalls.introB s_spec_l09Candidates (by simp) ?_; intro hB hA; unfold c_spec_l09Candidates; simp (config := { maxSteps := 1000000 }) (disch := (first | omega | (simp only [go_sem]; try omega))) only [go_sem, Nat.reduceAdd, Nat.reduceEqDiff, Nat.reduceLeDiff, Nat.reduceMul, Nat.reduceLT, reduceIte, Int.reduceToNat, w64_id, cast_succ]
  repeat (first | (with_reducible first | refine SW.seq ?_ | refine SW.block ?_ | refine SW.rowC ?_ | refine SW.skip ?_ | refine SW.exit ?_ | intro _ | refine And.intro (by omega) ?_) | simp (config := { maxSteps := 1000000 }) (disch := (first | omega | (simp only [go_sem]; try omega))) only [go_sem, Nat.reduceAdd, Nat.reduceEqDiff, Nat.reduceLeDiff, Nat.reduceMul, Nat.reduceLT, reduceIte, Int.reduceToNat, w64_id, cast_succ])
  refine SW.loopE (fun E0 H0 q E' H' => ∃ (m ver : Nat), m ≤ p.length ∧ q = p.length - m ∧ E' = aput (aput E0 9 (I m)) 8 (.nm H.length ver 0 (cands p x y m).length) ∧ H' = H ++ [⟨ver, 2, 1, (cands p x y m).map I⟩]) p.length ⟨0, 0, by omega, by omega, rfl, rfl⟩ ?_
  rintro q E' H' ⟨m, ver, hm, rfl, rfl, rfl⟩
  have hcl := cands_len p x y m
  have hcs := cands_succ p x y m
  generalize hC : cands p x y m = C at *
  simp (config := { maxSteps := 1000000 }) (disch := (first | omega | (simp only [go_sem]; try omega))) only [go_sem, Nat.reduceAdd, Nat.reduceEqDiff, Nat.reduceLeDiff, Nat.reduceMul, Nat.reduceLT, reduceIte, Int.reduceToNat, w64_id, cast_succ]
  repeat (first | (with_reducible first | refine SW.seq ?_ | refine SW.block ?_ | refine SW.rowC ?_ | refine SW.skip ?_ | refine SW.exit ?_ | intro _ | refine And.intro (by omega) ?_) | simp (config := { maxSteps := 1000000 }) (disch := (first | omega | (simp only [go_sem]; try omega))) only [go_sem, Nat.reduceAdd, Nat.reduceEqDiff, Nat.reduceLeDiff, Nat.reduceMul, Nat.reduceLT, reduceIte, Int.reduceToNat, w64_id, cast_succ])
  (first | refine SW.condD rfl (fun h => ?_) (fun h => ?_) | refine SW.condN rfl (fun h => ?_) (fun h => ?_) | refine SW.condNB rfl (fun h => ?_) (fun h => ?_) | refine SW.condB rfl (fun h => ?_) (fun h => ?_))
  · repeat (first | (with_reducible first | refine SW.seq ?_ | refine SW.block ?_ | refine SW.rowC ?_ | refine SW.skip ?_ | refine SW.exit ?_ | intro _ | refine And.intro (by omega) ?_) | simp (config := { maxSteps := 1000000 }) (disch := (first | omega | (simp only [go_sem]; try omega))) only [go_sem, Nat.reduceAdd, Nat.reduceEqDiff, Nat.reduceLeDiff, Nat.reduceMul, Nat.reduceLT, reduceIte, Int.reduceToNat, w64_id, cast_succ])
    refine SW.loopE (fun E0 H0 q E' H' => ∃ k : Nat, k ≤ p.length ∧ q = p.length - k ∧ E' = aput (aput E0 11 (I k)) 10 (Bv (!((p.getD x []).take k).contains (m : Int) && !colHas (p.take k) y m)) ∧ H' = H0) p.length ⟨0, by omega, by omega, rfl, rfl⟩ ?_
    rintro q E' H' ⟨k, hk, rfl, rfl, rfl⟩
    simp (config := { maxSteps := 1000000 }) (disch := (first | omega | (simp only [go_sem]; try omega))) only [go_sem, Nat.reduceAdd, Nat.reduceEqDiff, Nat.reduceLeDiff, Nat.reduceMul, Nat.reduceLT, reduceIte, Int.reduceToNat, w64_id, cast_succ]
    repeat (first | (with_reducible first | refine SW.seq ?_ | refine SW.block ?_ | refine SW.rowC ?_ | refine SW.skip ?_ | refine SW.exit ?_ | intro _ | refine And.intro (by omega) ?_) | simp (config := { maxSteps := 1000000 }) (disch := (first | omega | (simp only [go_sem]; try omega))) only [go_sem, Nat.reduceAdd, Nat.reduceEqDiff, Nat.reduceLeDiff, Nat.reduceMul, Nat.reduceLT, reduceIte, Int.reduceToNat, w64_id, cast_succ])
    (first | refine SW.condD rfl (fun h2 => ?_) (fun h2 => ?_) | refine SW.condN rfl (fun h2 => ?_) (fun h2 => ?_) | refine SW.condNB rfl (fun h2 => ?_) (fun h2 => ?_) | refine SW.condB rfl (fun h2 => ?_) (fun h2 => ?_))
    · have hkl : k < p.length := by omega
      have hgk : p[k]? = some (p.getD k []) := by simp [List.getElem?_eq_getElem hkl]
      have hkr : (p.getD k []).length = p.length := hl _ (by simp [List.getElem?_eq_getElem hkl])
      have e1 : ((p.getD x []).take (k + 1)).contains (m : Int) = (((p.getD x []).take k).contains (m : Int) || decide ((p.getD x []).getD k 0 = m)) := by
        have hgd : (p.getD x [])[k]? = some ((p.getD x []).getD k 0) := by
          have h5 := List.getElem?_eq_getElem (l := p.getD x []) (i := k) (by omega)
          rw [h5]; exact congrArg some (getD_get (by omega)).symm
        rw [List.take_add_one, hgd]
        rw [Bool.eq_iff_iff]
        simp only [Option.toList_some, List.contains_iff_mem, List.mem_append, List.mem_singleton, Bool.or_eq_true, decide_eq_true_eq]
        constructor
        · rintro (h | h)
          · exact .inl h
          · exact .inr h.symm
        · rintro (h | h)
          · exact .inl h
          · exact .inr h.symm
      have e2 : colHas (p.take (k + 1)) y m = (colHas (p.take k) y m || decide ((p.getD k []).getD y 0 = m)) := by
        unfold colHas
        rw [List.take_add_one, hgk]; simp
      have next : ∀ b : Bool, b = (!((p.getD x []).take k).contains (m : Int) && !colHas (p.take k) y m && !(decide ((p.getD x []).getD k 0 = m) || decide ((p.getD k []).getD y 0 = m))) → Bv b = Bv (!((p.getD x []).take (k + 1)).contains (m : Int) && !colHas (p.take (k + 1)) y m) := by
        rintro b rfl
        rw [e1, e2]
        cases ((p.getD x []).take k).contains (m : Int) <;> cases colHas (p.take k) y m <;> cases decide ((p.getD x []).getD k 0 = m) <;> cases decide ((p.getD k []).getD y 0 = m) <;> rfl
      by_cases c1 : (p.getD x []).getD k 0 = (m : Int)
      · repeat (first | (with_reducible first | refine SW.seq ?_ | refine SW.block ?_ | refine SW.rowC ?_ | refine SW.skip ?_ | refine SW.exit ?_ | intro _ | refine And.intro (by omega) ?_) | simp (config := { maxSteps := 1000000 }) (disch := (first | omega | (simp only [go_sem]; try omega))) only [go_sem, Nat.reduceAdd, Nat.reduceEqDiff, Nat.reduceLeDiff, Nat.reduceMul, Nat.reduceLT, reduceIte, Int.reduceToNat, w64_id, cast_succ, c1])
        refine SW.condT rfl ?_
        repeat (first | (with_reducible first | refine SW.seq ?_ | refine SW.block ?_ | refine SW.rowC ?_ | refine SW.skip ?_ | refine SW.exit ?_ | intro _ | refine And.intro (by omega) ?_) | simp (config := { maxSteps := 1000000 }) (disch := (first | omega | (simp only [go_sem]; try omega))) only [go_sem, Nat.reduceAdd, Nat.reduceEqDiff, Nat.reduceLeDiff, Nat.reduceMul, Nat.reduceLT, reduceIte, Int.reduceToNat, w64_id, cast_succ])
        refine SLoop.next (p.length - (k + 1)) (by omega) ⟨k + 1, by omega, rfl, ?_, rfl⟩
        rw [← next false (by rw [decide_eq_true c1]; simp)]
        simp [go_sem]
      · by_cases c2 : (p.getD k []).getD y 0 = (m : Int)
        · repeat (first | (with_reducible first | refine SW.seq ?_ | refine SW.block ?_ | refine SW.rowC ?_ | refine SW.skip ?_ | refine SW.exit ?_ | intro _ | refine And.intro (by omega) ?_) | simp (config := { maxSteps := 1000000 }) (disch := (first | omega | (simp only [go_sem]; try omega))) only [go_sem, Nat.reduceAdd, Nat.reduceEqDiff, Nat.reduceLeDiff, Nat.reduceMul, Nat.reduceLT, reduceIte, Int.reduceToNat, w64_id, cast_succ, c1, c2, hkr])
          refine SW.condT rfl ?_
          repeat (first | (with_reducible first | refine SW.seq ?_ | refine SW.block ?_ | refine SW.rowC ?_ | refine SW.skip ?_ | refine SW.exit ?_ | intro _ | refine And.intro (by omega) ?_) | simp (config := { maxSteps := 1000000 }) (disch := (first | omega | (simp only [go_sem]; try omega))) only [go_sem, Nat.reduceAdd, Nat.reduceEqDiff, Nat.reduceLeDiff, Nat.reduceMul, Nat.reduceLT, reduceIte, Int.reduceToNat, w64_id, cast_succ])
          refine SLoop.next (p.length - (k + 1)) (by omega) ⟨k + 1, by omega, rfl, ?_, rfl⟩
          rw [← next false (by rw [decide_eq_true c2]; simp)]
          simp [go_sem]
        · repeat (first | (with_reducible first | refine SW.seq ?_ | refine SW.block ?_ | refine SW.rowC ?_ | refine SW.skip ?_ | refine SW.exit ?_ | intro _ | refine And.intro (by omega) ?_) | simp (config := { maxSteps := 1000000 }) (disch := (first | omega | (simp only [go_sem]; try omega))) only [go_sem, Nat.reduceAdd, Nat.reduceEqDiff, Nat.reduceLeDiff, Nat.reduceMul, Nat.reduceLT, reduceIte, Int.reduceToNat, w64_id, cast_succ, c1, c2, hkr])
          refine SW.condF rfl ?_
          repeat (first | (with_reducible first | refine SW.seq ?_ | refine SW.block ?_ | refine SW.rowC ?_ | refine SW.skip ?_ | refine SW.exit ?_ | intro _ | refine And.intro (by omega) ?_) | simp (config := { maxSteps := 1000000 }) (disch := (first | omega | (simp only [go_sem]; try omega))) only [go_sem, Nat.reduceAdd, Nat.reduceEqDiff, Nat.reduceLeDiff, Nat.reduceMul, Nat.reduceLT, reduceIte, Int.reduceToNat, w64_id, cast_succ])
          refine SLoop.next (p.length - (k + 1)) (by omega) ⟨k + 1, by omega, rfl, ?_, rfl⟩
          rw [← next _ (by rw [decide_eq_false c1, decide_eq_false c2])]
          simp [go_sem]
    · have hk2 : k = p.length := by omega
      have ecol : (!((p.getD x []).take k).contains (m : Int) && !colHas (p.take k) y m) = candP p x y m := by
        rw [hk2, List.take_length, List.take_of_length_le (by omega)]; rfl
      rw [ecol]
      repeat (first | (with_reducible first | refine SW.seq ?_ | refine SW.block ?_ | refine SW.rowC ?_ | refine SW.skip ?_ | refine SW.exit ?_ | intro _ | refine And.intro (by omega) ?_) | simp (config := { maxSteps := 1000000 }) (disch := (first | omega | (simp only [go_sem]; try omega))) only [go_sem, Nat.reduceAdd, Nat.reduceEqDiff, Nat.reduceLeDiff, Nat.reduceMul, Nat.reduceLT, reduceIte, Int.reduceToNat, w64_id, cast_succ])
      cases hcp : candP p x y m
      · rw [if_neg (by rw [hcp]; simp), List.append_nil] at hcs
        refine SW.condF rfl ?_
        repeat (first | (with_reducible first | refine SW.seq ?_ | refine SW.block ?_ | refine SW.rowC ?_ | refine SW.skip ?_ | refine SW.exit ?_ | intro _ | refine And.intro (by omega) ?_) | simp (config := { maxSteps := 1000000 }) (disch := (first | omega | (simp only [go_sem]; try omega))) only [go_sem, Nat.reduceAdd, Nat.reduceEqDiff, Nat.reduceLeDiff, Nat.reduceMul, Nat.reduceLT, reduceIte, Int.reduceToNat, w64_id, cast_succ])
        refine SLoop.next (p.length - (m + 1)) (by omega) ⟨m + 1, ver, by omega, rfl, ?_, by rw [hcs]⟩
        rw [hcs]; simp [go_sem]
      · rw [if_pos hcp] at hcs
        refine SW.condT rfl ?_
        repeat (first | (with_reducible first | refine SW.seq ?_ | refine SW.block ?_ | refine SW.rowC ?_ | refine SW.skip ?_ | refine SW.exit ?_ | intro _ | refine And.intro (by omega) ?_) | simp (config := { maxSteps := 1000000 }) (disch := (first | omega | (simp only [go_sem]; try omega))) only [go_sem, Nat.reduceAdd, Nat.reduceEqDiff, Nat.reduceLeDiff, Nat.reduceMul, Nat.reduceLT, reduceIte, Int.reduceToNat, w64_id, cast_succ])
        refine SLoop.nextT 1 (p.length - (m + 1)) hB (by omega) (by omega) (by simp) ?_ ?_ ⟨m + 1, ver + 1, by omega, rfl, ?_, ?_⟩
        · (simp only [go_sem, Nat.reduceAdd, Nat.reduceEqDiff, reduceIte, go_sem, and_self, and_true, true_and, implies_true, List.take_succ_cons, List.take_zero, and_true, true_and]; try omega)
        · (simp only [go_sem, Nat.reduceAdd, Nat.reduceEqDiff, reduceIte, go_sem, and_self, and_true, true_and, implies_true, List.take_succ_cons, List.take_zero, and_true, true_and]; try omega)
        · rw [hcs]; simp [go_sem]
        · rw [hcs]; simp
  · have : m = p.length := by omega
    subst this
    repeat (first | (with_reducible first | refine SW.seq ?_ | refine SW.block ?_ | refine SW.rowC ?_ | refine SW.skip ?_ | refine SW.exit ?_ | intro _ | refine And.intro (by omega) ?_) | simp (config := { maxSteps := 1000000 }) (disch := (first | omega | (simp only [go_sem]; try omega))) only [go_sem, Nat.reduceAdd, Nat.reduceEqDiff, Nat.reduceLeDiff, Nat.reduceMul, Nat.reduceLT, reduceIte, Int.reduceToNat, w64_id, cast_succ])
    refine SW.ret ?_; (try simp only [go_sem]); (first | refine FunPost.one ?_ | refine FunPost.two ?_ | refine FunPost.three ?_); (try simp (config := { maxSteps := 1000000 }) (disch := (first | omega | (simp only [go_sem]; try omega))) only [go_sem, Nat.reduceAdd, Nat.reduceEqDiff, Nat.reduceLeDiff, Nat.reduceMul, Nat.reduceLT, reduceIte, Int.reduceToNat, w64_id, cast_succ])
    rw [hC]
    exact GR.of (newL_of (ver := ver) (ty := 2) (Nat.le_refl _) (by simp))
def isE (sq : List (List Int)) (n c : Nat) : Bool := decide (cellAt sq (c / n) (c % n) = -1)
def empT (sq : List (List Int)) (n m : Nat) : List Nat := (List.range m).filter (isE sq n)
theorem empT_succ (sq : List (List Int)) (n m : Nat) : empT sq n (m + 1) = empT sq n m ++ (if isE sq n m then [m] else []) := by
  unfold empT
  rw [List.range_succ, List.filter_append, List.filter_cons, List.filter_nil]
theorem empT_len (sq : List (List Int)) (n m : Nat) : (empT sq n m).length ≤ m := by
  have := List.length_filter_le (isE sq n) (List.range m)
  rwa [List.length_range] at this
def natL (l : List Nat) : List Int := l.map fun (c : Nat) => (c : Int)
theorem emptyCells_new (p : List (List Int)) (hn : p.length ≤ 100) (hl : ∀ r ∈ p, r.length = p.length) : NewL Try.prog f_impl_emptyCells [ilSS p] (natL (empT p p.length (p.length * p.length))) := by
  intro H
  refine ACalls.introB s_impl_emptyCells (by simp) ?_; intro hB hA; unfold c_impl_emptyCells; simp (config := { maxSteps := 1000000 }) (disch := (first | omega | (simp only [go_sem]; try omega))) only [go_sem, Nat.reduceAdd, Nat.reduceEqDiff, Nat.reduceLeDiff, Nat.reduceMul, Nat.reduceLT, reduceIte, Int.reduceToNat, w64_id, cast_succ]
  repeat (first | (with_reducible first | refine SW.seq ?_ | refine SW.block ?_ | refine SW.rowC ?_ | refine SW.skip ?_ | refine SW.exit ?_ | intro _ | refine And.intro (by omega) ?_) | simp (config := { maxSteps := 1000000 }) (disch := (first | omega | (simp only [go_sem]; try omega))) only [go_sem, Nat.reduceAdd, Nat.reduceEqDiff, Nat.reduceLeDiff, Nat.reduceMul, Nat.reduceLT, reduceIte, Int.reduceToNat, w64_id, cast_succ])
  refine SW.ghost (Gh.name 3 2 1 rfl) ?_
  simp (config := { maxSteps := 1000000 }) (disch := (first | omega | (simp only [go_sem]; try omega))) only [go_sem, Nat.reduceAdd, Nat.reduceEqDiff, Nat.reduceLeDiff, Nat.reduceMul, Nat.reduceLT, reduceIte, Int.reduceToNat, w64_id, cast_succ]
  refine SW.loopE (fun E0 H0 q E' H' => ∃ (pre post : List (List Int)) (ver : Nat), p = pre ++ post ∧ q = post.length ∧ E' = aput (aput E0 10 (I pre.length)) 3 (.nm H.length ver 0 (natL (empT p p.length (pre.length * p.length))).length) ∧ H' = H ++ [⟨ver, 2, 1, (natL (empT p p.length (pre.length * p.length))).map I⟩]) p.length ⟨[], p, 0, rfl, rfl, by simp [go_sem, empT, natL], by simp [empT, natL]⟩ ?_
  rintro q E' H' ⟨pre, post, ver, hq, rfl, rfl, rfl⟩
  have hprl : pre.length ≤ p.length := by
    have := congrArg List.length hq
    simp at this; omega
  simp (config := { maxSteps := 1000000 }) (disch := (first | omega | (simp only [go_sem]; try omega))) only [go_sem, Nat.reduceAdd, Nat.reduceEqDiff, Nat.reduceLeDiff, Nat.reduceMul, Nat.reduceLT, reduceIte, Int.reduceToNat, w64_id, cast_succ]
  repeat (first | (with_reducible first | refine SW.seq ?_ | refine SW.block ?_ | refine SW.rowC ?_ | refine SW.skip ?_ | refine SW.exit ?_ | intro _ | refine And.intro (by omega) ?_) | simp (config := { maxSteps := 1000000 }) (disch := (first | omega | (simp only [go_sem]; try omega))) only [go_sem, Nat.reduceAdd, Nat.reduceEqDiff, Nat.reduceLeDiff, Nat.reduceMul, Nat.reduceLT, reduceIte, Int.reduceToNat, w64_id, cast_succ])
  (first | refine SW.condD rfl (fun h => ?_) (fun h => ?_) | refine SW.condN rfl (fun h => ?_) (fun h => ?_) | refine SW.condNB rfl (fun h => ?_) (fun h => ?_) | refine SW.condB rfl (fun h => ?_) (fun h => ?_))
  · have hlt : pre.length < p.length := by omega
    obtain ⟨row, post, rfl, hg, -⟩ := consOf (d := []) hq hlt
    have hrl : row.length = p.length := hl row (by rw [hq]; simp)
    repeat (first | (with_reducible first | refine SW.seq ?_ | refine SW.block ?_ | refine SW.rowC ?_ | refine SW.skip ?_ | refine SW.exit ?_ | intro _ | refine And.intro (by omega) ?_) | simp (config := { maxSteps := 1000000 }) (disch := (first | omega | (simp only [go_sem]; try omega))) only [go_sem, Nat.reduceAdd, Nat.reduceEqDiff, Nat.reduceLeDiff, Nat.reduceMul, Nat.reduceLT, reduceIte, Int.reduceToNat, w64_id, cast_succ, hg])
    refine SW.loopE (fun E0 H0 q E' H' => ∃ (pr po : List Int) (ver : Nat), row = pr ++ po ∧ q = po.length ∧ E' = aput (aput E0 17 (I pr.length)) 3 (.nm H.length ver 0 (natL (empT p p.length (pre.length * p.length + pr.length))).length) ∧ H' = H ++ [⟨ver, 2, 1, (natL (empT p p.length (pre.length * p.length + pr.length))).map I⟩]) row.length ⟨[], row, ver, rfl, rfl, rfl, rfl⟩ ?_
    rintro q E' H' ⟨pr, po, ver, hq2, rfl, rfl, rfl⟩
    have hel := empT_len p p.length (pre.length * p.length + pr.length)
    have hes := empT_succ p p.length (pre.length * p.length + pr.length)
    have hmul : pre.length * p.length ≤ 100 * 100 := Nat.mul_le_mul (by omega) hn
    have hprl2 : pr.length ≤ p.length := by
      have := congrArg List.length hq2
      simp at this; omega
    generalize hE0 : empT p p.length (pre.length * p.length + pr.length) = E1 at *
    have hnl : (natL E1).length = E1.length := by simp [natL]
    simp (config := { maxSteps := 1000000 }) (disch := (first | omega | (simp only [go_sem]; try omega))) only [go_sem, Nat.reduceAdd, Nat.reduceEqDiff, Nat.reduceLeDiff, Nat.reduceMul, Nat.reduceLT, reduceIte, Int.reduceToNat, w64_id, cast_succ]
    repeat (first | (with_reducible first | refine SW.seq ?_ | refine SW.block ?_ | refine SW.rowC ?_ | refine SW.skip ?_ | refine SW.exit ?_ | intro _ | refine And.intro (by omega) ?_) | simp (config := { maxSteps := 1000000 }) (disch := (first | omega | (simp only [go_sem]; try omega))) only [go_sem, Nat.reduceAdd, Nat.reduceEqDiff, Nat.reduceLeDiff, Nat.reduceMul, Nat.reduceLT, reduceIte, Int.reduceToNat, w64_id, cast_succ])
    (first | refine SW.condD rfl (fun h2 => ?_) (fun h2 => ?_) | refine SW.condN rfl (fun h2 => ?_) (fun h2 => ?_) | refine SW.condNB rfl (fun h2 => ?_) (fun h2 => ?_) | refine SW.condB rfl (fun h2 => ?_) (fun h2 => ?_))
    · obtain ⟨s, po, rfl, hgs, -⟩ := consOf (d := 0) hq2 (by omega)
      have hprlt : pr.length < p.length := by
        have := congrArg List.length hq2
        simp at this; omega
      have hisE : isE p p.length (pre.length * p.length + pr.length) = decide (s = -1) := by
        unfold isE cellAt
        have d1 : (pre.length * p.length + pr.length) / p.length = pre.length := by
          rw [Nat.mul_comm, Nat.mul_add_div (by omega), Nat.div_eq_of_lt hprlt]; rfl
        have d2 : (pre.length * p.length + pr.length) % p.length = pr.length := by
          rw [Nat.mul_comm, Nat.mul_add_mod, Nat.mod_eq_of_lt hprlt]
        rw [d1, d2, hg, hgs]
      have hz : ((pre.length : Int) * p.length + pr.length) = ((pre.length * p.length + pr.length : Nat) : Int) := by simp
      repeat (first | (with_reducible first | refine SW.seq ?_ | refine SW.block ?_ | refine SW.rowC ?_ | refine SW.skip ?_ | refine SW.exit ?_ | intro _ | refine And.intro (by omega) ?_) | simp (config := { maxSteps := 1000000 }) (disch := (first | omega | (simp only [go_sem]; try omega))) only [go_sem, Nat.reduceAdd, Nat.reduceEqDiff, Nat.reduceLeDiff, Nat.reduceMul, Nat.reduceLT, reduceIte, Int.reduceToNat, w64_id, cast_succ, hgs])
      (first | refine SW.condD rfl (fun h3 => ?_) (fun h3 => ?_) | refine SW.condN rfl (fun h3 => ?_) (fun h3 => ?_) | refine SW.condNB rfl (fun h3 => ?_) (fun h3 => ?_) | refine SW.condB rfl (fun h3 => ?_) (fun h3 => ?_))
      · rw [if_pos (by rw [hisE]; exact decide_eq_true h3)] at hes
        have hw1 : w64 ((pre.length : Int) * p.length) = (pre.length : Int) * p.length := by
          rw [← Int.natCast_mul]; exact w64_id (by omega) (by omega)
        have htk : ((natL E1).map I).take (natL E1).length = (natL E1).map I := takeI _
        have hw2 : w64 ((pre.length : Int) * p.length + pr.length) = ((pre.length * p.length + pr.length : Nat) : Int) := by
          rw [hz]; exact w64_id (by omega) (by omega)
        repeat (first | (with_reducible first | refine SW.seq ?_ | refine SW.block ?_ | refine SW.rowC ?_ | refine SW.skip ?_ | refine SW.exit ?_ | intro _ | refine And.intro (by omega) ?_) | simp (config := { maxSteps := 1000000 }) (disch := (first | omega | (simp only [go_sem]; try omega))) only [go_sem, Nat.reduceAdd, Nat.reduceEqDiff, Nat.reduceLeDiff, Nat.reduceMul, Nat.reduceLT, reduceIte, Int.reduceToNat, w64_id, cast_succ, hw1, hw2, htk])
        have hnn : natL (E1 ++ [pre.length * p.length + pr.length]) = natL E1 ++ [((pre.length * p.length + pr.length : Nat) : Int)] := by simp [natL]
        have hes' : empT p p.length (pre.length * p.length + (pr ++ [s]).length) = E1 ++ [pre.length * p.length + pr.length] := by rw [List.length_append, List.length_singleton, ← Nat.add_assoc]; exact hes
        refine SLoop.nextT 1 po.length hB (by omega) (by simp) (by simp) ?_ ?_ ⟨pr ++ [s], po, ver + 1, by simp [hq2], rfl, ?_, ?_⟩
        · (simp only [go_sem, Nat.reduceAdd, Nat.reduceEqDiff, reduceIte, go_sem, and_self, and_true, true_and, implies_true, List.take_succ_cons, List.take_zero, and_true, true_and]; try omega)
        · (simp only [go_sem, Nat.reduceAdd, Nat.reduceEqDiff, reduceIte, go_sem, and_self, and_true, true_and, implies_true, List.take_succ_cons, List.take_zero, and_true, true_and]; try omega)
        · rw [hes', hnn]; simp [go_sem]
        · rw [hes', hnn]; simp
      · rw [if_neg (by rw [hisE]; simpa using h3), List.append_nil] at hes
        have hes' : empT p p.length (pre.length * p.length + (pr ++ [s]).length) = E1 := by rw [List.length_append, List.length_singleton, ← Nat.add_assoc]; exact hes
        repeat (first | (with_reducible first | refine SW.seq ?_ | refine SW.block ?_ | refine SW.rowC ?_ | refine SW.skip ?_ | refine SW.exit ?_ | intro _ | refine And.intro (by omega) ?_) | simp (config := { maxSteps := 1000000 }) (disch := (first | omega | (simp only [go_sem]; try omega))) only [go_sem, Nat.reduceAdd, Nat.reduceEqDiff, Nat.reduceLeDiff, Nat.reduceMul, Nat.reduceLT, reduceIte, Int.reduceToNat, w64_id, cast_succ])
        refine SLoop.next po.length (by simp) ⟨pr ++ [s], po, ver, by simp [hq2], rfl, ?_, ?_⟩
        · rw [hes']; simp [go_sem]
        · rw [hes']
    · obtain ⟨rfl, rfl⟩ := nilOf hq2 (by omega)
      repeat (first | (with_reducible first | refine SW.seq ?_ | refine SW.block ?_ | refine SW.rowC ?_ | refine SW.skip ?_ | refine SW.exit ?_ | intro _ | refine And.intro (by omega) ?_) | simp (config := { maxSteps := 1000000 }) (disch := (first | omega | (simp only [go_sem]; try omega))) only [go_sem, Nat.reduceAdd, Nat.reduceEqDiff, Nat.reduceLeDiff, Nat.reduceMul, Nat.reduceLT, reduceIte, Int.reduceToNat, w64_id, cast_succ])
      have hes' : empT p p.length ((pre ++ [pr]).length * p.length) = E1 := by rw [List.length_append, List.length_singleton, Nat.add_mul, Nat.one_mul]; rw [hrl] at hE0; exact hE0
      refine SLoop.next post.length (by simp) ⟨pre ++ [pr], post, ver, by simp [hq], rfl, ?_, ?_⟩
      · rw [hes']; simp [go_sem]
      · rw [hes']
  · have hlt : ¬ pre.length < p.length := by omega
    obtain ⟨rfl, rfl⟩ := nilOf hq hlt
    repeat (first | (with_reducible first | refine SW.seq ?_ | refine SW.block ?_ | refine SW.rowC ?_ | refine SW.skip ?_ | refine SW.exit ?_ | intro _ | refine And.intro (by omega) ?_) | simp (config := { maxSteps := 1000000 }) (disch := (first | omega | (simp only [go_sem]; try omega))) only [go_sem, Nat.reduceAdd, Nat.reduceEqDiff, Nat.reduceLeDiff, Nat.reduceMul, Nat.reduceLT, reduceIte, Int.reduceToNat, w64_id, cast_succ])
    refine SW.ret ?_; (try simp only [go_sem]); (first | refine FunPost.one ?_ | refine FunPost.two ?_ | refine FunPost.three ?_); (try simp (config := { maxSteps := 1000000 }) (disch := (first | omega | (simp only [go_sem]; try omega))) only [go_sem, Nat.reduceAdd, Nat.reduceEqDiff, Nat.reduceLeDiff, Nat.reduceMul, Nat.reduceLT, reduceIte, Int.reduceToNat, w64_id, cast_succ])
    exact GR.of (newL_of (ver := ver) (ty := 2) (Nat.le_refl _) (by simp))
theorem emptyCells_fn (p : List (List Int)) (hn : p.length ≤ 100) (hl : ∀ r ∈ p, r.length = p.length) : PFn Try.prog f_impl_emptyCells [ilSS p] (ilS (natL (empT p p.length (p.length * p.length)))) := (emptyCells_new p hn hl).pfn
theorem clone1_ok (H : List Blk) (a : AV) (xs : List Int) (ha : RdS H a xs) (hl : xs.length ≤ 1073741824) (hne : xs ≠ []) :
    ACalls Try.prog f_slices_Clone_Lint64_int64 [a] H (fun r H' => r = .nm H.length 1 0 xs.length ∧ H' = H ++ [⟨1, 2, 1, xs.map I⟩]) := by
  refine ACalls.introB s_slices_Clone_Lint64_int64 (by simp) ?_; intro hB hA; unfold c_slices_Clone_Lint64_int64; simp (config := { maxSteps := 1000000 }) (disch := (first | omega | (simp only [go_sem]; try omega))) only [go_sem, Nat.reduceAdd, Nat.reduceEqDiff, Nat.reduceLeDiff, Nat.reduceMul, Nat.reduceLT, reduceIte, Int.reduceToNat, w64_id, cast_succ]
  have h2 := aview_append ha [⟨0, 2, 1, []⟩]
  refine SW.seq ?_; refine SW.rowC ?_; simp (config := { maxSteps := 1000000 }) (disch := (first | omega | (simp only [go_sem]; try omega))) only [go_sem, Nat.reduceAdd, Nat.reduceEqDiff, Nat.reduceLeDiff, Nat.reduceMul, Nat.reduceLT, reduceIte, Int.reduceToNat, w64_id, cast_succ]
  refine SW.seq ?_
  refine SW.seq ?_; refine SW.rowC ?_; simp (config := { maxSteps := 1000000 }) (disch := (first | omega | (simp only [go_sem]; try omega))) only [go_sem, Nat.reduceAdd, Nat.reduceEqDiff, Nat.reduceLeDiff, Nat.reduceMul, Nat.reduceLT, reduceIte, Int.reduceToNat, w64_id, cast_succ, ha]
  intro b hb
  refine SW.condB rfl (fun h => ?_) (fun h => ?_)
  · exact absurd (List.eq_nil_of_length_eq_zero (hb h)) hne
  · repeat (first | (with_reducible first | refine SW.seq ?_ | refine SW.block ?_ | refine SW.rowC ?_ | refine SW.skip ?_ | refine SW.exit ?_ | intro _ | refine And.intro (by omega) ?_) | simp (config := { maxSteps := 1000000 }) (disch := (first | omega | (simp only [go_sem]; try omega))) only [go_sem, Nat.reduceAdd, Nat.reduceEqDiff, Nat.reduceLeDiff, Nat.reduceMul, Nat.reduceLT, reduceIte, Int.reduceToNat, w64_id, cast_succ, ha, h2])
    refine SW.ret ?_; (try simp only [go_sem]); (first | refine FunPost.one ?_ | refine FunPost.two ?_ | refine FunPost.three ?_); (try simp (config := { maxSteps := 1000000 }) (disch := (first | omega | (simp only [go_sem]; try omega))) only [go_sem, Nat.reduceAdd, Nat.reduceEqDiff, Nat.reduceLeDiff, Nat.reduceMul, Nat.reduceLT, reduceIte, Int.reduceToNat, w64_id, cast_succ])
    exact GR.of ⟨rfl, rfl⟩
theorem copyLists_sq (H : List Blk) (a : AV) (n : Nat) (xss : List (List Int)) (ha : RdSS H a xss) (hx : xss.length ≤ 1000000) (hl : ∀ r ∈ xss, r ≠ [] ∧ r.length ≤ 1000000) :
    ACalls Try.prog f_impl_copyLists [a] H (fun r H' => r = .nm H.length xss.length 0 xss.length ∧ H' = H ++ sqB xss.length 1 H.length xss) := by
  obtain ⟨cells, hv, hcl, hrd⟩ := ha
  have hva : ∀ ext, aview (H ++ ext) a = some (xss.length, cells) := fun ext => aview_append hv ext
  refine ACalls.introB s_impl_copyLists (by simp) ?_; intro hB hA; unfold c_impl_copyLists; simp (config := { maxSteps := 1000000 }) (disch := (first | omega | (simp only [go_sem]; try omega))) only [go_sem, Nat.reduceAdd, Nat.reduceEqDiff, Nat.reduceLeDiff, Nat.reduceMul, Nat.reduceLT, reduceIte, Int.reduceToNat, w64_id, cast_succ]
  refine SW.seq ?_; refine SW.rowC ?_; simp (config := { maxSteps := 1000000 }) (disch := (first | omega | (simp only [go_sem]; try omega))) only [go_sem, Nat.reduceAdd, Nat.reduceEqDiff, Nat.reduceLeDiff, Nat.reduceMul, Nat.reduceLT, reduceIte, Int.reduceToNat, w64_id, cast_succ]
  refine SW.seq ?_; refine SW.rowC ?_
  simp (config := { maxSteps := 1000000 }) (disch := (first | omega | (simp only [go_sem]; try omega))) only [go_sem, Nat.reduceAdd, Nat.reduceEqDiff, Nat.reduceLeDiff, Nat.reduceMul, Nat.reduceLT, reduceIte, Int.reduceToNat, w64_id, cast_succ]
  refine SW.ghost (Gh.name 3 33 1 rfl) ?_
  repeat (first | (with_reducible first | refine SW.seq ?_ | refine SW.block ?_ | refine SW.rowC ?_ | refine SW.skip ?_ | refine SW.exit ?_ | intro _ | refine And.intro (by omega) ?_) | simp (config := { maxSteps := 1000000 }) (disch := (first | omega | (simp only [go_sem]; try omega))) only [go_sem, Nat.reduceAdd, Nat.reduceEqDiff, Nat.reduceLeDiff, Nat.reduceMul, Nat.reduceLT, reduceIte, Int.reduceToNat, w64_id, cast_succ, hva])
  refine SW.loopE (fun E0 H0 q E' H' => ∃ i : Nat, i ≤ xss.length ∧ q = xss.length - i ∧ E' = aput (aput E0 8 (I i)) 3 (.nm H.length i 0 i) ∧ H' = H ++ sqB i 1 H.length (xss.take i)) xss.length ⟨0, by omega, by omega, rfl, rfl⟩ ?_
  rintro q E' H' ⟨i, hi, rfl, rfl, rfl⟩
  have htl : (xss.take i).length = i := by simp; omega
  generalize hT : xss.take i = T at *
  have hL := sqB_length i 1 H.length T
  rw [htl] at hL
  simp (config := { maxSteps := 1000000 }) (disch := (first | omega | (simp only [go_sem]; try omega))) only [go_sem, Nat.reduceAdd, Nat.reduceEqDiff, Nat.reduceLeDiff, Nat.reduceMul, Nat.reduceLT, reduceIte, Int.reduceToNat, w64_id, cast_succ]
  repeat (first | (with_reducible first | refine SW.seq ?_ | refine SW.block ?_ | refine SW.rowC ?_ | refine SW.skip ?_ | refine SW.exit ?_ | intro _ | refine And.intro (by omega) ?_) | simp (config := { maxSteps := 1000000 }) (disch := (first | omega | (simp only [go_sem]; try omega))) only [go_sem, Nat.reduceAdd, Nat.reduceEqDiff, Nat.reduceLeDiff, Nat.reduceMul, Nat.reduceLT, reduceIte, Int.reduceToNat, w64_id, cast_succ])
  (first | refine SW.condD rfl (fun h => ?_) (fun h => ?_) | refine SW.condN rfl (fun h => ?_) (fun h => ?_) | refine SW.condNB rfl (fun h => ?_) (fun h => ?_) | refine SW.condB rfl (fun h => ?_) (fun h => ?_))
  · have hlt : i < xss.length := by omega
    have hcl2 : i < cells.length := by omega
    have hci := List.getElem?_eq_getElem hcl2
    have hxi := List.getElem?_eq_getElem hlt
    have hrow := hrd i _ _ hci hxi
    have hts : xss.take (i + 1) = T ++ [xss[i]] := by rw [List.take_add_one, hT, hxi]; rfl
    have hlr := hl xss[i] (List.getElem_mem _)
    generalize cells[i] = c at *
    generalize xss[i] = row at *
    repeat (first | (with_reducible first | refine SW.seq ?_ | refine SW.block ?_ | refine SW.rowC ?_ | refine SW.skip ?_ | refine SW.exit ?_ | intro _ | refine And.intro (by omega) ?_) | simp (config := { maxSteps := 1000000 }) (disch := (first | omega | (simp only [go_sem]; try omega))) only [go_sem, Nat.reduceAdd, Nat.reduceEqDiff, Nat.reduceLeDiff, Nat.reduceMul, Nat.reduceLT, reduceIte, Int.reduceToNat, w64_id, cast_succ, hva, hci])
    refine (clone1_ok _ c row (hrow.append _) (by omega) hlr.1).mono ?_
    rintro r H1 ⟨rfl, rfl⟩
    have hg2 : ∀ a b : Blk, (sqB i 1 H.length T ++ [a, b])[i + 2]? = some b := by
      intro a b
      rw [List.getElem?_append_right (by omega), hL, show i + 2 - (i + 1) = 1 by omega]; rfl
    have hg2' : ∀ a b : Blk, (sqB i 1 H.length T ++ [a, b])[i + 1 + 1]? = some b := hg2
    have hSq : sqB i 1 H.length T = ⟨i, 33, 1, nmsV 1 (H.length + 1) T⟩ :: rowsV 1 T := rfl
    have hnt : (nmsV 1 (H.length + 1) T).take i = nmsV 1 (H.length + 1) T := List.take_of_length_le (by rw [nmsV_length]; omega)
    have hnl := nmsV_length 1 (H.length + 1) T
    repeat (first | (with_reducible first | refine SW.seq ?_ | refine SW.block ?_ | refine SW.rowC ?_ | refine SW.skip ?_ | refine SW.exit ?_ | intro _ | refine And.intro (by omega) ?_) | simp (config := { maxSteps := 1000000 }) (disch := (first | omega | (simp only [go_sem]; try omega))) only [go_sem, Nat.reduceAdd, Nat.reduceEqDiff, Nat.reduceLeDiff, Nat.reduceMul, Nat.reduceLT, reduceIte, Int.reduceToNat, w64_id, cast_succ, hL, hg2, hg2'])
    repeat (first | (with_reducible first | refine SW.seq ?_ | refine SW.block ?_ | refine SW.rowC ?_ | refine SW.skip ?_ | refine SW.exit ?_ | intro _ | refine And.intro (by omega) ?_) | simp (config := { maxSteps := 1000000 }) (disch := (first | omega | (simp only [go_sem]; try omega))) only [go_sem, Nat.reduceAdd, Nat.reduceEqDiff, Nat.reduceLeDiff, Nat.reduceMul, Nat.reduceLT, reduceIte, Int.reduceToNat, w64_id, cast_succ, hSq, hnt, hnl, htl])
    have hL1 : (sqB (i + 1) 1 H.length (T ++ [row])).length = i + 2 := by rw [sqB_length]; simp; omega
    refine SLoop.nextE (L := sqB (i + 1) 1 H.length (T ++ [row])) (xss.length - (i + 1)) ⟨_, by rw [sqB_snoc, List.cons_append, List.append_assoc, show H.length + 1 + T.length = H.length + (i + 1) by omega]; rfl⟩ hB (by omega) (by omega) ?_ ?_ ⟨i + 1, by omega, rfl, ?_, by rw [hts]⟩
    · rw [hL1]
      have ha2 : Bel H.length a := hA a (by simp)
      have ha3 := ha2.mono (show H.length ≤ H.length + (i + 2) by omega)
      simp only [go_sem, Nat.reduceAdd, Nat.reduceEqDiff, reduceIte, and_true, true_and]
      first | exact ⟨by omega, ha3⟩ | exact ⟨ha3, by omega⟩
    · rw [hL1]; exact sqB_BB (by simp; omega)
    · simp [go_sem]
  · have : i = xss.length := by omega
    subst this
    rw [List.take_length] at hT
    subst hT
    repeat (first | (with_reducible first | refine SW.seq ?_ | refine SW.block ?_ | refine SW.rowC ?_ | refine SW.skip ?_ | refine SW.exit ?_ | intro _ | refine And.intro (by omega) ?_) | simp (config := { maxSteps := 1000000 }) (disch := (first | omega | (simp only [go_sem]; try omega))) only [go_sem, Nat.reduceAdd, Nat.reduceEqDiff, Nat.reduceLeDiff, Nat.reduceMul, Nat.reduceLT, reduceIte, Int.reduceToNat, w64_id, cast_succ])
    refine SW.ret ?_; (try simp only [go_sem]); (first | refine FunPost.one ?_ | refine FunPost.two ?_ | refine FunPost.three ?_); (try simp (config := { maxSteps := 1000000 }) (disch := (first | omega | (simp only [go_sem]; try omega))) only [go_sem, Nat.reduceAdd, Nat.reduceEqDiff, Nat.reduceLeDiff, Nat.reduceMul, Nat.reduceLT, reduceIte, Int.reduceToNat, w64_id, cast_succ])
    exact GR.of ⟨rfl, rfl⟩
end Go.Proofs.Ytchehdplcbffmaa
