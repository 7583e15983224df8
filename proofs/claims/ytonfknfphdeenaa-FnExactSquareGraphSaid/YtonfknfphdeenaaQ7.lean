/- Graphs of squares: the reference. -/
import Derived.Test.YtonfknfphdeenaaProg
import Derived.KernelRfl
import Derived.Test.YtonfknfphdeenaaQ5
import Derived.Test.YtonfknfphdeenaaT0
import Derived.Test.YtonfknfphdeenaaE6
set_option linter.unusedSimpArgs false
set_option linter.unusedVariables false
set_option maxHeartbeats 4000000
set_option maxRecDepth 100000
namespace Go.Proofs.Ytonfknfphdeenaa
open Go.Av

/-! The abstract code of functions, printed by program and tied to the program by the kernel. -/
/-- loop.example/g00920/spec.SquareGraph -/
abbrev f_spec_SquareGraph : Nat := 34
def c_spec_SquareGraph : SC :=
 .seq (.reg [
     ⟨(some 4), .alloc 38 [(.slice none 0 0), (.slice none 0 0)], none⟩,
     ⟨(some 5), .mv (.const (.int .i64 0)), none⟩] [0, 1, 4])
 (.seq (.seq (.reg [
     ⟨(some 6), .mv (.tmp 0), none⟩,
     ⟨(some 7), .call 76 [(.tmp 6)], none⟩,
     ⟨(some 8), .un .not (.tmp 7), none⟩] [0, 1, 4, 8])
 (.cond (.tmp 8)
  (.seq (.reg [
      ⟨(some 9), .build [(.slice none 0 0), (.slice none 0 0)] [], none⟩,
      ⟨none, .store 2 (.tmp 4) (.tmp 9), none⟩,
      ⟨(some 5), .mv (.const (.int .i64 1)), none⟩] [4, 5])
  (.ret))
  (.skip)))
 (.seq (.seq (.reg [
     ⟨(some 10), .mv (.tmp 0), none⟩,
     ⟨(some 11), .len (.tmp 10), none⟩,
     ⟨(some 12), .bin .gtr (.tmp 11) (.const (.int .i64 6)), none⟩] [0, 1, 4, 12])
 (.cond (.tmp 12)
  (.seq (.reg [
      ⟨(some 13), .build [(.slice none 0 0), (.slice none 0 0)] [], none⟩,
      ⟨none, .store 2 (.tmp 4) (.tmp 13), none⟩,
      ⟨(some 5), .mv (.const (.int .i64 5)), none⟩] [4, 5])
  (.ret))
  (.skip)))
 (.seq (.reg [
     ⟨(some 14), .mv (.tmp 0), none⟩,
     ⟨(some 15), .mv (.tmp 1), none⟩,
     ⟨(some 16), .call 77 [(.tmp 14), (.tmp 15)], none⟩,
     ⟨none, .store 2 (.tmp 4) (.tmp 16), none⟩,
     ⟨(some 5), .mv (.const (.int .i64 0)), none⟩] [4, 5])
 (.ret))))
theorem s_spec_SquareGraph : stripF Try.prog 34 [[0, 1, 4], [0, 1, 4, 8], [4, 5], [0, 1, 4, 12], [4, 5], [4, 5]] = some (c_spec_SquareGraph, [.cell 4 2, .tmp 5], 17) := by kernel_rfl

/-- loop.example/g00920/spec.l23Square -/
abbrev f_spec_l23Square : Nat := 77
def c_spec_l23Square : SC :=
 .seq (.reg [
     ⟨(some 4), .alloc 38 [(.slice none 0 0), (.slice none 0 0)], none⟩] [0, 1, 4])
 (.seq (.reg [
     ⟨(some 13), .mv (.tmp 0), none⟩,
     ⟨(some 14), .len (.tmp 13), none⟩,
     ⟨(some 5), .mv (.tmp 14), none⟩] [0, 1, 4, 5])
 (.seq (.reg [
     ⟨(some 15), .build [(.slice none 0 0), (.slice none 0 0)] [], none⟩,
     ⟨(some 6), .alloc 38 [(.slice none 0 0), (.slice none 0 0)], none⟩,
     ⟨none, .store 2 (.tmp 6) (.tmp 15), none⟩] [0, 1, 4, 5, 6])
 (.seq (.seq (.reg [
     ⟨(some 7), .mv (.const (.int .i64 0)), none⟩] [0, 1, 4, 5, 6, 7])
 (.block 0 (.loop [0, 1, 4, 5, 6, 7]
   (.seq (.seq (.reg [
       ⟨(some 16), .mv (.tmp 7), none⟩,
       ⟨(some 17), .mv (.tmp 5), none⟩,
       ⟨(some 18), .bin .mul (.const (.int .i64 3)) (.tmp 17), none⟩,
       ⟨(some 19), .bin .lss (.tmp 16) (.tmp 18), none⟩] [0, 1, 4, 5, 6, 7, 19])
   (.cond (.tmp 19)
    (.skip)
    (.exit 0)))
   (.seq (.block 1 (.seq (.reg [
        ⟨(some 8), .mv (.const (.int .i64 0)), none⟩] [0, 1, 4, 5, 6, 7, 8])
    (.seq (.seq (.reg [
        ⟨(some 22), .mv (.tmp 1), none⟩,
        ⟨(some 23), .un .not (.tmp 22), none⟩] [0, 1, 4, 5, 6, 7, 8, 23])
    (.cond (.tmp 23)
     (.reg [
         ⟨(some 24), .mv (.tmp 7), none⟩,
         ⟨(some 25), .mv (.tmp 5), none⟩,
         ⟨(some 26), .bin .quo (.tmp 24) (.tmp 25), none⟩,
         ⟨(some 8), .mv (.tmp 26), none⟩] [0, 1, 4, 5, 6, 7, 8])
     (.skip)))
    (.reg [
        ⟨(some 27), .faddr 0 (.tmp 6), none⟩,
        ⟨(some 28), .load 1 false (.tmp 27), none⟩,
        ⟨(some 29), .mv (.tmp 8), none⟩,
        ⟨(some 30), .bslice 2 1 1 [(.int .i64 0)] [(0, (.tmp 29))], none⟩,
        ⟨(some 31), .app 2 1 8 (.tmp 28) (.tmp 30), none⟩,
        ⟨(some 32), .faddr 0 (.tmp 6), none⟩,
        ⟨none, .store 1 (.tmp 32) (.tmp 31), none⟩] [0, 1, 4, 5, 6, 7]))))
   (.reg [
       ⟨(some 20), .mv (.tmp 7), none⟩,
       ⟨(some 21), .bin .add (.tmp 20) (.const (.int .i64 1)), none⟩,
       ⟨(some 7), .mv (.tmp 21), none⟩] [0, 1, 4, 5, 6, 7]))))))
 (.seq (.seq (.reg [
     ⟨(some 9), .mv (.const (.int .i64 0)), none⟩] [0, 4, 5, 6, 9])
 (.block 2 (.loop [0, 4, 5, 6, 9]
   (.seq (.seq (.reg [
       ⟨(some 33), .mv (.tmp 9), none⟩,
       ⟨(some 34), .mv (.tmp 5), none⟩,
       ⟨(some 35), .mv (.tmp 5), none⟩,
       ⟨(some 36), .bin .mul (.tmp 34) (.tmp 35), none⟩,
       ⟨(some 37), .bin .lss (.tmp 33) (.tmp 36), none⟩] [0, 4, 5, 6, 9, 37])
   (.cond (.tmp 37)
    (.skip)
    (.exit 2)))
   (.seq (.block 3 (.reg [
        ⟨(some 40), .faddr 0 (.tmp 6), none⟩,
        ⟨(some 41), .load 1 false (.tmp 40), none⟩,
        ⟨(some 42), .bslice 2 1 1 [(.int .i64 0)] [(0, (.const (.int .i64 3)))], none⟩,
        ⟨(some 43), .app 2 1 8 (.tmp 41) (.tmp 42), none⟩,
        ⟨(some 44), .faddr 0 (.tmp 6), none⟩,
        ⟨none, .store 1 (.tmp 44) (.tmp 43), none⟩] [0, 4, 5, 6, 9]))
   (.reg [
       ⟨(some 38), .mv (.tmp 9), none⟩,
       ⟨(some 39), .bin .add (.tmp 38) (.const (.int .i64 1)), none⟩,
       ⟨(some 9), .mv (.tmp 39), none⟩] [0, 4, 5, 6, 9]))))))
 (.seq (.seq (.reg [
     ⟨(some 10), .mv (.const (.int .i64 0)), none⟩] [0, 4, 5, 6, 10])
 (.block 4 (.loop [0, 4, 5, 6, 10]
   (.seq (.seq (.reg [
       ⟨(some 45), .mv (.tmp 10), none⟩,
       ⟨(some 46), .mv (.tmp 5), none⟩,
       ⟨(some 47), .bin .mul (.const (.int .i64 3)) (.tmp 46), none⟩,
       ⟨(some 48), .bin .lss (.tmp 45) (.tmp 47), none⟩] [0, 4, 5, 6, 10, 48])
   (.cond (.tmp 48)
    (.skip)
    (.exit 4)))
   (.seq (.block 5 (.seq (.reg [
        ⟨(some 11), .mv (.const (.int .i64 0)), none⟩] [0, 4, 5, 6, 10, 11])
    (.block 6 (.loop [0, 4, 5, 6, 10, 11]
      (.seq (.seq (.reg [
          ⟨(some 51), .mv (.tmp 11), none⟩,
          ⟨(some 52), .mv (.tmp 5), none⟩,
          ⟨(some 53), .bin .lss (.tmp 51) (.tmp 52), none⟩] [0, 4, 5, 6, 10, 11, 53])
      (.cond (.tmp 53)
       (.skip)
       (.exit 6)))
      (.seq (.block 7 (.seq (.reg [
           ⟨(some 12), .mv (.const (.int .i64 0)), none⟩] [0, 4, 5, 6, 10, 11, 12])
       (.block 8 (.loop [0, 4, 5, 6, 10, 11, 12]
         (.seq (.seq (.reg [
             ⟨(some 56), .mv (.tmp 12), none⟩,
             ⟨(some 57), .mv (.tmp 5), none⟩,
             ⟨(some 58), .bin .lss (.tmp 56) (.tmp 57), none⟩] [0, 4, 5, 6, 10, 11, 12, 58])
         (.cond (.tmp 58)
          (.skip)
          (.exit 8)))
         (.seq (.block 9 (.seq (.reg [
              ⟨(some 61), .mv (.tmp 10), none⟩,
              ⟨(some 62), .mv (.tmp 11), none⟩,
              ⟨(some 63), .bin .eql (.tmp 61) (.tmp 62), none⟩,
              ⟨(some 64), .mv (.tmp 63), none⟩,
              ⟨(some 65), .mv (.tmp 10), (some (64, false))⟩,
              ⟨(some 66), .mv (.tmp 5), (some (64, false))⟩,
              ⟨(some 67), .mv (.tmp 12), (some (64, false))⟩,
              ⟨(some 68), .bin .add (.tmp 66) (.tmp 67), (some (64, false))⟩,
              ⟨(some 69), .bin .eql (.tmp 65) (.tmp 68), (some (64, false))⟩,
              ⟨(some 70), .pick (.tmp 64) (.const (.bool true)) (.tmp 69), none⟩,
              ⟨(some 71), .mv (.tmp 70), none⟩,
              ⟨(some 72), .mv (.tmp 10), (some (71, false))⟩,
              ⟨(some 73), .mv (.tmp 5), (some (71, false))⟩,
              ⟨(some 74), .bin .mul (.const (.int .i64 2)) (.tmp 73), (some (71, false))⟩,
              ⟨(some 75), .mv (.tmp 0), (some (71, false))⟩,
              ⟨(some 76), .mv (.tmp 11), (some (71, false))⟩,
              ⟨(some 77), .iaddr 1 (.tmp 75) (.tmp 76), (some (71, false))⟩,
              ⟨(some 78), .load 1 false (.tmp 77), (some (71, false))⟩,
              ⟨(some 79), .mv (.tmp 12), (some (71, false))⟩,
              ⟨(some 80), .iaddr 1 (.tmp 78) (.tmp 79), (some (71, false))⟩,
              ⟨(some 81), .load 1 false (.tmp 80), (some (71, false))⟩,
              ⟨(some 82), .bin .add (.tmp 74) (.tmp 81), (some (71, false))⟩,
              ⟨(some 83), .bin .eql (.tmp 72) (.tmp 82), (some (71, false))⟩,
              ⟨(some 84), .pick (.tmp 71) (.const (.bool true)) (.tmp 83), none⟩] [0, 4, 5, 6, 10, 11, 12, 84])
          (.cond (.tmp 84)
           (.reg [
               ⟨(some 85), .faddr 1 (.tmp 6), none⟩,
               ⟨(some 86), .load 1 false (.tmp 85), none⟩,
               ⟨(some 87), .mv (.tmp 10), none⟩,
               ⟨(some 88), .mv (.tmp 5), none⟩,
               ⟨(some 89), .bin .mul (.const (.int .i64 3)) (.tmp 88), none⟩,
               ⟨(some 90), .mv (.tmp 11), none⟩,
               ⟨(some 91), .mv (.tmp 5), none⟩,
               ⟨(some 92), .bin .mul (.tmp 90) (.tmp 91), none⟩,
               ⟨(some 93), .bin .add (.tmp 89) (.tmp 92), none⟩,
               ⟨(some 94), .mv (.tmp 12), none⟩,
               ⟨(some 95), .bin .add (.tmp 93) (.tmp 94), none⟩,
               ⟨(some 96), .build [(.int .i64 0), (.int .i64 0)] [(0, 1, (.tmp 87)), (1, 1, (.tmp 95))], none⟩,
               ⟨(some 97), .bslice 93 2 1 [(.int .i64 0), (.int .i64 0)] [(0, (.tmp 96))], none⟩,
               ⟨(some 98), .app 93 2 16 (.tmp 86) (.tmp 97), none⟩,
               ⟨(some 99), .faddr 1 (.tmp 6), none⟩,
               ⟨none, .store 1 (.tmp 99) (.tmp 98), none⟩] [0, 4, 5, 6, 10, 11, 12])
           (.skip))))
         (.reg [
             ⟨(some 59), .mv (.tmp 12), none⟩,
             ⟨(some 60), .bin .add (.tmp 59) (.const (.int .i64 1)), none⟩,
             ⟨(some 12), .mv (.tmp 60), none⟩] [0, 4, 5, 6, 10, 11, 12])))))))
      (.reg [
          ⟨(some 54), .mv (.tmp 11), none⟩,
          ⟨(some 55), .bin .add (.tmp 54) (.const (.int .i64 1)), none⟩,
          ⟨(some 11), .mv (.tmp 55), none⟩] [0, 4, 5, 6, 10, 11])))))))
   (.reg [
       ⟨(some 49), .mv (.tmp 10), none⟩,
       ⟨(some 50), .bin .add (.tmp 49) (.const (.int .i64 1)), none⟩,
       ⟨(some 10), .mv (.tmp 50), none⟩] [0, 4, 5, 6, 10]))))))
 (.seq (.reg [
     ⟨(some 100), .load 2 true (.tmp 6), none⟩,
     ⟨none, .store 2 (.tmp 4) (.tmp 100), none⟩] [4])
 (.ret)))))))
theorem s_spec_l23Square : stripF Try.prog 77 [[0, 1, 4], [0, 1, 4, 5], [0, 1, 4, 5, 6], [0, 1, 4, 5, 6, 7], [0, 1, 4, 5, 6, 7], [0, 1, 4, 5, 6, 7, 19], [0, 1, 4, 5, 6, 7, 8], [0, 1, 4, 5, 6, 7, 8, 23], [0, 1, 4, 5, 6, 7, 8], [0, 1, 4, 5, 6, 7], [0, 1, 4, 5, 6, 7], [0, 4, 5, 6, 9], [0, 4, 5, 6, 9], [0, 4, 5, 6, 9, 37], [0, 4, 5, 6, 9], [0, 4, 5, 6, 9], [0, 4, 5, 6, 10], [0, 4, 5, 6, 10], [0, 4, 5, 6, 10, 48], [0, 4, 5, 6, 10, 11], [0, 4, 5, 6, 10, 11], [0, 4, 5, 6, 10, 11, 53], [0, 4, 5, 6, 10, 11, 12], [0, 4, 5, 6, 10, 11, 12], [0, 4, 5, 6, 10, 11, 12, 58], [0, 4, 5, 6, 10, 11, 12, 84], [0, 4, 5, 6, 10, 11, 12], [0, 4, 5, 6, 10, 11, 12], [0, 4, 5, 6, 10, 11], [0, 4, 5, 6, 10], [4]] = some (c_spec_l23Square, [.cell 4 2], 101) := by kernel_rfl


def colF2 (n : Nat) (cl : Bool) (v : Nat) : Int := if cl = true then 0 else ((v / n : Nat) : Int)
theorem sqCol_two (n : Nat) (cl : Bool) (hn : 1 ≤ n) : tab (3 * n) (colF2 n cl) ++ List.replicate (n * n) (3 : Int) = sqCol n cl := by
  unfold sqCol tab
  apply List.ext_getElem
  · simp
  · intro j g1 g2
    simp only [List.getElem_append, List.getElem_replicate, List.length_map, List.length_range, List.getElem_map, List.getElem_range]
    by_cases hj : j < 3 * n
    · rw [dif_pos hj]
      have hq : j / n < 3 := Nat.div_lt_of_lt_mul (by rw [Nat.mul_comm]; exact hj)
      unfold colF2
      cases cl <;> simp [hj]
      omega
    · rw [dif_neg hj]
      have hq : 3 ≤ j / n := (Nat.le_div_iff_mul_le (by omega)).2 (by omega)
      cases cl <;> simp [hj]
      all_goals omega

theorem l23Square_fn (xss : List (List Int)) (cl : Bool) (hb : latB xss = true) (h6 : xss.length ≤ 6) :
    PFn Try.prog f_spec_l23Square [ilSS xss, Bv cl] (.agg [ilS (sqCol xss.length cl), ilE (sqX xss.length xss (3 * xss.length))]) := by
  obtain ⟨hn1, -, hrl, -⟩ := latB_facts hb
  have hcel := fun {x y : Nat} hx hy => latB_cell hb (x := x) (y := y) hx hy
  have hnn : xss.length * xss.length ≤ 36 := Nat.mul_le_mul h6 h6
  have hC := sqCol_two xss.length cl hn1
  generalize hn : xss.length = n at *
  have enn : (n : Int) * (n : Int) = ((n * n : Nat) : Int) := by simp
  intro H; refine ACalls.introB s_spec_l23Square (by simp) ?_; intro hB hA; unfold c_spec_l23Square; simp (config := { maxSteps := 1000000 }) (disch := (first | omega | (simp only [go_sem]; try omega))) only [go_sem, Nat.reduceAdd, Nat.reduceEqDiff, Nat.reduceLeDiff, Nat.reduceMul, Nat.reduceLT, reduceIte, Int.reduceToNat, w64_id, cast_succ]
  repeat (first | (with_reducible first | refine SW.seq ?_ | refine SW.block ?_ | refine SW.rowC ?_ | refine SW.skip ?_ | refine SW.exit ?_ | intro _ | refine And.intro (by omega) ?_) | simp (config := { maxSteps := 1000000 }) (disch := (first | omega | (simp only [go_sem]; try omega))) only [go_sem, Nat.reduceAdd, Nat.reduceEqDiff, Nat.reduceLeDiff, Nat.reduceMul, Nat.reduceLT, reduceIte, Int.reduceToNat, w64_id, cast_succ, hn, enn])
  refine SW.loopE (fun E0 H0 q E' H' => ∃ (v : Nat) (cv : AV), v ≤ 3 * n ∧ q = 3 * n - v ∧ E' = aput E0 7 (I v) ∧ GBx H [nilS, nilS] [cv, nilS] H' ∧ GrowF H' (H.length + 2) 2 1 cv v ((tab v (colF2 n cl)).map I)) (3 * n) ⟨0, nilS, by omega, by omega, rfl, ⟨by simp, by simp, by simp, fun j hj => by rw [List.getElem?_append_left hj]⟩, .inl ⟨rfl, rfl, rfl⟩⟩ ?_
  rintro q E' H1 ⟨v, cv, hvl, rfl, rfl, ⟨b0, b1, b2, b3⟩, hg⟩
  have hvn := Nat.div_le_self v n
  have et : (v : Int).tdiv (n : Int) = ((v / n : Nat) : Int) := tdivN
  have hts : tab (v + 1) (colF2 n cl) = tab v (colF2 n cl) ++ [colF2 n cl v] := by simp [tab, List.range_succ]
  have hcf : colF2 n cl v = if cl = true then 0 else ((v / n : Nat) : Int) := rfl
  generalize hqd : v / n = qd at hvn et hcf
  simp (config := { maxSteps := 1000000 }) (disch := (first | omega | (simp only [go_sem]; try omega))) only [go_sem, Nat.reduceAdd, Nat.reduceEqDiff, Nat.reduceLeDiff, Nat.reduceMul, Nat.reduceLT, reduceIte, Int.reduceToNat, w64_id, cast_succ]
  repeat (first | (with_reducible first | refine SW.seq ?_ | refine SW.block ?_ | refine SW.rowC ?_ | refine SW.skip ?_ | refine SW.exit ?_ | intro _ | refine And.intro (by omega) ?_) | simp (config := { maxSteps := 1000000 }) (disch := (first | omega | (simp only [go_sem]; try omega))) only [go_sem, Nat.reduceAdd, Nat.reduceEqDiff, Nat.reduceLeDiff, Nat.reduceMul, Nat.reduceLT, reduceIte, Int.reduceToNat, w64_id, cast_succ, hn, enn])
  (first | refine SW.condD rfl (fun h1 => ?_) (fun h1 => ?_) | refine SW.condN rfl (fun h1 => ?_) (fun h1 => ?_) | refine SW.condNB rfl (fun h1 => ?_) (fun h1 => ?_) | refine SW.condB rfl (fun h1 => ?_) (fun h1 => ?_))
  · cases cl with
    | true =>
      repeat (first | (with_reducible first | refine SW.seq ?_ | refine SW.block ?_ | refine SW.rowC ?_ | refine SW.skip ?_ | refine SW.exit ?_ | intro _ | refine And.intro (by omega) ?_) | simp (config := { maxSteps := 1000000 }) (disch := (first | omega | (simp only [go_sem]; try omega))) only [go_sem, Nat.reduceAdd, Nat.reduceEqDiff, Nat.reduceLeDiff, Nat.reduceMul, Nat.reduceLT, reduceIte, Int.reduceToNat, w64_id, cast_succ])
      refine SW.condF rfl ?_
      repeat (first | (with_reducible first | refine SW.seq ?_ | refine SW.block ?_ | refine SW.rowC ?_ | refine SW.skip ?_ | refine SW.exit ?_ | intro _ | refine And.intro (by omega) ?_) | simp (config := { maxSteps := 1000000 }) (disch := (first | omega | (simp only [go_sem]; try omega))) only [go_sem, Nat.reduceAdd, Nat.reduceEqDiff, Nat.reduceLeDiff, Nat.reduceMul, Nat.reduceLT, reduceIte, Int.reduceToNat, w64_id, cast_succ, pc_alive b1, pc_ld b1])
      refine GrowF.appX hg b2 rfl (by simp [AV.cell1]; rfl) (by omega) (by omega) ?_
      intro v3 H3 d1 d2 d3
      have e1 : H3[H.length + 1]? = some ⟨0, tyGr, 1, [cv, nilS]⟩ := by rw [d3 _ (by omega)]; exact b1
      repeat (first | (with_reducible first | refine SW.seq ?_ | refine SW.block ?_ | refine SW.rowC ?_ | refine SW.skip ?_ | refine SW.exit ?_ | intro _ | refine And.intro (by omega) ?_) | simp (config := { maxSteps := 1000000 }) (disch := (first | omega | (simp only [go_sem]; try omega))) only [go_sem, Nat.reduceAdd, Nat.reduceEqDiff, Nat.reduceLeDiff, Nat.reduceMul, Nat.reduceLT, reduceIte, Int.reduceToNat, w64_id, cast_succ, pc_alive e1, pc_ld e1, d1.one.1, d1.one.2])
      rw [pc_st e1 (by simp)]
      repeat (first | (with_reducible first | refine SW.seq ?_ | refine SW.block ?_ | refine SW.rowC ?_ | refine SW.skip ?_ | refine SW.exit ?_ | intro _ | refine And.intro (by omega) ?_) | simp (config := { maxSteps := 1000000 }) (disch := (first | omega | (simp only [go_sem]; try omega))) only [go_sem, Nat.reduceAdd, Nat.reduceEqDiff, Nat.reduceLeDiff, Nat.reduceMul, Nat.reduceLT, reduceIte, Int.reduceToNat, w64_id, cast_succ])
      refine SLoop.next (3 * n - (v + 1)) (by omega) ⟨v + 1, v3, by omega, rfl, by simp [go_sem], ?_, ?_⟩
      · exact GBx.put ⟨b0, b1, b2, b3⟩ (Nat.le_refl _) (by omega) d3
      · rw [hts, hcf, List.map_append]
        exact d1.same (fun j b h1 h2 => by rw [List.getElem?_set_ne (by omega)]; exact h2)
    | false =>
      repeat (first | (with_reducible first | refine SW.seq ?_ | refine SW.block ?_ | refine SW.rowC ?_ | refine SW.skip ?_ | refine SW.exit ?_ | intro _ | refine And.intro (by omega) ?_) | simp (config := { maxSteps := 1000000 }) (disch := (first | omega | (simp only [go_sem]; try omega))) only [go_sem, Nat.reduceAdd, Nat.reduceEqDiff, Nat.reduceLeDiff, Nat.reduceMul, Nat.reduceLT, reduceIte, Int.reduceToNat, w64_id, cast_succ, et])
      refine SW.condT rfl ?_
      repeat (first | (with_reducible first | refine SW.seq ?_ | refine SW.block ?_ | refine SW.rowC ?_ | refine SW.skip ?_ | refine SW.exit ?_ | intro _ | refine And.intro (by omega) ?_) | simp (config := { maxSteps := 1000000 }) (disch := (first | omega | (simp only [go_sem]; try omega))) only [go_sem, Nat.reduceAdd, Nat.reduceEqDiff, Nat.reduceLeDiff, Nat.reduceMul, Nat.reduceLT, reduceIte, Int.reduceToNat, w64_id, cast_succ, et, pc_alive b1, pc_ld b1])
      refine GrowF.appX hg b2 rfl (by simp [AV.cell1]; rfl) (by omega) (by omega) ?_
      intro v3 H3 d1 d2 d3
      have e1 : H3[H.length + 1]? = some ⟨0, tyGr, 1, [cv, nilS]⟩ := by rw [d3 _ (by omega)]; exact b1
      repeat (first | (with_reducible first | refine SW.seq ?_ | refine SW.block ?_ | refine SW.rowC ?_ | refine SW.skip ?_ | refine SW.exit ?_ | intro _ | refine And.intro (by omega) ?_) | simp (config := { maxSteps := 1000000 }) (disch := (first | omega | (simp only [go_sem]; try omega))) only [go_sem, Nat.reduceAdd, Nat.reduceEqDiff, Nat.reduceLeDiff, Nat.reduceMul, Nat.reduceLT, reduceIte, Int.reduceToNat, w64_id, cast_succ, pc_alive e1, pc_ld e1, d1.one.1, d1.one.2])
      rw [pc_st e1 (by simp)]
      repeat (first | (with_reducible first | refine SW.seq ?_ | refine SW.block ?_ | refine SW.rowC ?_ | refine SW.skip ?_ | refine SW.exit ?_ | intro _ | refine And.intro (by omega) ?_) | simp (config := { maxSteps := 1000000 }) (disch := (first | omega | (simp only [go_sem]; try omega))) only [go_sem, Nat.reduceAdd, Nat.reduceEqDiff, Nat.reduceLeDiff, Nat.reduceMul, Nat.reduceLT, reduceIte, Int.reduceToNat, w64_id, cast_succ])
      refine SLoop.next (3 * n - (v + 1)) (by omega) ⟨v + 1, v3, by omega, rfl, by simp [go_sem], ?_, ?_⟩
      · exact GBx.put ⟨b0, b1, b2, b3⟩ (Nat.le_refl _) (by omega) d3
      · rw [hts, hcf, List.map_append]
        exact d1.same (fun j b h1 h2 => by rw [List.getElem?_set_ne (by omega)]; exact h2)
  · have : v = 3 * n := by omega
    subst this
    clear hvn hcf hqd et hts
    have hm0 : (tab (3 * n) (colF2 n cl)).map I = ((tab (3 * n) (colF2 n cl)) ++ List.replicate 0 (3 : Int)).map I := by simp
    rw [hm0] at hg
    generalize hT : tab (3 * n) (colF2 n cl) = T at *
    repeat (first | (with_reducible first | refine SW.seq ?_ | refine SW.block ?_ | refine SW.rowC ?_ | refine SW.skip ?_ | refine SW.exit ?_ | intro _ | refine And.intro (by omega) ?_) | simp (config := { maxSteps := 1000000 }) (disch := (first | omega | (simp only [go_sem]; try omega))) only [go_sem, Nat.reduceAdd, Nat.reduceEqDiff, Nat.reduceLeDiff, Nat.reduceMul, Nat.reduceLT, reduceIte, Int.reduceToNat, w64_id, cast_succ, hn, enn])
    refine SW.loopE (fun E0 H0 q E' H' => ∃ (i : Nat) (cv : AV), i ≤ n * n ∧ q = n * n - i ∧ E' = aput E0 9 (I i) ∧ GBx H [nilS, nilS] [cv, nilS] H' ∧ GrowF H' (H.length + 2) 2 1 cv (3 * n + i) ((T ++ List.replicate i (3 : Int)).map I)) (n * n) ⟨0, cv, by omega, by omega, rfl, ⟨b0, b1, b2, b3⟩, hg⟩ ?_
    clear hg b0 b1 b2 b3 hm0
    rintro q E' H1 ⟨i, cv, hil, rfl, rfl, ⟨b0, b1, b2, b3⟩, hg⟩
    simp (config := { maxSteps := 1000000 }) (disch := (first | omega | (simp only [go_sem]; try omega))) only [go_sem, Nat.reduceAdd, Nat.reduceEqDiff, Nat.reduceLeDiff, Nat.reduceMul, Nat.reduceLT, reduceIte, Int.reduceToNat, w64_id, cast_succ]
    repeat (first | (with_reducible first | refine SW.seq ?_ | refine SW.block ?_ | refine SW.rowC ?_ | refine SW.skip ?_ | refine SW.exit ?_ | intro _ | refine And.intro (by omega) ?_) | simp (config := { maxSteps := 1000000 }) (disch := (first | omega | (simp only [go_sem]; try omega))) only [go_sem, Nat.reduceAdd, Nat.reduceEqDiff, Nat.reduceLeDiff, Nat.reduceMul, Nat.reduceLT, reduceIte, Int.reduceToNat, w64_id, cast_succ, hn, enn])
    (first | refine SW.condD rfl (fun h2 => ?_) (fun h2 => ?_) | refine SW.condN rfl (fun h2 => ?_) (fun h2 => ?_) | refine SW.condNB rfl (fun h2 => ?_) (fun h2 => ?_) | refine SW.condB rfl (fun h2 => ?_) (fun h2 => ?_))
    · repeat (first | (with_reducible first | refine SW.seq ?_ | refine SW.block ?_ | refine SW.rowC ?_ | refine SW.skip ?_ | refine SW.exit ?_ | intro _ | refine And.intro (by omega) ?_) | simp (config := { maxSteps := 1000000 }) (disch := (first | omega | (simp only [go_sem]; try omega))) only [go_sem, Nat.reduceAdd, Nat.reduceEqDiff, Nat.reduceLeDiff, Nat.reduceMul, Nat.reduceLT, reduceIte, Int.reduceToNat, w64_id, cast_succ, pc_alive b1, pc_ld b1])
      refine GrowF.appX hg b2 rfl (by simp [AV.cell1]; rfl) (by omega) (by omega) ?_
      intro v3 H3 d1 d2 d3
      have e1 : H3[H.length + 1]? = some ⟨0, tyGr, 1, [cv, nilS]⟩ := by rw [d3 _ (by omega)]; exact b1
      repeat (first | (with_reducible first | refine SW.seq ?_ | refine SW.block ?_ | refine SW.rowC ?_ | refine SW.skip ?_ | refine SW.exit ?_ | intro _ | refine And.intro (by omega) ?_) | simp (config := { maxSteps := 1000000 }) (disch := (first | omega | (simp only [go_sem]; try omega))) only [go_sem, Nat.reduceAdd, Nat.reduceEqDiff, Nat.reduceLeDiff, Nat.reduceMul, Nat.reduceLT, reduceIte, Int.reduceToNat, w64_id, cast_succ, pc_alive e1, pc_ld e1, d1.one.1, d1.one.2])
      rw [pc_st e1 (by simp)]
      repeat (first | (with_reducible first | refine SW.seq ?_ | refine SW.block ?_ | refine SW.rowC ?_ | refine SW.skip ?_ | refine SW.exit ?_ | intro _ | refine And.intro (by omega) ?_) | simp (config := { maxSteps := 1000000 }) (disch := (first | omega | (simp only [go_sem]; try omega))) only [go_sem, Nat.reduceAdd, Nat.reduceEqDiff, Nat.reduceLeDiff, Nat.reduceMul, Nat.reduceLT, reduceIte, Int.reduceToNat, w64_id, cast_succ])
      refine SLoop.next (n * n - (i + 1)) (by omega) ⟨i + 1, v3, by omega, rfl, by simp [go_sem], ?_, ?_⟩
      · exact GBx.put ⟨b0, b1, b2, b3⟩ (Nat.le_refl _) (by omega) d3
      · rw [List.replicate_succ', ← List.append_assoc, List.map_append]
        exact d1.same (fun j b h1 h2 => by rw [List.getElem?_set_ne (by omega)]; exact h2)
    · have : i = n * n := by omega
      subst this
      rw [hC] at hg
      generalize hCg : sqCol n cl = C at *
      have hCl : C.length = 3 * n + n * n := by rw [← hCg]; simp [sqCol, tab]
      repeat (first | (with_reducible first | refine SW.seq ?_ | refine SW.block ?_ | refine SW.rowC ?_ | refine SW.skip ?_ | refine SW.exit ?_ | intro _ | refine And.intro (by omega) ?_) | simp (config := { maxSteps := 1000000 }) (disch := (first | omega | (simp only [go_sem]; try omega))) only [go_sem, Nat.reduceAdd, Nat.reduceEqDiff, Nat.reduceLeDiff, Nat.reduceMul, Nat.reduceLT, reduceIte, Int.reduceToNat, w64_id, cast_succ])
      refine SW.loopE (fun E0 H0 q E' H' => ∃ (l : Nat) (ev : AV), l ≤ 3 * n ∧ q = 3 * n - l ∧ E' = aput E0 10 (I l) ∧ GBx H [nilS, nilS] [cv, ev] H' ∧ GrowF H' H1.length tyE 2 ev (sqX n xss l).length (flatE (sqX n xss l)) ∧ H1.length ≤ H'.length ∧ ∀ j, H.length + 2 ≤ j → j < H1.length → H'[j]? = H1[j]?) (3 * n) ⟨0, nilS, by omega, by omega, rfl, ⟨b0, b1, b2, b3⟩, .inl ⟨rfl, rfl, rfl⟩, Nat.le_refl _, fun _ _ _ => rfl⟩ ?_
      clear b0 b1 b3
      rintro q E' H2 ⟨l, ev, hll, rfl, rfl, hgb, hge, hl2, hk2⟩
      have hXs := sqX_succ n xss l
      have hXl := sqX_len n xss l
      have hXb : l * (n * n) ≤ 18 * 36 := Nat.mul_le_mul (by omega) hnn
      generalize hX : sqX n xss l = X at *
      simp (config := { maxSteps := 1000000 }) (disch := (first | omega | (simp only [go_sem]; try omega))) only [go_sem, Nat.reduceAdd, Nat.reduceEqDiff, Nat.reduceLeDiff, Nat.reduceMul, Nat.reduceLT, reduceIte, Int.reduceToNat, w64_id, cast_succ]
      repeat (first | (with_reducible first | refine SW.seq ?_ | refine SW.block ?_ | refine SW.rowC ?_ | refine SW.skip ?_ | refine SW.exit ?_ | intro _ | refine And.intro (by omega) ?_) | simp (config := { maxSteps := 1000000 }) (disch := (first | omega | (simp only [go_sem]; try omega))) only [go_sem, Nat.reduceAdd, Nat.reduceEqDiff, Nat.reduceLeDiff, Nat.reduceMul, Nat.reduceLT, reduceIte, Int.reduceToNat, w64_id, cast_succ, hn, enn])
      (first | refine SW.condD rfl (fun h3 => ?_) (fun h3 => ?_) | refine SW.condN rfl (fun h3 => ?_) (fun h3 => ?_) | refine SW.condNB rfl (fun h3 => ?_) (fun h3 => ?_) | refine SW.condB rfl (fun h3 => ?_) (fun h3 => ?_))
      · repeat (first | (with_reducible first | refine SW.seq ?_ | refine SW.block ?_ | refine SW.rowC ?_ | refine SW.skip ?_ | refine SW.exit ?_ | intro _ | refine And.intro (by omega) ?_) | simp (config := { maxSteps := 1000000 }) (disch := (first | omega | (simp only [go_sem]; try omega))) only [go_sem, Nat.reduceAdd, Nat.reduceEqDiff, Nat.reduceLeDiff, Nat.reduceMul, Nat.reduceLT, reduceIte, Int.reduceToNat, w64_id, cast_succ])
        refine SW.loopE (fun E0 H0 q E' H' => ∃ (x : Nat) (ev : AV), x ≤ n ∧ q = n - x ∧ E' = aput E0 11 (I x) ∧ GBx H [nilS, nilS] [cv, ev] H' ∧ GrowF H' H1.length tyE 2 ev (X ++ sqX2 n xss l x).length (flatE (X ++ sqX2 n xss l x)) ∧ H1.length ≤ H'.length ∧ ∀ j, H.length + 2 ≤ j → j < H1.length → H'[j]? = H1[j]?) n ⟨0, ev, by omega, by omega, rfl, hgb, by simpa [sqX2] using hge, hl2, hk2⟩ ?_
        clear hgb hge hl2 hk2
        rintro q E' H2 ⟨x, ev, hxl, rfl, rfl, hgb, hge, hl2, hk2⟩
        have hYs := sqX2_succ n xss l x
        have hYl := sqX2_len n xss l x
        have hYb : x * n ≤ 36 := Nat.mul_le_mul (show x ≤ 6 by omega) h6
        have hZ : X ++ sqX2 n xss l (x + 1) = (X ++ sqX2 n xss l x) ++ sqX1 n xss l x n := by rw [hYs, List.append_assoc]
        have hZn : X.length + (sqX2 n xss l (x + 1)).length = ((X ++ sqX2 n xss l x) ++ sqX1 n xss l x n).length := by rw [← hZ, List.length_append]
        have hZl : (X ++ sqX2 n xss l x).length ≤ 18 * 36 + 36 := by rw [List.length_append]; omega
        generalize hY : X ++ sqX2 n xss l x = Y at *
        simp (config := { maxSteps := 1000000 }) (disch := (first | omega | (simp only [go_sem]; try omega))) only [go_sem, Nat.reduceAdd, Nat.reduceEqDiff, Nat.reduceLeDiff, Nat.reduceMul, Nat.reduceLT, reduceIte, Int.reduceToNat, w64_id, cast_succ]
        repeat (first | (with_reducible first | refine SW.seq ?_ | refine SW.block ?_ | refine SW.rowC ?_ | refine SW.skip ?_ | refine SW.exit ?_ | intro _ | refine And.intro (by omega) ?_) | simp (config := { maxSteps := 1000000 }) (disch := (first | omega | (simp only [go_sem]; try omega))) only [go_sem, Nat.reduceAdd, Nat.reduceEqDiff, Nat.reduceLeDiff, Nat.reduceMul, Nat.reduceLT, reduceIte, Int.reduceToNat, w64_id, cast_succ, hn, enn])
        (first | refine SW.condD rfl (fun h4 => ?_) (fun h4 => ?_) | refine SW.condN rfl (fun h4 => ?_) (fun h4 => ?_) | refine SW.condNB rfl (fun h4 => ?_) (fun h4 => ?_) | refine SW.condB rfl (fun h4 => ?_) (fun h4 => ?_))
        · repeat (first | (with_reducible first | refine SW.seq ?_ | refine SW.block ?_ | refine SW.rowC ?_ | refine SW.skip ?_ | refine SW.exit ?_ | intro _ | refine And.intro (by omega) ?_) | simp (config := { maxSteps := 1000000 }) (disch := (first | omega | (simp only [go_sem]; try omega))) only [go_sem, Nat.reduceAdd, Nat.reduceEqDiff, Nat.reduceLeDiff, Nat.reduceMul, Nat.reduceLT, reduceIte, Int.reduceToNat, w64_id, cast_succ])
          refine SW.loopE (fun E0 H0 q E' H' => ∃ (y : Nat) (ev : AV), y ≤ n ∧ q = n - y ∧ E' = aput E0 12 (I y) ∧ GBx H [nilS, nilS] [cv, ev] H' ∧ GrowF H' H1.length tyE 2 ev (Y ++ sqX1 n xss l x y).length (flatE (Y ++ sqX1 n xss l x y)) ∧ H1.length ≤ H'.length ∧ ∀ j, H.length + 2 ≤ j → j < H1.length → H'[j]? = H1[j]?) n ⟨0, ev, by omega, by omega, rfl, hgb, by simpa [sqX1] using hge, hl2, hk2⟩ ?_
          clear hgb hge hl2 hk2
          rintro q E' H2 ⟨y, ev, hyl, rfl, rfl, ⟨b0, b1, b2', b3⟩, hge, hl2, hk2⟩
          have hWs := sqX1_succ n xss l x y
          have hWl := sqX1_len n xss l x y
          simp (config := { maxSteps := 1000000 }) (disch := (first | omega | (simp only [go_sem]; try omega))) only [go_sem, Nat.reduceAdd, Nat.reduceEqDiff, Nat.reduceLeDiff, Nat.reduceMul, Nat.reduceLT, reduceIte, Int.reduceToNat, w64_id, cast_succ]
          repeat (first | (with_reducible first | refine SW.seq ?_ | refine SW.block ?_ | refine SW.rowC ?_ | refine SW.skip ?_ | refine SW.exit ?_ | intro _ | refine And.intro (by omega) ?_) | simp (config := { maxSteps := 1000000 }) (disch := (first | omega | (simp only [go_sem]; try omega))) only [go_sem, Nat.reduceAdd, Nat.reduceEqDiff, Nat.reduceLeDiff, Nat.reduceMul, Nat.reduceLT, reduceIte, Int.reduceToNat, w64_id, cast_succ, hn, enn])
          (first | refine SW.condD rfl (fun h5 => ?_) (fun h5 => ?_) | refine SW.condN rfl (fun h5 => ?_) (fun h5 => ?_) | refine SW.condNB rfl (fun h5 => ?_) (fun h5 => ?_) | refine SW.condB rfl (fun h5 => ?_) (fun h5 => ?_))
          · have hc := hcel (x := x) (y := y) (by omega) (by omega)
            have hrx : (xss.getD x []).length = n := hrl _ (by rw [List.getD_eq_getElem?_getD, List.getElem?_eq_getElem (by omega)]; exact List.getElem_mem _)
            have hxn : (x : Int) * (n : Int) = ((n * x : Nat) : Int) := by rw [Nat.mul_comm]; simp
            have hxb : n * x ≤ 36 := Nat.mul_le_mul h6 (show x ≤ 6 by omega)
            have hcN : (3 * (n : Int) + ((n * x : Nat) : Int) + (y : Int)) = celN n x y := by unfold celN; omega
            have hcd : cndQ n xss l x y = (decide ((l : Int) = (x : Int)) || (decide ((l : Int) = (n : Int) + (y : Int)) || decide ((l : Int) = 2 * (n : Int) + (xss.getD x []).getD y 0))) := rfl
            generalize hcy : celN n x y = cy at *
            generalize hcv : (xss.getD x []).getD y 0 = cv2 at *
            have nm2 : ∀ (ty : Nat) (a b : AV), NmV 0 0 1 (some ⟨0, ty, 2, [a, b]⟩) = some (1, [a, b]) := fun ty a b => by simp [NmV]
            by_cases hcn : cndQ n xss l x y = true
            · rw [if_pos hcn] at hWs
              rw [hcn] at hcd
              have hcs : (l : Int) = (x : Int) ∨ (¬ (l : Int) = (x : Int) ∧ (l : Int) = (n : Int) + (y : Int)) ∨ (¬ (l : Int) = (x : Int) ∧ ¬ (l : Int) = (n : Int) + (y : Int) ∧ (l : Int) = 2 * (n : Int) + cv2) := by
                have := hcd.symm
                simp only [Bool.or_eq_true, decide_eq_true_eq] at this
                omega
              rcases hcs with c | c | c
              case' inl =>
                have dA := decide_eq_true c
                repeat (first | (with_reducible first | refine SW.seq ?_ | refine SW.block ?_ | refine SW.rowC ?_ | refine SW.skip ?_ | refine SW.exit ?_ | intro _ | refine And.intro (by omega) ?_) | simp (config := { maxSteps := 1000000 }) (disch := (first | omega | (simp only [go_sem]; try omega))) only [go_sem, Nat.reduceAdd, Nat.reduceEqDiff, Nat.reduceLeDiff, Nat.reduceMul, Nat.reduceLT, reduceIte, Int.reduceToNat, w64_id, cast_succ, dA])
                refine SW.condT rfl ?_
              case' inr.inl =>
                have dA := decide_eq_false c.1
                have dB := decide_eq_true c.2
                repeat (first | (with_reducible first | refine SW.seq ?_ | refine SW.block ?_ | refine SW.rowC ?_ | refine SW.skip ?_ | refine SW.exit ?_ | intro _ | refine And.intro (by omega) ?_) | simp (config := { maxSteps := 1000000 }) (disch := (first | omega | (simp only [go_sem]; try omega))) only [go_sem, Nat.reduceAdd, Nat.reduceEqDiff, Nat.reduceLeDiff, Nat.reduceMul, Nat.reduceLT, reduceIte, Int.reduceToNat, w64_id, cast_succ, dA, dB])
                refine SW.condT rfl ?_
              case' inr.inr =>
                have dA := decide_eq_false c.1
                have dB := decide_eq_false c.2.1
                have dC := decide_eq_true c.2.2
                repeat (first | (with_reducible first | refine SW.seq ?_ | refine SW.block ?_ | refine SW.rowC ?_ | refine SW.skip ?_ | refine SW.exit ?_ | intro _ | refine And.intro (by omega) ?_) | simp (config := { maxSteps := 1000000 }) (disch := (first | omega | (simp only [go_sem]; try omega))) only [go_sem, Nat.reduceAdd, Nat.reduceEqDiff, Nat.reduceLeDiff, Nat.reduceMul, Nat.reduceLT, reduceIte, Int.reduceToNat, w64_id, cast_succ, dA, dB, dC, hn, hrx, hcv])
                refine SW.condT rfl ?_
              all_goals
                repeat (first | (with_reducible first | refine SW.seq ?_ | refine SW.block ?_ | refine SW.rowC ?_ | refine SW.skip ?_ | refine SW.exit ?_ | intro _ | refine And.intro (by omega) ?_) | simp (config := { maxSteps := 1000000 }) (disch := (first | omega | (simp only [go_sem]; try omega))) only [go_sem, Nat.reduceAdd, Nat.reduceEqDiff, Nat.reduceLeDiff, Nat.reduceMul, Nat.reduceLT, reduceIte, Int.reduceToNat, w64_id, cast_succ, pc_alive b1, pc_ld b1, nm2, hxn, hcN])
                refine GrowF.appX hge hl2 rfl (by simp [AV.cell1]; exact ⟨rfl, rfl⟩) (by simp; omega) (by simp; omega) ?_
                intro v3 H3 d1 d2 d3
                have e1 : H3[H.length + 1]? = some ⟨0, tyGr, 1, [cv, ev]⟩ := by rw [d3 _ (by omega)]; exact b1
                repeat (first | (with_reducible first | refine SW.seq ?_ | refine SW.block ?_ | refine SW.rowC ?_ | refine SW.skip ?_ | refine SW.exit ?_ | intro _ | refine And.intro (by omega) ?_) | simp (config := { maxSteps := 1000000 }) (disch := (first | omega | (simp only [go_sem]; try omega))) only [go_sem, Nat.reduceAdd, Nat.reduceEqDiff, Nat.reduceLeDiff, Nat.reduceMul, Nat.reduceLT, reduceIte, Int.reduceToNat, w64_id, cast_succ, pc_alive e1, pc_ld e1, d1.one.1, d1.one.2])
                rw [pc_st e1 (by simp)]
                repeat (first | (with_reducible first | refine SW.seq ?_ | refine SW.block ?_ | refine SW.rowC ?_ | refine SW.skip ?_ | refine SW.exit ?_ | intro _ | refine And.intro (by omega) ?_) | simp (config := { maxSteps := 1000000 }) (disch := (first | omega | (simp only [go_sem]; try omega))) only [go_sem, Nat.reduceAdd, Nat.reduceEqDiff, Nat.reduceLeDiff, Nat.reduceMul, Nat.reduceLT, reduceIte, Int.reduceToNat, w64_id, cast_succ])
                refine SLoop.next (n - (y + 1)) (by omega) ⟨y + 1, v3, by omega, rfl, by simp [go_sem], ?_, ?_, by simp; omega, ?_⟩
                · exact GBx.put (base := H1.length) ⟨b0, b1, b2', b3⟩ b2 (by omega) (fun j hj => d3 j hj)
                · have e := d1.same (H' := H3.set (H.length + 1) ⟨0, tyGr, 1, [cv, v3]⟩) (fun j b h1 h2 => by rw [List.getElem?_set_ne (by omega)]; exact h2)
                  rw [hWs, ← List.append_assoc, flatE_snoc]
                  simpa [Nat.add_assoc] using e
                · intro j hj1 hj2
                  rw [List.getElem?_set_ne (by omega), d3 _ hj2]; exact hk2 j hj1 hj2
            · rw [if_neg hcn] at hWs
              rw [Bool.not_eq_true] at hcn
              rw [hcn] at hcd
              have hcs : ¬ (l : Int) = (x : Int) ∧ ¬ (l : Int) = (n : Int) + (y : Int) ∧ ¬ (l : Int) = 2 * (n : Int) + cv2 := by
                have := hcd.symm
                simp only [Bool.or_eq_false_iff, decide_eq_false_iff_not] at this
                omega
              have dA := decide_eq_false hcs.1
              have dB := decide_eq_false hcs.2.1
              have dC := decide_eq_false hcs.2.2
              repeat (first | (with_reducible first | refine SW.seq ?_ | refine SW.block ?_ | refine SW.rowC ?_ | refine SW.skip ?_ | refine SW.exit ?_ | intro _ | refine And.intro (by omega) ?_) | simp (config := { maxSteps := 1000000 }) (disch := (first | omega | (simp only [go_sem]; try omega))) only [go_sem, Nat.reduceAdd, Nat.reduceEqDiff, Nat.reduceLeDiff, Nat.reduceMul, Nat.reduceLT, reduceIte, Int.reduceToNat, w64_id, cast_succ, dA, dB, dC, hn, hrx, hcv])
              refine SW.condF rfl ?_
              repeat (first | (with_reducible first | refine SW.seq ?_ | refine SW.block ?_ | refine SW.rowC ?_ | refine SW.skip ?_ | refine SW.exit ?_ | intro _ | refine And.intro (by omega) ?_) | simp (config := { maxSteps := 1000000 }) (disch := (first | omega | (simp only [go_sem]; try omega))) only [go_sem, Nat.reduceAdd, Nat.reduceEqDiff, Nat.reduceLeDiff, Nat.reduceMul, Nat.reduceLT, reduceIte, Int.reduceToNat, w64_id, cast_succ])
              refine SLoop.next (n - (y + 1)) (by omega) ⟨y + 1, ev, by omega, rfl, by simp [go_sem], ⟨b0, b1, b2', b3⟩, ?_, hl2, hk2⟩
              rw [hWs, List.append_nil]; simpa using hge
          · have : y = n := by omega
            subst this
            repeat (first | (with_reducible first | refine SW.seq ?_ | refine SW.block ?_ | refine SW.rowC ?_ | refine SW.skip ?_ | refine SW.exit ?_ | intro _ | refine And.intro (by omega) ?_) | simp (config := { maxSteps := 1000000 }) (disch := (first | omega | (simp only [go_sem]; try omega))) only [go_sem, Nat.reduceAdd, Nat.reduceEqDiff, Nat.reduceLeDiff, Nat.reduceMul, Nat.reduceLT, reduceIte, Int.reduceToNat, w64_id, cast_succ])
            refine SLoop.next (y - (x + 1)) (by omega) ⟨x + 1, ev, by omega, rfl, by simp [go_sem], ⟨b0, b1, b2', b3⟩, by rw [hZn, hZ]; exact hge, hl2, hk2⟩
        · have : x = n := by omega
          subst this
          repeat (first | (with_reducible first | refine SW.seq ?_ | refine SW.block ?_ | refine SW.rowC ?_ | refine SW.skip ?_ | refine SW.exit ?_ | intro _ | refine And.intro (by omega) ?_) | simp (config := { maxSteps := 1000000 }) (disch := (first | omega | (simp only [go_sem]; try omega))) only [go_sem, Nat.reduceAdd, Nat.reduceEqDiff, Nat.reduceLeDiff, Nat.reduceMul, Nat.reduceLT, reduceIte, Int.reduceToNat, w64_id, cast_succ])
          refine SLoop.next (3 * x - (l + 1)) (by omega) ⟨l + 1, ev, by omega, rfl, by simp [go_sem], hgb, by rw [hXs, hY]; exact hge, hl2, hk2⟩
      · have : l = 3 * n := by omega
        subst this
        obtain ⟨b0, b1, b2', b3⟩ := hgb
        repeat (first | (with_reducible first | refine SW.seq ?_ | refine SW.block ?_ | refine SW.rowC ?_ | refine SW.skip ?_ | refine SW.exit ?_ | intro _ | refine And.intro (by omega) ?_) | simp (config := { maxSteps := 1000000 }) (disch := (first | omega | (simp only [go_sem]; try omega))) only [go_sem, Nat.reduceAdd, Nat.reduceEqDiff, Nat.reduceLeDiff, Nat.reduceMul, Nat.reduceLT, reduceIte, Int.reduceToNat, w64_id, cast_succ, pc_lds b1, hg.one.1, hg.one.2, hge.one.1, hge.one.2])
        rw [pc_st b0 (by simp)]
        repeat (first | (with_reducible first | refine SW.seq ?_ | refine SW.block ?_ | refine SW.rowC ?_ | refine SW.skip ?_ | refine SW.exit ?_ | intro _ | refine And.intro (by omega) ?_) | simp (config := { maxSteps := 1000000 }) (disch := (first | omega | (simp only [go_sem]; try omega))) only [go_sem, Nat.reduceAdd, Nat.reduceEqDiff, Nat.reduceLeDiff, Nat.reduceMul, Nat.reduceLT, reduceIte, Int.reduceToNat, w64_id, cast_succ])
        refine SW.ret ?_
        have c0 : (H2.set H.length ⟨0, tyGr, 1, [cv, ev]⟩)[H.length]? = some ⟨0, tyGr, 1, [cv, ev]⟩ := List.getElem?_set_self (by omega)
        refine FunPost.cell (cs := [cv, ev]) (by simp (config := { maxSteps := 1000000 }) (disch := (first | omega | (simp only [go_sem]; try omega))) only [go_sem, Nat.reduceAdd, Nat.reduceEqDiff, Nat.reduceLeDiff, Nat.reduceMul, Nat.reduceLT, reduceIte, Int.reduceToNat, w64_id, cast_succ, pc_lds c0]) ?_
        refine GR.frozP (prefix_of (by simp; omega) (fun j hj => by rw [List.getElem?_set_ne (by omega)]; exact b3 j hj)) (r' := .agg [ilS C, ilE (sqX n xss (3 * n))]) (froz_agg2 ?_ ?_) ⟨rfl, rfl⟩
        · exact (hg.same (fun j b h1 h2 => by rw [List.getElem?_set_ne (by omega), hk2 j h1 (List.getElem?_eq_some_iff.1 h2).1]; exact h2)).frozI (by omega)
        · rw [hX]; exact (hge.same (fun j b h1 h2 => by rw [List.getElem?_set_ne (by omega)]; exact h2)).frozE (by omega)

theorem specSquareGraph_fn (xss : List (List Int)) (cl : Bool) : PFn Try.prog f_spec_SquareGraph [ilSS xss, Bv cl] (.tup [.agg [ilS (sqV xss cl).1.1, ilE (sqV xss cl).1.2], I (sqV xss cl).2]) := by
  have hok := l06Ok_fn xss
  unfold sqV
  by_cases hb : latB xss = true
  · rw [if_pos hb]
    rw [hb] at hok
    by_cases h6 : 6 < xss.length
    · rw [if_pos h6]
      have d1 : decide ((6 : Int) < (xss.length : Int)) = true := decide_eq_true (by omega)
      intro H; refine ACalls.introB s_spec_SquareGraph (by simp) ?_; intro hB hA; unfold c_spec_SquareGraph; simp (config := { maxSteps := 1000000 }) (disch := (first | omega | (simp only [go_sem]; try omega))) only [go_sem, Nat.reduceAdd, Nat.reduceEqDiff, Nat.reduceLeDiff, Nat.reduceMul, Nat.reduceLT, reduceIte, Int.reduceToNat, w64_id, cast_succ]
      repeat (first | (with_reducible first | refine SW.seq ?_ | refine SW.block ?_ | refine SW.rowC ?_ | refine SW.skip ?_ | refine SW.exit ?_ | refine PFn.use (hok) ?_ | refine PFn.useq (hok) ?_ | intro _ | refine And.intro (by omega) ?_) | simp (config := { maxSteps := 1000000 }) (disch := (first | omega | (simp only [go_sem]; try omega))) only [go_sem, Nat.reduceAdd, Nat.reduceEqDiff, Nat.reduceLeDiff, Nat.reduceMul, Nat.reduceLT, reduceIte, Int.reduceToNat, w64_id, cast_succ, d1])
      refine SW.condF rfl ?_
      repeat (first | (with_reducible first | refine SW.seq ?_ | refine SW.block ?_ | refine SW.rowC ?_ | refine SW.skip ?_ | refine SW.exit ?_ | intro _ | refine And.intro (by omega) ?_) | simp (config := { maxSteps := 1000000 }) (disch := (first | omega | (simp only [go_sem]; try omega))) only [go_sem, Nat.reduceAdd, Nat.reduceEqDiff, Nat.reduceLeDiff, Nat.reduceMul, Nat.reduceLT, reduceIte, Int.reduceToNat, w64_id, cast_succ, d1])
      refine SW.condT rfl ?_
      repeat (first | (with_reducible first | refine SW.seq ?_ | refine SW.block ?_ | refine SW.rowC ?_ | refine SW.skip ?_ | refine SW.exit ?_ | intro _ | refine And.intro (by omega) ?_) | simp (config := { maxSteps := 1000000 }) (disch := (first | omega | (simp only [go_sem]; try omega))) only [go_sem, Nat.reduceAdd, Nat.reduceEqDiff, Nat.reduceLeDiff, Nat.reduceMul, Nat.reduceLT, reduceIte, Int.reduceToNat, w64_id, cast_succ])
      refine SW.ret ?_
      refine FunPost.cell_tmp (cs := [nilS, nilS]) (by simp (config := { maxSteps := 1000000 }) (disch := (first | omega | (simp only [go_sem]; try omega))) only [go_sem, Nat.reduceAdd, Nat.reduceEqDiff, Nat.reduceLeDiff, Nat.reduceMul, Nat.reduceLT, reduceIte, Int.reduceToNat, w64_id, cast_succ]) ?_
      exact GR.froz (r' := .tup [.agg [ilS [], ilE []], I 5]) (froz_tup2 (froz_agg2 .nil .nil) (froz_I' _)) ⟨rfl, rfl⟩
    · rw [if_neg h6, ← sqX_is hb]
      have d1 : decide ((6 : Int) < (xss.length : Int)) = false := decide_eq_false (by omega)
      have hs := l23Square_fn xss cl hb (by omega)
      generalize sqX xss.length xss (3 * xss.length) = X at *
      generalize sqCol xss.length cl = C at *
      intro H; refine ACalls.introB s_spec_SquareGraph (by simp) ?_; intro hB hA; unfold c_spec_SquareGraph; simp (config := { maxSteps := 1000000 }) (disch := (first | omega | (simp only [go_sem]; try omega))) only [go_sem, Nat.reduceAdd, Nat.reduceEqDiff, Nat.reduceLeDiff, Nat.reduceMul, Nat.reduceLT, reduceIte, Int.reduceToNat, w64_id, cast_succ]
      repeat (first | (with_reducible first | refine SW.seq ?_ | refine SW.block ?_ | refine SW.rowC ?_ | refine SW.skip ?_ | refine SW.exit ?_ | refine PFn.use (hok) ?_ | refine PFn.useq (hok) ?_ | intro _ | refine And.intro (by omega) ?_) | simp (config := { maxSteps := 1000000 }) (disch := (first | omega | (simp only [go_sem]; try omega))) only [go_sem, Nat.reduceAdd, Nat.reduceEqDiff, Nat.reduceLeDiff, Nat.reduceMul, Nat.reduceLT, reduceIte, Int.reduceToNat, w64_id, cast_succ, d1])
      refine SW.condF rfl ?_
      repeat (first | (with_reducible first | refine SW.seq ?_ | refine SW.block ?_ | refine SW.rowC ?_ | refine SW.skip ?_ | refine SW.exit ?_ | intro _ | refine And.intro (by omega) ?_) | simp (config := { maxSteps := 1000000 }) (disch := (first | omega | (simp only [go_sem]; try omega))) only [go_sem, Nat.reduceAdd, Nat.reduceEqDiff, Nat.reduceLeDiff, Nat.reduceMul, Nat.reduceLT, reduceIte, Int.reduceToNat, w64_id, cast_succ, d1])
      refine SW.condF rfl ?_
      repeat (first | (with_reducible first | refine SW.seq ?_ | refine SW.block ?_ | refine SW.rowC ?_ | refine SW.skip ?_ | refine SW.exit ?_ | refine PFn.use (hs) ?_ | refine PFn.useq (hs) ?_ | intro _ | refine And.intro (by omega) ?_) | simp (config := { maxSteps := 1000000 }) (disch := (first | omega | (simp only [go_sem]; try omega))) only [go_sem, Nat.reduceAdd, Nat.reduceEqDiff, Nat.reduceLeDiff, Nat.reduceMul, Nat.reduceLT, reduceIte, Int.reduceToNat, w64_id, cast_succ])
      have hcE : (ilE X).cell1 = true := rfl
      have hpE : partsOf (ilE X) = [ilE X] := rfl
      repeat (first | (with_reducible first | refine SW.seq ?_ | refine SW.block ?_ | refine SW.rowC ?_ | refine SW.skip ?_ | refine SW.exit ?_ | intro _ | refine And.intro (by omega) ?_) | simp (config := { maxSteps := 1000000 }) (disch := (first | omega | (simp only [go_sem]; try omega))) only [go_sem, Nat.reduceAdd, Nat.reduceEqDiff, Nat.reduceLeDiff, Nat.reduceMul, Nat.reduceLT, reduceIte, Int.reduceToNat, w64_id, cast_succ, hcE, hpE])
      refine SW.ret ?_
      refine FunPost.cell_tmp (cs := [ilS C, ilE X]) (by simp (config := { maxSteps := 1000000 }) (disch := (first | omega | (simp only [go_sem]; try omega))) only [go_sem, Nat.reduceAdd, Nat.reduceEqDiff, Nat.reduceLeDiff, Nat.reduceMul, Nat.reduceLT, reduceIte, Int.reduceToNat, w64_id, cast_succ]) ?_
      refine GR.drop ?_ ⟨rfl, rfl⟩
      have hbE := Bel_ilE H.length X
      (simp only [go_sem, Nat.reduceAdd, Nat.reduceEqDiff, reduceIte, go_sem, and_self, and_true, true_and, implies_true, List.take_succ_cons, List.take_zero, and_true, true_and, hbE]; try omega)
  · rw [if_neg hb]
    rw [Bool.not_eq_true] at hb
    rw [hb] at hok
    intro H; refine ACalls.introB s_spec_SquareGraph (by simp) ?_; intro hB hA; unfold c_spec_SquareGraph; simp (config := { maxSteps := 1000000 }) (disch := (first | omega | (simp only [go_sem]; try omega))) only [go_sem, Nat.reduceAdd, Nat.reduceEqDiff, Nat.reduceLeDiff, Nat.reduceMul, Nat.reduceLT, reduceIte, Int.reduceToNat, w64_id, cast_succ]
    repeat (first | (with_reducible first | refine SW.seq ?_ | refine SW.block ?_ | refine SW.rowC ?_ | refine SW.skip ?_ | refine SW.exit ?_ | refine PFn.use (hok) ?_ | refine PFn.useq (hok) ?_ | intro _ | refine And.intro (by omega) ?_) | simp (config := { maxSteps := 1000000 }) (disch := (first | omega | (simp only [go_sem]; try omega))) only [go_sem, Nat.reduceAdd, Nat.reduceEqDiff, Nat.reduceLeDiff, Nat.reduceMul, Nat.reduceLT, reduceIte, Int.reduceToNat, w64_id, cast_succ])
    refine SW.condT rfl ?_
    repeat (first | (with_reducible first | refine SW.seq ?_ | refine SW.block ?_ | refine SW.rowC ?_ | refine SW.skip ?_ | refine SW.exit ?_ | intro _ | refine And.intro (by omega) ?_) | simp (config := { maxSteps := 1000000 }) (disch := (first | omega | (simp only [go_sem]; try omega))) only [go_sem, Nat.reduceAdd, Nat.reduceEqDiff, Nat.reduceLeDiff, Nat.reduceMul, Nat.reduceLT, reduceIte, Int.reduceToNat, w64_id, cast_succ])
    refine SW.ret ?_
    refine FunPost.cell_tmp (cs := [nilS, nilS]) (by simp (config := { maxSteps := 1000000 }) (disch := (first | omega | (simp only [go_sem]; try omega))) only [go_sem, Nat.reduceAdd, Nat.reduceEqDiff, Nat.reduceLeDiff, Nat.reduceMul, Nat.reduceLT, reduceIte, Int.reduceToNat, w64_id, cast_succ]) ?_
    exact GR.froz (r' := .tup [.agg [ilS [], ilE []], I 1]) (froz_tup2 (froz_agg2 .nil .nil) (froz_I' _)) ⟨rfl, rfl⟩
end Go.Proofs.Ytonfknfphdeenaa
