/- Rows that cover pairs: the reference's next row. -/
import Derived.Test.YthogadbnddmkdaaProg
import Derived.KernelRfl
import Derived.Test.YthogadbnddmkdaazTL
set_option linter.unusedSimpArgs false
set_option linter.unusedVariables false
set_option maxHeartbeats 4000000
set_option maxRecDepth 100000
namespace Go.Proofs.Ythogadbnddmkdaa
open Go.Av
abbrev f_spec_l16At : Nat := 43
def c_spec_l16At : SC :=
 .seq (.reg [
     ⟨(some 12), .mv (.const (.int .i64 0)), none⟩] [0, 1, 2, 3, 4, 5])
 (.seq (.reg [
     ⟨(some 13), .mv (.tmp 2), none⟩,
     ⟨(some 14), .mv (.tmp 1), none⟩,
     ⟨(some 15), .bin .mul (.tmp 13) (.tmp 14), none⟩,
     ⟨(some 16), .mv (.tmp 3), none⟩,
     ⟨(some 17), .bin .add (.tmp 15) (.tmp 16), none⟩,
     ⟨(some 18), .mv (.tmp 0), none⟩,
     ⟨(some 19), .bin .mul (.tmp 17) (.tmp 18), none⟩,
     ⟨(some 20), .mv (.tmp 4), none⟩,
     ⟨(some 21), .bin .add (.tmp 19) (.tmp 20), none⟩,
     ⟨(some 22), .mv (.tmp 0), none⟩,
     ⟨(some 23), .bin .mul (.tmp 21) (.tmp 22), none⟩,
     ⟨(some 24), .mv (.tmp 5), none⟩,
     ⟨(some 25), .bin .add (.tmp 23) (.tmp 24), none⟩,
     ⟨(some 12), .mv (.tmp 25), none⟩] [12])
 (.ret))
theorem s_spec_l16At : stripF Try.prog 43 [[0, 1, 2, 3, 4, 5], [12]] = some (c_spec_l16At, [.tmp 12], 26) := by kernel_rfl
abbrev f_spec_l16Next : Nat := 44
def c_spec_l16Next : SC :=
 .seq (.reg [
     ⟨(some 14), .mv (.const (.slice none 0 0)), none⟩] [0, 1, 2, 3, 4, 5, 6])
 (.seq (.reg [
     ⟨(some 24), .bslice 2 1 0 [] [], none⟩,
     ⟨(some 15), .mv (.tmp 24), none⟩] [0, 1, 2, 3, 4, 5, 6, 15])
 (.seq (.seq (.reg [
     ⟨(some 16), .mv (.const (.int .i64 0)), none⟩] [0, 1, 2, 3, 4, 5, 6, 15, 16])
 (.block 0 (.loop [0, 1, 2, 3, 4, 5, 6, 15, 16]
   (.seq (.seq (.reg [
       ⟨(some 25), .mv (.tmp 16), none⟩,
       ⟨(some 26), .mv (.tmp 1), none⟩,
       ⟨(some 27), .bin .lss (.tmp 25) (.tmp 26), none⟩] [0, 1, 2, 3, 4, 5, 6, 15, 16, 27])
   (.cond (.tmp 27)
    (.skip)
    (.exit 0)))
   (.seq (.block 1 (.reg [
        ⟨(some 30), .mv (.tmp 15), none⟩,
        ⟨(some 31), .bslice 2 1 1 [(.int .i64 0)] [(0, (.const (.int .i64 (-1))))], none⟩,
        ⟨(some 32), .app 2 1 8 (.tmp 30) (.tmp 31), none⟩,
        ⟨(some 15), .mv (.tmp 32), none⟩] [0, 1, 2, 3, 4, 5, 6, 15, 16]))
   (.reg [
       ⟨(some 28), .mv (.tmp 16), none⟩,
       ⟨(some 29), .bin .add (.tmp 28) (.const (.int .i64 1)), none⟩,
       ⟨(some 16), .mv (.tmp 29), none⟩] [0, 1, 2, 3, 4, 5, 6, 15, 16]))))))
 (.seq (.reg [
     ⟨(some 33), .mv (.tmp 15), none⟩,
     ⟨(some 34), .mv (.tmp 2), none⟩,
     ⟨(some 35), .mv (.tmp 4), none⟩,
     ⟨(some 36), .iaddr 1 (.tmp 33) (.tmp 34), none⟩,
     ⟨none, .store 1 (.tmp 36) (.tmp 35), none⟩] [0, 1, 3, 5, 6, 15])
 (.seq (.reg [
     ⟨(some 37), .mv (.tmp 15), none⟩,
     ⟨(some 38), .mv (.tmp 3), none⟩,
     ⟨(some 39), .mv (.tmp 5), none⟩,
     ⟨(some 40), .iaddr 1 (.tmp 37) (.tmp 38), none⟩,
     ⟨none, .store 1 (.tmp 40) (.tmp 39), none⟩] [0, 1, 6, 15])
 (.seq (.seq (.reg [
     ⟨(some 17), .mv (.const (.int .i64 0)), none⟩] [0, 1, 6, 15, 17])
 (.block 2 (.loop [0, 1, 6, 15, 17]
   (.seq (.seq (.reg [
       ⟨(some 41), .mv (.tmp 17), none⟩,
       ⟨(some 42), .mv (.tmp 1), none⟩,
       ⟨(some 43), .bin .lss (.tmp 41) (.tmp 42), none⟩] [0, 1, 6, 15, 17, 43])
   (.cond (.tmp 43)
    (.skip)
    (.exit 2)))
   (.seq (.block 3 (.seq (.seq (.reg [
        ⟨(some 46), .mv (.tmp 15), none⟩,
        ⟨(some 47), .mv (.tmp 17), none⟩,
        ⟨(some 48), .iaddr 1 (.tmp 46) (.tmp 47), none⟩,
        ⟨(some 49), .load 1 false (.tmp 48), none⟩,
        ⟨(some 50), .bin .geq (.tmp 49) (.const (.int .i64 0)), none⟩] [0, 1, 6, 15, 17, 50])
    (.cond (.tmp 50)
     (.exit 3)
     (.skip)))
    (.seq (.reg [
        ⟨(some 18), .mv (.const (.int .i64 (-1))), none⟩] [0, 1, 6, 15, 17, 18])
    (.seq (.reg [
        ⟨(some 19), .mv (.const (.int .i64 0)), none⟩] [0, 1, 6, 15, 17, 18, 19])
    (.seq (.seq (.reg [
        ⟨(some 20), .mv (.const (.int .i64 0)), none⟩] [0, 1, 6, 15, 17, 18, 19, 20])
    (.block 4 (.loop [0, 1, 6, 15, 17, 18, 19, 20]
      (.seq (.seq (.reg [
          ⟨(some 51), .mv (.tmp 20), none⟩,
          ⟨(some 52), .mv (.tmp 0), none⟩,
          ⟨(some 53), .bin .lss (.tmp 51) (.tmp 52), none⟩] [0, 1, 6, 15, 17, 18, 19, 20, 53])
      (.cond (.tmp 53)
       (.skip)
       (.exit 4)))
      (.seq (.block 5 (.seq (.reg [
           ⟨(some 21), .mv (.const (.int .i64 0)), none⟩] [0, 1, 6, 15, 17, 18, 19, 20, 21])
       (.seq (.seq (.reg [
           ⟨(some 22), .mv (.const (.int .i64 0)), none⟩] [0, 1, 6, 15, 17, 18, 19, 20, 21, 22])
       (.block 6 (.loop [0, 1, 6, 15, 17, 18, 19, 20, 21, 22]
         (.seq (.seq (.reg [
             ⟨(some 56), .mv (.tmp 22), none⟩,
             ⟨(some 57), .mv (.tmp 1), none⟩,
             ⟨(some 58), .bin .lss (.tmp 56) (.tmp 57), none⟩] [0, 1, 6, 15, 17, 18, 19, 20, 21, 22, 58])
         (.cond (.tmp 58)
          (.skip)
          (.exit 6)))
         (.seq (.block 7 (.seq (.seq (.reg [
              ⟨(some 61), .mv (.tmp 15), none⟩,
              ⟨(some 62), .mv (.tmp 22), none⟩,
              ⟨(some 63), .iaddr 1 (.tmp 61) (.tmp 62), none⟩,
              ⟨(some 64), .load 1 false (.tmp 63), none⟩,
              ⟨(some 65), .bin .lss (.tmp 64) (.const (.int .i64 0)), none⟩] [0, 1, 6, 15, 17, 18, 19, 20, 21, 22, 65])
          (.cond (.tmp 65)
           (.exit 7)
           (.skip)))
          (.seq (.reg [
              ⟨(some 66), .mv (.tmp 0), none⟩,
              ⟨(some 67), .mv (.tmp 1), none⟩,
              ⟨(some 68), .mv (.tmp 22), none⟩,
              ⟨(some 69), .mv (.tmp 17), none⟩,
              ⟨(some 70), .mv (.tmp 15), none⟩,
              ⟨(some 71), .mv (.tmp 22), none⟩,
              ⟨(some 72), .iaddr 1 (.tmp 70) (.tmp 71), none⟩,
              ⟨(some 73), .load 1 false (.tmp 72), none⟩,
              ⟨(some 74), .mv (.tmp 20), none⟩,
              ⟨(some 75), .call 43 [(.tmp 66), (.tmp 67), (.tmp 68), (.tmp 69), (.tmp 73), (.tmp 74)], none⟩,
              ⟨(some 23), .mv (.tmp 75), none⟩] [0, 1, 6, 15, 17, 18, 19, 20, 21, 22, 23])
          (.seq (.seq (.reg [
              ⟨(some 76), .mv (.tmp 17), none⟩,
              ⟨(some 77), .mv (.tmp 22), none⟩,
              ⟨(some 78), .bin .lss (.tmp 76) (.tmp 77), none⟩] [0, 1, 6, 15, 17, 18, 19, 20, 21, 22, 23, 78])
          (.cond (.tmp 78)
           (.reg [
               ⟨(some 79), .mv (.tmp 0), none⟩,
               ⟨(some 80), .mv (.tmp 1), none⟩,
               ⟨(some 81), .mv (.tmp 17), none⟩,
               ⟨(some 82), .mv (.tmp 22), none⟩,
               ⟨(some 83), .mv (.tmp 20), none⟩,
               ⟨(some 84), .mv (.tmp 15), none⟩,
               ⟨(some 85), .mv (.tmp 22), none⟩,
               ⟨(some 86), .iaddr 1 (.tmp 84) (.tmp 85), none⟩,
               ⟨(some 87), .load 1 false (.tmp 86), none⟩,
               ⟨(some 88), .call 43 [(.tmp 79), (.tmp 80), (.tmp 81), (.tmp 82), (.tmp 83), (.tmp 87)], none⟩,
               ⟨(some 23), .mv (.tmp 88), none⟩] [0, 1, 6, 15, 17, 18, 19, 20, 21, 22, 23])
           (.skip)))
          (.seq (.reg [
              ⟨(some 89), .mv (.tmp 6), none⟩,
              ⟨(some 90), .mv (.tmp 23), none⟩,
              ⟨(some 91), .iaddr 1 (.tmp 89) (.tmp 90), none⟩,
              ⟨(some 92), .load 1 false (.tmp 91), none⟩,
              ⟨(some 93), .un .not (.tmp 92), none⟩] [0, 1, 6, 15, 17, 18, 19, 20, 21, 22, 93])
          (.cond (.tmp 93)
           (.reg [
               ⟨(some 94), .mv (.tmp 21), none⟩,
               ⟨(some 95), .bin .add (.tmp 94) (.const (.int .i64 1)), none⟩,
               ⟨(some 21), .mv (.tmp 95), none⟩] [0, 1, 6, 15, 17, 18, 19, 20, 21, 22])
           (.skip)))))))
         (.reg [
             ⟨(some 59), .mv (.tmp 22), none⟩,
             ⟨(some 60), .bin .add (.tmp 59) (.const (.int .i64 1)), none⟩,
             ⟨(some 22), .mv (.tmp 60), none⟩] [0, 1, 6, 15, 17, 18, 19, 20, 21, 22]))))))
       (.seq (.reg [
           ⟨(some 96), .mv (.tmp 21), none⟩,
           ⟨(some 97), .mv (.tmp 18), none⟩,
           ⟨(some 98), .bin .gtr (.tmp 96) (.tmp 97), none⟩] [0, 1, 6, 15, 17, 18, 19, 20, 21, 98])
       (.cond (.tmp 98)
        (.seq (.reg [
            ⟨(some 99), .mv (.tmp 21), none⟩,
            ⟨(some 18), .mv (.tmp 99), none⟩] [0, 1, 6, 15, 17, 18, 20])
        (.reg [
            ⟨(some 100), .mv (.tmp 20), none⟩,
            ⟨(some 19), .mv (.tmp 100), none⟩] [0, 1, 6, 15, 17, 18, 19, 20]))
        (.skip))))))
      (.reg [
          ⟨(some 54), .mv (.tmp 20), none⟩,
          ⟨(some 55), .bin .add (.tmp 54) (.const (.int .i64 1)), none⟩,
          ⟨(some 20), .mv (.tmp 55), none⟩] [0, 1, 6, 15, 17, 18, 19, 20]))))))
    (.reg [
        ⟨(some 101), .mv (.tmp 15), none⟩,
        ⟨(some 102), .mv (.tmp 17), none⟩,
        ⟨(some 103), .mv (.tmp 19), none⟩,
        ⟨(some 104), .iaddr 1 (.tmp 101) (.tmp 102), none⟩,
        ⟨none, .store 1 (.tmp 104) (.tmp 103), none⟩] [0, 1, 6, 15, 17]))))))
   (.reg [
       ⟨(some 44), .mv (.tmp 17), none⟩,
       ⟨(some 45), .bin .add (.tmp 44) (.const (.int .i64 1)), none⟩,
       ⟨(some 17), .mv (.tmp 45), none⟩] [0, 1, 6, 15, 17]))))))
 (.seq (.reg [
     ⟨(some 105), .mv (.tmp 15), none⟩,
     ⟨(some 14), .mv (.tmp 105), none⟩] [14])
 (.ret)))))))
theorem s_spec_l16Next : stripF Try.prog 44 [[0, 1, 2, 3, 4, 5, 6], [0, 1, 2, 3, 4, 5, 6, 15], [0, 1, 2, 3, 4, 5, 6, 15, 16], [0, 1, 2, 3, 4, 5, 6, 15, 16], [0, 1, 2, 3, 4, 5, 6, 15, 16, 27], [0, 1, 2, 3, 4, 5, 6, 15, 16], [0, 1, 2, 3, 4, 5, 6, 15, 16], [0, 1, 3, 5, 6, 15], [0, 1, 6, 15], [0, 1, 6, 15, 17], [0, 1, 6, 15, 17], [0, 1, 6, 15, 17, 43], [0, 1, 6, 15, 17, 50], [0, 1, 6, 15, 17, 18], [0, 1, 6, 15, 17, 18, 19], [0, 1, 6, 15, 17, 18, 19, 20], [0, 1, 6, 15, 17, 18, 19, 20], [0, 1, 6, 15, 17, 18, 19, 20, 53], [0, 1, 6, 15, 17, 18, 19, 20, 21], [0, 1, 6, 15, 17, 18, 19, 20, 21, 22], [0, 1, 6, 15, 17, 18, 19, 20, 21, 22], [0, 1, 6, 15, 17, 18, 19, 20, 21, 22, 58], [0, 1, 6, 15, 17, 18, 19, 20, 21, 22, 65], [0, 1, 6, 15, 17, 18, 19, 20, 21, 22, 23], [0, 1, 6, 15, 17, 18, 19, 20, 21, 22, 23, 78], [0, 1, 6, 15, 17, 18, 19, 20, 21, 22, 23], [0, 1, 6, 15, 17, 18, 19, 20, 21, 22, 93], [0, 1, 6, 15, 17, 18, 19, 20, 21, 22], [0, 1, 6, 15, 17, 18, 19, 20, 21, 22], [0, 1, 6, 15, 17, 18, 19, 20, 21, 98], [0, 1, 6, 15, 17, 18, 20], [0, 1, 6, 15, 17, 18, 19, 20], [0, 1, 6, 15, 17, 18, 19, 20], [0, 1, 6, 15, 17], [0, 1, 6, 15, 17], [14]] = some (c_spec_l16Next, [.tmp 14], 106) := by kernel_rfl
theorem l16At_fn (l c : Nat) (x y v w : Int) (hl : l ≤ 16) (hc : c ≤ 8) (hx : 0 ≤ x ∧ x < c) (hy : 0 ≤ y ∧ y < c) (hv : 0 ≤ v ∧ v < l) (hw : 0 ≤ w ∧ w < l) : PFn Try.prog f_spec_l16At [I l, I c, I x, I y, I v, I w] (I (atI l c x y v w)) := by
  obtain ⟨b1, b2, b3, b4, b5⟩ := at_bd hl hc hx hy hv hw
  unfold atI at *
  intro H; refine ACalls.introB s_spec_l16At (by simp) ?_; intro hB hA; unfold c_spec_l16At; simp (config := { maxSteps := 1000000 }) (disch := (first | omega | (simp only [go_sem]; try omega))) only [go_sem, Nat.reduceAdd, Nat.reduceEqDiff, Nat.reduceLeDiff, Nat.reduceMul, Nat.reduceLT, reduceIte, Int.reduceToNat, w64_id, cast_succ]
  repeat (first | (with_reducible first | refine SW.seq ?_ | refine SW.block ?_ | refine SW.rowC ?_ | refine SW.skip ?_ | refine SW.exit ?_ | intro _ | refine And.intro (by omega) ?_) | simp (config := { maxSteps := 1000000 }) (disch := (first | omega | (simp only [go_sem]; try omega))) only [go_sem, Nat.reduceAdd, Nat.reduceEqDiff, Nat.reduceLeDiff, Nat.reduceMul, Nat.reduceLT, reduceIte, Int.reduceToNat, w64_id, cast_succ])
  refine SW.ret ?_; (try simp only [go_sem]); (first | refine FunPost.one ?_ | refine FunPost.two ?_ | refine FunPost.three ?_); (try simp (config := { maxSteps := 1000000 }) (disch := (first | omega | (simp only [go_sem]; try omega))) only [go_sem, Nat.reduceAdd, Nat.reduceEqDiff, Nat.reduceLeDiff, Nat.reduceMul, Nat.reduceLT, reduceIte, Int.reduceToNat, w64_id, cast_succ]); (first | (with_reducible refine GR.drop ?_ ?_; (simp only [go_sem, and_self, and_true, true_and, implies_true, List.take_succ_cons, List.take_zero])) | refine GR.of ?_); refine ⟨?_, rfl⟩; (try with_reducible rfl)
theorem l16Next_ok (H : List Blk) (D : AV) (l c : Nat) (m : List Int) (x y : Nat) (v w : Int) (hl1 : 1 ≤ l) (hl : l ≤ 16) (hc : c ≤ 8) (hxy : x < y) (hy : y < c) (hv : 0 ≤ v ∧ v < l) (hw : 0 ≤ w ∧ w < l) (hD : aview H D = some (c * c * l * l, (marks (c * c * l * l) m).map Bv)) :
    ACalls Try.prog f_spec_l16Next [I l, I c, I x, I y, I v, I w, D] H (fun r' H' => r' = ilS (nextRow l c m x y v w) ∧ H' = H) := by
  have hDv : ∀ ext, aview (H ++ ext) D = some (c * c * l * l, (marks (c * c * l * l) m).map Bv) := fun ext => aview_append hD ext
  have hin : ∀ z : Int, 0 ≤ z → z < (c * c * l * l : Nat) → ((marks (c * c * l * l) m).map Bv)[z.toNat]? = some (Bv (m.contains z)) := fun z h0 h1 => by
    have hmg := marks_get (c * c * l * l) m z h0 h1
    rw [List.getElem?_map, List.getElem?_eq_getElem (by rw [marks_length]; omega), Option.map_some, ← hmg, List.getD_eq_getElem?_getD, List.getElem?_eq_getElem (by rw [marks_length]; omega)]; rfl
  refine ACalls.introB s_spec_l16Next (by simp) ?_; intro hB hA; unfold c_spec_l16Next; simp (config := { maxSteps := 1000000 }) (disch := (first | omega | (simp only [go_sem]; try omega))) only [go_sem, Nat.reduceAdd, Nat.reduceEqDiff, Nat.reduceLeDiff, Nat.reduceMul, Nat.reduceLT, reduceIte, Int.reduceToNat, w64_id, cast_succ]
  have hab : ∀ k, H.length ≤ k → Bel k D := fun k hk => (hA D (by simp)).mono hk
  repeat (first | (with_reducible first | refine SW.seq ?_ | refine SW.block ?_ | refine SW.rowC ?_ | refine SW.skip ?_ | refine SW.exit ?_ | intro _ | refine And.intro (by omega) ?_) | simp (config := { maxSteps := 1000000 }) (disch := (first | omega | (simp only [go_sem]; try omega))) only [go_sem, Nat.reduceAdd, Nat.reduceEqDiff, Nat.reduceLeDiff, Nat.reduceMul, Nat.reduceLT, reduceIte, Int.reduceToNat, w64_id, cast_succ])
  refine SW.loopE (fun E0 H0 q E' H' => ∃ i ver : Nat, i ≤ c ∧ q = c - i ∧ E' = aput (aput E0 16 (I i)) 15 (.nm H.length ver 0 i) ∧ H' = H ++ [⟨ver, 2, 1, (List.replicate i (-1)).map I⟩]) c ⟨0, 0, by omega, by omega, rfl, rfl⟩ ?_
  rintro q E' H' ⟨i, ver, hi, rfl, rfl, rfl⟩
  have hrl : (List.replicate i (-1 : Int)).length = i := by simp
  have htk : ((List.replicate i (-1 : Int)).map I).take i = (List.replicate i (-1 : Int)).map I := List.take_of_length_le (by simp)
  simp (config := { maxSteps := 1000000 }) (disch := (first | omega | (simp only [go_sem]; try omega))) only [go_sem, Nat.reduceAdd, Nat.reduceEqDiff, Nat.reduceLeDiff, Nat.reduceMul, Nat.reduceLT, reduceIte, Int.reduceToNat, w64_id, cast_succ]
  repeat (first | (with_reducible first | refine SW.seq ?_ | refine SW.block ?_ | refine SW.rowC ?_ | refine SW.skip ?_ | refine SW.exit ?_ | intro _ | refine And.intro (by omega) ?_) | simp (config := { maxSteps := 1000000 }) (disch := (first | omega | (simp only [go_sem]; try omega))) only [go_sem, Nat.reduceAdd, Nat.reduceEqDiff, Nat.reduceLeDiff, Nat.reduceMul, Nat.reduceLT, reduceIte, Int.reduceToNat, w64_id, cast_succ])
  (first | refine SW.condD rfl (fun h => ?_) (fun h => ?_) | refine SW.condN rfl (fun h => ?_) (fun h => ?_) | refine SW.condNB rfl (fun h => ?_) (fun h => ?_) | refine SW.condB rfl (fun h => ?_) (fun h => ?_))
  · repeat (first | (with_reducible first | refine SW.seq ?_ | refine SW.block ?_ | refine SW.rowC ?_ | refine SW.skip ?_ | refine SW.exit ?_ | intro _ | refine And.intro (by omega) ?_) | simp (config := { maxSteps := 1000000 }) (disch := (first | omega | (simp only [go_sem]; try omega))) only [go_sem, Nat.reduceAdd, Nat.reduceEqDiff, Nat.reduceLeDiff, Nat.reduceMul, Nat.reduceLT, reduceIte, Int.reduceToNat, w64_id, cast_succ, htk, hrl])
    refine SLoop.nextT 1 (c - (i + 1)) hB (by omega) (by omega) (by simp) ?_ ?_ ⟨i + 1, ver + 1, by omega, rfl, ?_, ?_⟩
    · (simp only [go_sem, Nat.reduceAdd, Nat.reduceEqDiff, reduceIte, go_sem, and_self, and_true, true_and, implies_true, List.take_succ_cons, List.take_zero, and_true, true_and]; try omega)
      exact ⟨hab _ (by omega), by omega⟩
    · (simp only [go_sem, Nat.reduceAdd, Nat.reduceEqDiff, reduceIte, go_sem, and_self, and_true, true_and, implies_true, List.take_succ_cons, List.take_zero, and_true, true_and]; try omega)
    · simp [go_sem]
    · rw [List.replicate_succ', List.map_append]; simp
  · have hic : c = i := by omega
    subst hic
    have hls : ∀ a (b : Int), ((List.replicate c (-1 : Int)).set a b).length = c := fun a b => by simp
    have ht1 : ∀ a (b : Int), (((List.replicate c (-1 : Int)).set a b).map I).take c = ((List.replicate c (-1 : Int)).set a b).map I := fun a b => List.take_of_length_le (by simp)
    repeat (first | (with_reducible first | refine SW.seq ?_ | refine SW.block ?_ | refine SW.rowC ?_ | refine SW.skip ?_ | refine SW.exit ?_ | intro _ | refine And.intro (by omega) ?_) | simp (config := { maxSteps := 1000000 }) (disch := (first | omega | (simp only [go_sem]; try omega))) only [go_sem, Nat.reduceAdd, Nat.reduceEqDiff, Nat.reduceLeDiff, Nat.reduceMul, Nat.reduceLT, reduceIte, Int.reduceToNat, w64_id, cast_succ, htk, hrl, hls, ht1])
    have hin2 := fun k hk => nextTo_in (m := m) hl1 (row0_len c x y v w) (fun i hi => row0_in hv hw i hi) k hk
    have hnl := fun k => (nextTo_len l c m (row0 c x y v w) k).trans (row0_len c x y v w)
    refine SW.loopE (fun E0 H0 q E' H' => ∃ k : Nat, k ≤ c ∧ q = c - k ∧ E' = aput E0 17 (I k) ∧ H' = H ++ [⟨ver, 2, 1, (nextTo l c m (row0 c x y v w) k).map I⟩]) c ⟨0, by omega, by omega, rfl, rfl⟩ ?_
    rintro q E' H' ⟨k, hk, rfl, rfl, rfl⟩
    obtain ⟨n1, n2, n3⟩ := hin2 k hk
    have hRl := hnl k
    have hns : nextTo l c m (row0 c x y v w) (k + 1) = stepR l c m (nextTo l c m (row0 c x y v w) k) k := rfl
    generalize hR : nextTo l c m (row0 c x y v w) k = R at *
    have htR : (R.map I).take c = R.map I := List.take_of_length_le (by rw [List.length_map, hRl]; exact Nat.le_refl _)
    simp (config := { maxSteps := 1000000 }) (disch := (first | omega | (simp only [go_sem]; try omega))) only [go_sem, Nat.reduceAdd, Nat.reduceEqDiff, Nat.reduceLeDiff, Nat.reduceMul, Nat.reduceLT, reduceIte, Int.reduceToNat, w64_id, cast_succ]
    repeat (first | (with_reducible first | refine SW.seq ?_ | refine SW.block ?_ | refine SW.rowC ?_ | refine SW.skip ?_ | refine SW.exit ?_ | intro _ | refine And.intro (by omega) ?_) | simp (config := { maxSteps := 1000000 }) (disch := (first | omega | (simp only [go_sem]; try omega))) only [go_sem, Nat.reduceAdd, Nat.reduceEqDiff, Nat.reduceLeDiff, Nat.reduceMul, Nat.reduceLT, reduceIte, Int.reduceToNat, w64_id, cast_succ])
    (first | refine SW.condD rfl (fun h => ?_) (fun h => ?_) | refine SW.condN rfl (fun h => ?_) (fun h => ?_) | refine SW.condNB rfl (fun h => ?_) (fun h => ?_) | refine SW.condB rfl (fun h => ?_) (fun h => ?_))
    · have hkc : k < c := by omega
      by_cases h0 : 0 ≤ R.getD k 0
      · have d0 : decide (0 ≤ R.getD k 0) = true := decide_eq_true h0
        have hst : stepR l c m R k = R := if_pos h0
        repeat (first | (with_reducible first | refine SW.seq ?_ | refine SW.block ?_ | refine SW.rowC ?_ | refine SW.skip ?_ | refine SW.exit ?_ | intro _ | refine And.intro (by omega) ?_) | simp (config := { maxSteps := 1000000 }) (disch := (first | omega | (simp only [go_sem]; try omega))) only [go_sem, Nat.reduceAdd, Nat.reduceEqDiff, Nat.reduceLeDiff, Nat.reduceMul, Nat.reduceLT, reduceIte, Int.reduceToNat, w64_id, cast_succ, htR, d0])
        refine SW.condT rfl ?_
        repeat (first | (with_reducible first | refine SW.seq ?_ | refine SW.block ?_ | refine SW.rowC ?_ | refine SW.skip ?_ | refine SW.exit ?_ | intro _ | refine And.intro (by omega) ?_) | simp (config := { maxSteps := 1000000 }) (disch := (first | omega | (simp only [go_sem]; try omega))) only [go_sem, Nat.reduceAdd, Nat.reduceEqDiff, Nat.reduceLeDiff, Nat.reduceMul, Nat.reduceLT, reduceIte, Int.reduceToNat, w64_id, cast_succ])
        refine SLoop.next (c - (k + 1)) (by omega) ⟨k + 1, by omega, rfl, rfl, by rw [hns, hst]⟩
      · have d0 : decide (0 ≤ R.getD k 0) = false := decide_eq_false h0
        have hst : stepR l c m R k = R.set k (bestTo l c m R k l).1 := if_neg h0
        repeat (first | (with_reducible first | refine SW.seq ?_ | refine SW.block ?_ | refine SW.rowC ?_ | refine SW.skip ?_ | refine SW.exit ?_ | intro _ | refine And.intro (by omega) ?_) | simp (config := { maxSteps := 1000000 }) (disch := (first | omega | (simp only [go_sem]; try omega))) only [go_sem, Nat.reduceAdd, Nat.reduceEqDiff, Nat.reduceLeDiff, Nat.reduceMul, Nat.reduceLT, reduceIte, Int.reduceToNat, w64_id, cast_succ, htR, d0])
        refine SW.condF rfl ?_
        repeat (first | (with_reducible first | refine SW.seq ?_ | refine SW.block ?_ | refine SW.rowC ?_ | refine SW.skip ?_ | refine SW.exit ?_ | intro _ | refine And.intro (by omega) ?_) | simp (config := { maxSteps := 1000000 }) (disch := (first | omega | (simp only [go_sem]; try omega))) only [go_sem, Nat.reduceAdd, Nat.reduceEqDiff, Nat.reduceLeDiff, Nat.reduceMul, Nat.reduceLT, reduceIte, Int.reduceToNat, w64_id, cast_succ])
        refine SW.loopE (fun E0 H0 q E' H' => ∃ u : Nat, u ≤ l ∧ q = l - u ∧ E' = aput (aput (aput E0 18 (I (bestTo l c m R k u).2)) 19 (I (bestTo l c m R k u).1)) 20 (I u) ∧ H' = H0) l ⟨0, by omega, by omega, rfl, rfl⟩ ?_
        rintro q E' H' ⟨u, hu, rfl, rfl, rfl⟩
        have hbs : bestTo l c m R k (u + 1) = if (bestTo l c m R k u).2 < (gainTo l c m R k u c : Int) then ((u : Int), (gainTo l c m R k u c : Int)) else bestTo l c m R k u := rfl
        simp (config := { maxSteps := 1000000 }) (disch := (first | omega | (simp only [go_sem]; try omega))) only [go_sem, Nat.reduceAdd, Nat.reduceEqDiff, Nat.reduceLeDiff, Nat.reduceMul, Nat.reduceLT, reduceIte, Int.reduceToNat, w64_id, cast_succ]
        repeat (first | (with_reducible first | refine SW.seq ?_ | refine SW.block ?_ | refine SW.rowC ?_ | refine SW.skip ?_ | refine SW.exit ?_ | intro _ | refine And.intro (by omega) ?_) | simp (config := { maxSteps := 1000000 }) (disch := (first | omega | (simp only [go_sem]; try omega))) only [go_sem, Nat.reduceAdd, Nat.reduceEqDiff, Nat.reduceLeDiff, Nat.reduceMul, Nat.reduceLT, reduceIte, Int.reduceToNat, w64_id, cast_succ])
        (first | refine SW.condD rfl (fun h => ?_) (fun h => ?_) | refine SW.condN rfl (fun h => ?_) (fun h => ?_) | refine SW.condNB rfl (fun h => ?_) (fun h => ?_) | refine SW.condB rfl (fun h => ?_) (fun h => ?_))
        · have hul : u < l := by omega
          repeat (first | (with_reducible first | refine SW.seq ?_ | refine SW.block ?_ | refine SW.rowC ?_ | refine SW.skip ?_ | refine SW.exit ?_ | intro _ | refine And.intro (by omega) ?_) | simp (config := { maxSteps := 1000000 }) (disch := (first | omega | (simp only [go_sem]; try omega))) only [go_sem, Nat.reduceAdd, Nat.reduceEqDiff, Nat.reduceLeDiff, Nat.reduceMul, Nat.reduceLT, reduceIte, Int.reduceToNat, w64_id, cast_succ])
          refine SW.loopE (fun E0 H0 q E' H' => ∃ o : Nat, o ≤ c ∧ q = c - o ∧ E' = aput (aput E0 21 (I (gainTo l c m R k u o : Nat))) 22 (I o) ∧ H' = H0) c ⟨0, by omega, by omega, rfl, rfl⟩ ?_
          rintro q E' H' ⟨o, ho, rfl, rfl, rfl⟩
          have hgl := gainTo_le l c m R k u o
          have hgs : gainTo l c m R k u (o + 1) = gainTo l c m R k u o + (if gain1 l c m R k u o = true then 1 else 0) := rfl
          simp (config := { maxSteps := 1000000 }) (disch := (first | omega | (simp only [go_sem]; try omega))) only [go_sem, Nat.reduceAdd, Nat.reduceEqDiff, Nat.reduceLeDiff, Nat.reduceMul, Nat.reduceLT, reduceIte, Int.reduceToNat, w64_id, cast_succ]
          repeat (first | (with_reducible first | refine SW.seq ?_ | refine SW.block ?_ | refine SW.rowC ?_ | refine SW.skip ?_ | refine SW.exit ?_ | intro _ | refine And.intro (by omega) ?_) | simp (config := { maxSteps := 1000000 }) (disch := (first | omega | (simp only [go_sem]; try omega))) only [go_sem, Nat.reduceAdd, Nat.reduceEqDiff, Nat.reduceLeDiff, Nat.reduceMul, Nat.reduceLT, reduceIte, Int.reduceToNat, w64_id, cast_succ])
          (first | refine SW.condD rfl (fun h => ?_) (fun h => ?_) | refine SW.condN rfl (fun h => ?_) (fun h => ?_) | refine SW.condNB rfl (fun h => ?_) (fun h => ?_) | refine SW.condB rfl (fun h => ?_) (fun h => ?_))
          · have hoc : o < c := by omega
            have hw1 := n1 o hoc
            by_cases hw0 : R.getD o 0 < 0
            · have d1 : decide (R.getD o 0 < 0) = true := decide_eq_true hw0
              have hg1 : gain1 l c m R k u o = false := by unfold gain1; rw [decide_eq_false (by omega)]; rfl
              rw [hg1] at hgs
              repeat (first | (with_reducible first | refine SW.seq ?_ | refine SW.block ?_ | refine SW.rowC ?_ | refine SW.skip ?_ | refine SW.exit ?_ | intro _ | refine And.intro (by omega) ?_) | simp (config := { maxSteps := 1000000 }) (disch := (first | omega | (simp only [go_sem]; try omega))) only [go_sem, Nat.reduceAdd, Nat.reduceEqDiff, Nat.reduceLeDiff, Nat.reduceMul, Nat.reduceLT, reduceIte, Int.reduceToNat, w64_id, cast_succ, htR, d1])
              refine SW.condT rfl ?_
              repeat (first | (with_reducible first | refine SW.seq ?_ | refine SW.block ?_ | refine SW.rowC ?_ | refine SW.skip ?_ | refine SW.exit ?_ | intro _ | refine And.intro (by omega) ?_) | simp (config := { maxSteps := 1000000 }) (disch := (first | omega | (simp only [go_sem]; try omega))) only [go_sem, Nat.reduceAdd, Nat.reduceEqDiff, Nat.reduceLeDiff, Nat.reduceMul, Nat.reduceLT, reduceIte, Int.reduceToNat, w64_id, cast_succ])
              refine SLoop.next (c - (o + 1)) (by omega) ⟨o + 1, by omega, rfl, ?_, rfl⟩
              rw [hgs]; simp [go_sem]
            · have d1 : decide (R.getD o 0 < 0) = false := decide_eq_false hw0
              have hok : o ≠ k := fun e => by subst e; omega
              have c1 := l16At_fn l c o k (R.getD o 0) u hl hc (by omega) (by omega) (by omega) (by omega)
              repeat (first | (with_reducible first | refine SW.seq ?_ | refine SW.block ?_ | refine SW.rowC ?_ | refine SW.skip ?_ | refine SW.exit ?_ | intro _ | refine And.intro (by omega) ?_) | simp (config := { maxSteps := 1000000 }) (disch := (first | omega | (simp only [go_sem]; try omega))) only [go_sem, Nat.reduceAdd, Nat.reduceEqDiff, Nat.reduceLeDiff, Nat.reduceMul, Nat.reduceLT, reduceIte, Int.reduceToNat, w64_id, cast_succ, htR, d1])
              refine SW.condF rfl ?_
              repeat (first | (with_reducible first | refine SW.seq ?_ | refine SW.block ?_ | refine SW.rowC ?_ | refine SW.skip ?_ | refine SW.exit ?_ | refine PFn.use (c1) ?_ | refine PFn.useq (c1) ?_ | intro _ | refine And.intro (by omega) ?_) | simp (config := { maxSteps := 1000000 }) (disch := (first | omega | (simp only [go_sem]; try omega))) only [go_sem, Nat.reduceAdd, Nat.reduceEqDiff, Nat.reduceLeDiff, Nat.reduceMul, Nat.reduceLT, reduceIte, Int.reduceToNat, w64_id, cast_succ, htR])
              have f1 : decide (0 ≤ R.getD o 0) = true := decide_eq_true (by omega)
              by_cases hko : k < o
              · have d2 : decide ((k : Int) < (o : Int)) = true := decide_eq_true (by omega)
                have f2 : decide (o < k) = false := decide_eq_false (by omega)
                have f3 : decide (k < o) = true := decide_eq_true hko
                have c2 := l16At_fn l c k o u (R.getD o 0) hl hc (by omega) (by omega) (by omega) (by omega)
                have hat := at_bd hl hc (x := (k : Int)) (y := (o : Int)) (v := (u : Int)) (w := R.getD o 0) (by omega) (by omega) (by omega) (by omega)
                rw [d2]
                refine SW.condT rfl ?_
                repeat (first | (with_reducible first | refine SW.seq ?_ | refine SW.block ?_ | refine SW.rowC ?_ | refine SW.skip ?_ | refine SW.exit ?_ | refine PFn.use (c2) ?_ | refine PFn.useq (c2) ?_ | intro _ | refine And.intro (by omega) ?_) | simp (config := { maxSteps := 1000000 }) (disch := (first | omega | (simp only [go_sem]; try omega))) only [go_sem, Nat.reduceAdd, Nat.reduceEqDiff, Nat.reduceLeDiff, Nat.reduceMul, Nat.reduceLT, reduceIte, Int.reduceToNat, w64_id, cast_succ, htR])
                generalize hz : atI l c (k : Int) (o : Int) (u : Int) (R.getD o 0) = z at *
                have hzl : z < ((c * c * l * l : Nat) : Int) := by simp only [Int.natCast_mul]; exact hat.2.2.2.2
                have hci := hin z (by omega) hzl
                cases hb : m.contains z
                · rw [hb] at hci
                  have hg1 : gain1 l c m R k u o = true := by unfold gain1; rw [f1, f2, f3, hz, hb]; rfl
                  rw [hg1, if_pos rfl] at hgs
                  repeat (first | (with_reducible first | refine SW.seq ?_ | refine SW.block ?_ | refine SW.rowC ?_ | refine SW.skip ?_ | refine SW.exit ?_ | intro _ | refine And.intro (by omega) ?_) | simp (config := { maxSteps := 1000000 }) (disch := (first | omega | (simp only [go_sem]; try omega))) only [go_sem, Nat.reduceAdd, Nat.reduceEqDiff, Nat.reduceLeDiff, Nat.reduceMul, Nat.reduceLT, reduceIte, Int.reduceToNat, w64_id, cast_succ, hDv, ldc (hDv _) hci])
                  refine SW.condT rfl ?_
                  repeat (first | (with_reducible first | refine SW.seq ?_ | refine SW.block ?_ | refine SW.rowC ?_ | refine SW.skip ?_ | refine SW.exit ?_ | intro _ | refine And.intro (by omega) ?_) | simp (config := { maxSteps := 1000000 }) (disch := (first | omega | (simp only [go_sem]; try omega))) only [go_sem, Nat.reduceAdd, Nat.reduceEqDiff, Nat.reduceLeDiff, Nat.reduceMul, Nat.reduceLT, reduceIte, Int.reduceToNat, w64_id, cast_succ])
                  refine SLoop.next (c - (o + 1)) (by omega) ⟨o + 1, by omega, rfl, ?_, rfl⟩
                  rw [hgs]; simp [go_sem]
                · rw [hb] at hci
                  have hg1 : gain1 l c m R k u o = false := by unfold gain1; rw [f1, f2, f3, hz, hb]; rfl
                  rw [hg1] at hgs
                  repeat (first | (with_reducible first | refine SW.seq ?_ | refine SW.block ?_ | refine SW.rowC ?_ | refine SW.skip ?_ | refine SW.exit ?_ | intro _ | refine And.intro (by omega) ?_) | simp (config := { maxSteps := 1000000 }) (disch := (first | omega | (simp only [go_sem]; try omega))) only [go_sem, Nat.reduceAdd, Nat.reduceEqDiff, Nat.reduceLeDiff, Nat.reduceMul, Nat.reduceLT, reduceIte, Int.reduceToNat, w64_id, cast_succ, hDv, ldc (hDv _) hci])
                  refine SW.condF rfl ?_
                  repeat (first | (with_reducible first | refine SW.seq ?_ | refine SW.block ?_ | refine SW.rowC ?_ | refine SW.skip ?_ | refine SW.exit ?_ | intro _ | refine And.intro (by omega) ?_) | simp (config := { maxSteps := 1000000 }) (disch := (first | omega | (simp only [go_sem]; try omega))) only [go_sem, Nat.reduceAdd, Nat.reduceEqDiff, Nat.reduceLeDiff, Nat.reduceMul, Nat.reduceLT, reduceIte, Int.reduceToNat, w64_id, cast_succ])
                  refine SLoop.next (c - (o + 1)) (by omega) ⟨o + 1, by omega, rfl, ?_, rfl⟩
                  rw [hgs]; simp [go_sem]
              · have d2 : decide ((k : Int) < (o : Int)) = false := decide_eq_false (by omega)
                have f2 : decide (o < k) = true := decide_eq_true (by omega)
                have f3 : decide (k < o) = false := decide_eq_false hko
                have hat := at_bd hl hc (x := (o : Int)) (y := (k : Int)) (v := R.getD o 0) (w := (u : Int)) (by omega) (by omega) (by omega) (by omega)
                rw [d2]
                refine SW.condF rfl ?_
                generalize hz : atI l c (o : Int) (k : Int) (R.getD o 0) (u : Int) = z at *
                have hzl : z < ((c * c * l * l : Nat) : Int) := by simp only [Int.natCast_mul]; exact hat.2.2.2.2
                have hci := hin z (by omega) hzl
                cases hb : m.contains z
                · rw [hb] at hci
                  have hg1 : gain1 l c m R k u o = true := by unfold gain1; rw [f1, f2, f3, hz, hb]; rfl
                  rw [hg1, if_pos rfl] at hgs
                  repeat (first | (with_reducible first | refine SW.seq ?_ | refine SW.block ?_ | refine SW.rowC ?_ | refine SW.skip ?_ | refine SW.exit ?_ | intro _ | refine And.intro (by omega) ?_) | simp (config := { maxSteps := 1000000 }) (disch := (first | omega | (simp only [go_sem]; try omega))) only [go_sem, Nat.reduceAdd, Nat.reduceEqDiff, Nat.reduceLeDiff, Nat.reduceMul, Nat.reduceLT, reduceIte, Int.reduceToNat, w64_id, cast_succ, hDv, ldc (hDv _) hci])
                  refine SW.condT rfl ?_
                  repeat (first | (with_reducible first | refine SW.seq ?_ | refine SW.block ?_ | refine SW.rowC ?_ | refine SW.skip ?_ | refine SW.exit ?_ | intro _ | refine And.intro (by omega) ?_) | simp (config := { maxSteps := 1000000 }) (disch := (first | omega | (simp only [go_sem]; try omega))) only [go_sem, Nat.reduceAdd, Nat.reduceEqDiff, Nat.reduceLeDiff, Nat.reduceMul, Nat.reduceLT, reduceIte, Int.reduceToNat, w64_id, cast_succ])
                  refine SLoop.next (c - (o + 1)) (by omega) ⟨o + 1, by omega, rfl, ?_, rfl⟩
                  rw [hgs]; simp [go_sem]
                · rw [hb] at hci
                  have hg1 : gain1 l c m R k u o = false := by unfold gain1; rw [f1, f2, f3, hz, hb]; rfl
                  rw [hg1] at hgs
                  repeat (first | (with_reducible first | refine SW.seq ?_ | refine SW.block ?_ | refine SW.rowC ?_ | refine SW.skip ?_ | refine SW.exit ?_ | intro _ | refine And.intro (by omega) ?_) | simp (config := { maxSteps := 1000000 }) (disch := (first | omega | (simp only [go_sem]; try omega))) only [go_sem, Nat.reduceAdd, Nat.reduceEqDiff, Nat.reduceLeDiff, Nat.reduceMul, Nat.reduceLT, reduceIte, Int.reduceToNat, w64_id, cast_succ, hDv, ldc (hDv _) hci])
                  refine SW.condF rfl ?_
                  repeat (first | (with_reducible first | refine SW.seq ?_ | refine SW.block ?_ | refine SW.rowC ?_ | refine SW.skip ?_ | refine SW.exit ?_ | intro _ | refine And.intro (by omega) ?_) | simp (config := { maxSteps := 1000000 }) (disch := (first | omega | (simp only [go_sem]; try omega))) only [go_sem, Nat.reduceAdd, Nat.reduceEqDiff, Nat.reduceLeDiff, Nat.reduceMul, Nat.reduceLT, reduceIte, Int.reduceToNat, w64_id, cast_succ])
                  refine SLoop.next (c - (o + 1)) (by omega) ⟨o + 1, by omega, rfl, ?_, rfl⟩
                  rw [hgs]; simp [go_sem]
          · have hoc : c = o := by omega
            subst hoc
            repeat (first | (with_reducible first | refine SW.seq ?_ | refine SW.block ?_ | refine SW.rowC ?_ | refine SW.skip ?_ | refine SW.exit ?_ | intro _ | refine And.intro (by omega) ?_) | simp (config := { maxSteps := 1000000 }) (disch := (first | omega | (simp only [go_sem]; try omega))) only [go_sem, Nat.reduceAdd, Nat.reduceEqDiff, Nat.reduceLeDiff, Nat.reduceMul, Nat.reduceLT, reduceIte, Int.reduceToNat, w64_id, cast_succ])
            by_cases hgt : (bestTo l c m R k u).2 < (gainTo l c m R k u c : Int)
            · rw [decide_eq_true hgt]
              rw [if_pos hgt] at hbs
              refine SW.condT rfl ?_
              repeat (first | (with_reducible first | refine SW.seq ?_ | refine SW.block ?_ | refine SW.rowC ?_ | refine SW.skip ?_ | refine SW.exit ?_ | intro _ | refine And.intro (by omega) ?_) | simp (config := { maxSteps := 1000000 }) (disch := (first | omega | (simp only [go_sem]; try omega))) only [go_sem, Nat.reduceAdd, Nat.reduceEqDiff, Nat.reduceLeDiff, Nat.reduceMul, Nat.reduceLT, reduceIte, Int.reduceToNat, w64_id, cast_succ])
              refine SLoop.next (l - (u + 1)) (by omega) ⟨u + 1, by omega, rfl, ?_, rfl⟩
              rw [hbs]; simp [go_sem]
            · rw [decide_eq_false hgt]
              rw [if_neg hgt] at hbs
              refine SW.condF rfl ?_
              repeat (first | (with_reducible first | refine SW.seq ?_ | refine SW.block ?_ | refine SW.rowC ?_ | refine SW.skip ?_ | refine SW.exit ?_ | intro _ | refine And.intro (by omega) ?_) | simp (config := { maxSteps := 1000000 }) (disch := (first | omega | (simp only [go_sem]; try omega))) only [go_sem, Nat.reduceAdd, Nat.reduceEqDiff, Nat.reduceLeDiff, Nat.reduceMul, Nat.reduceLT, reduceIte, Int.reduceToNat, w64_id, cast_succ])
              refine SLoop.next (l - (u + 1)) (by omega) ⟨u + 1, by omega, rfl, ?_, rfl⟩
              rw [hbs]; simp [go_sem]
        · have hul : l = u := by omega
          subst hul
          repeat (first | (with_reducible first | refine SW.seq ?_ | refine SW.block ?_ | refine SW.rowC ?_ | refine SW.skip ?_ | refine SW.exit ?_ | intro _ | refine And.intro (by omega) ?_) | simp (config := { maxSteps := 1000000 }) (disch := (first | omega | (simp only [go_sem]; try omega))) only [go_sem, Nat.reduceAdd, Nat.reduceEqDiff, Nat.reduceLeDiff, Nat.reduceMul, Nat.reduceLT, reduceIte, Int.reduceToNat, w64_id, cast_succ])
          refine SLoop.next (c - (k + 1)) (by omega) ⟨k + 1, by omega, rfl, rfl, by rw [hns, hst]⟩
    · have hkc : c = k := by omega
      subst hkc
      repeat (first | (with_reducible first | refine SW.seq ?_ | refine SW.block ?_ | refine SW.rowC ?_ | refine SW.skip ?_ | refine SW.exit ?_ | intro _ | refine And.intro (by omega) ?_) | simp (config := { maxSteps := 1000000 }) (disch := (first | omega | (simp only [go_sem]; try omega))) only [go_sem, Nat.reduceAdd, Nat.reduceEqDiff, Nat.reduceLeDiff, Nat.reduceMul, Nat.reduceLT, reduceIte, Int.reduceToNat, w64_id, cast_succ])
      refine SW.ret ?_; (try simp only [go_sem]); (first | refine FunPost.one ?_ | refine FunPost.two ?_ | refine FunPost.three ?_); (try simp (config := { maxSteps := 1000000 }) (disch := (first | omega | (simp only [go_sem]; try omega))) only [go_sem, Nat.reduceAdd, Nat.reduceEqDiff, Nat.reduceLeDiff, Nat.reduceMul, Nat.reduceLT, reduceIte, Int.reduceToNat, w64_id, cast_succ])
      have hf := froz_rowI (H := H ++ [(⟨ver, 2, 1, R.map I⟩ : Blk)]) (b := H.length) (r := H.length) (ver := ver) (ty := 2) (xs := R) (Nat.le_refl _) (by simp)
      rw [hRl] at hf
      exact GR.froz hf ⟨by unfold nextRow; rw [hR], rfl⟩
end Go.Proofs.Ythogadbnddmkdaa
