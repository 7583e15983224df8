/- Pairs of columns and their values: which are covered. -/
import Derived.Test.YthogadbnddmkdaaProg
import Derived.KernelRfl
import Derived.Test.YthogadbnddmkdaazK15
import Derived.Test.YthogadbnddmkdaazK11
set_option linter.unusedSimpArgs false
set_option linter.unusedVariables false
set_option maxHeartbeats 4000000
set_option maxRecDepth 100000
namespace Go.Proofs.Ythogadbnddmkdaa
open Go.Av
abbrev f_impl_newCover : Nat := 46
def c_impl_newCover : SC :=
 .seq (.reg [
     ⟨(some 4), .mv (.const (.pointer none)), none⟩] [0, 1])
 (.seq (.reg [
     ⟨(some 5), .mv (.tmp 0), none⟩,
     ⟨(some 6), .mv (.tmp 1), none⟩,
     ⟨(some 7), .mv (.tmp 1), none⟩,
     ⟨(some 8), .mv (.tmp 1), none⟩,
     ⟨(some 9), .bin .mul (.tmp 7) (.tmp 8), none⟩,
     ⟨(some 10), .mv (.tmp 0), none⟩,
     ⟨(some 11), .bin .mul (.tmp 9) (.tmp 10), none⟩,
     ⟨(some 12), .mv (.tmp 0), none⟩,
     ⟨(some 13), .bin .mul (.tmp 11) (.tmp 12), none⟩,
     ⟨(some 14), .mslice 4 1 (.bool false) (.tmp 13) (.tmp 13), none⟩,
     ⟨(some 15), .build [(.int .i64 0), (.int .i64 0), (.slice none 0 0)] [(0, 1, (.tmp 5)), (1, 1, (.tmp 6)), (2, 1, (.tmp 14))], none⟩,
     ⟨(some 16), .box 118 (.tmp 15), none⟩,
     ⟨(some 4), .mv (.tmp 16), none⟩] [4])
 (.ret))
theorem s_impl_newCover : stripF Try.prog 46 [[0, 1], [4]] = some (c_impl_newCover, [.tmp 4], 17) := by kernel_rfl
abbrev f_impl_cover_open : Nat := 47
def c_impl_cover_open : SC :=
 .seq (.reg [
     ⟨(some 2), .mv (.const (.slice none 0 0)), none⟩] [0])
 (.seq (.reg [
     ⟨(some 3), .mv (.const (.slice none 0 0)), none⟩] [0, 3])
 (.seq (.seq (.reg [
     ⟨(some 8), .mv (.tmp 0), none⟩,
     ⟨(some 9), .nilc (.tmp 8), none⟩,
     ⟨(some 10), .faddr 1 (.tmp 9), none⟩,
     ⟨(some 11), .load 1 false (.tmp 10), none⟩,
     ⟨(some 12), .mv (.const (.int .i64 0)), none⟩] [0, 3, 11, 12])
 (.block 0 (.loop [0, 3, 11, 12]
   (.seq (.reg [
       ⟨(some 13), .bin .lss (.tmp 12) (.tmp 11), none⟩] [0, 3, 11, 12, 13])
   (.seq (.cond (.tmp 13)
    (.skip)
    (.exit 0))
   (.seq (.block 1 (.seq (.reg [
        ⟨(some 14), .mv (.tmp 12), none⟩,
        ⟨(some 4), .mv (.tmp 14), none⟩] [0, 3, 4, 11, 12])
    (.seq (.reg [
        ⟨(some 15), .mv (.tmp 4), none⟩,
        ⟨(some 16), .bin .add (.tmp 15) (.const (.int .i64 1)), none⟩,
        ⟨(some 5), .mv (.tmp 16), none⟩] [0, 3, 4, 5, 11, 12])
    (.block 2 (.loop [0, 3, 4, 5, 11, 12]
      (.seq (.seq (.reg [
          ⟨(some 17), .mv (.tmp 5), none⟩,
          ⟨(some 18), .mv (.tmp 0), none⟩,
          ⟨(some 19), .nilc (.tmp 18), none⟩,
          ⟨(some 20), .faddr 1 (.tmp 19), none⟩,
          ⟨(some 21), .load 1 false (.tmp 20), none⟩,
          ⟨(some 22), .bin .lss (.tmp 17) (.tmp 21), none⟩] [0, 3, 4, 5, 11, 12, 22])
      (.cond (.tmp 22)
       (.skip)
       (.exit 2)))
      (.seq (.block 3 (.seq (.reg [
           ⟨(some 25), .mv (.tmp 0), none⟩,
           ⟨(some 26), .nilc (.tmp 25), none⟩,
           ⟨(some 27), .faddr 0 (.tmp 26), none⟩,
           ⟨(some 28), .load 1 false (.tmp 27), none⟩,
           ⟨(some 29), .mv (.const (.int .i64 0)), none⟩] [0, 3, 4, 5, 11, 12, 28, 29])
       (.block 4 (.loop [0, 3, 4, 5, 11, 12, 28, 29]
         (.seq (.reg [
             ⟨(some 30), .bin .lss (.tmp 29) (.tmp 28), none⟩] [0, 3, 4, 5, 11, 12, 28, 29, 30])
         (.seq (.cond (.tmp 30)
          (.skip)
          (.exit 4))
         (.seq (.block 5 (.seq (.reg [
              ⟨(some 31), .mv (.tmp 29), none⟩,
              ⟨(some 6), .mv (.tmp 31), none⟩] [0, 3, 4, 5, 6, 11, 12, 28, 29])
          (.seq (.reg [
              ⟨(some 32), .mv (.tmp 0), none⟩,
              ⟨(some 33), .nilc (.tmp 32), none⟩,
              ⟨(some 34), .faddr 0 (.tmp 33), none⟩,
              ⟨(some 35), .load 1 false (.tmp 34), none⟩,
              ⟨(some 36), .mv (.const (.int .i64 0)), none⟩] [0, 3, 4, 5, 6, 11, 12, 28, 29, 35, 36])
          (.block 6 (.loop [0, 3, 4, 5, 6, 11, 12, 28, 29, 35, 36]
            (.seq (.reg [
                ⟨(some 37), .bin .lss (.tmp 36) (.tmp 35), none⟩] [0, 3, 4, 5, 6, 11, 12, 28, 29, 35, 36, 37])
            (.seq (.cond (.tmp 37)
             (.skip)
             (.exit 6))
            (.seq (.block 7 (.seq (.reg [
                 ⟨(some 38), .mv (.tmp 36), none⟩,
                 ⟨(some 7), .mv (.tmp 38), none⟩] [0, 3, 4, 5, 6, 7, 11, 12, 28, 29, 35, 36])
             (.seq (.reg [
                 ⟨(some 39), .mv (.tmp 0), none⟩,
                 ⟨(some 40), .nilc (.tmp 39), none⟩,
                 ⟨(some 41), .faddr 2 (.tmp 40), none⟩,
                 ⟨(some 42), .load 1 false (.tmp 41), none⟩,
                 ⟨(some 43), .mv (.tmp 0), none⟩,
                 ⟨(some 44), .mv (.tmp 4), none⟩,
                 ⟨(some 45), .mv (.tmp 5), none⟩,
                 ⟨(some 46), .mv (.tmp 6), none⟩,
                 ⟨(some 47), .mv (.tmp 7), none⟩,
                 ⟨(some 48), .qcall 94 [(.tmp 43), (.tmp 44), (.tmp 45), (.tmp 46), (.tmp 47)], none⟩,
                 ⟨(some 49), .iaddr 1 (.tmp 42) (.tmp 48), none⟩,
                 ⟨(some 50), .load 1 false (.tmp 49), none⟩,
                 ⟨(some 51), .un .not (.tmp 50), none⟩] [0, 3, 4, 5, 6, 7, 11, 12, 28, 29, 35, 36, 51])
             (.cond (.tmp 51)
              (.reg [
                  ⟨(some 52), .mv (.tmp 3), none⟩,
                  ⟨(some 53), .mv (.tmp 4), none⟩,
                  ⟨(some 54), .mv (.tmp 5), none⟩,
                  ⟨(some 55), .mv (.tmp 6), none⟩,
                  ⟨(some 56), .mv (.tmp 7), none⟩,
                  ⟨(some 57), .build [(.int .i64 0), (.int .i64 0), (.int .i64 0), (.int .i64 0)] [(0, 1, (.tmp 53)), (1, 1, (.tmp 54)), (2, 1, (.tmp 55)), (3, 1, (.tmp 56))], none⟩,
                  ⟨(some 58), .bslice 80 4 1 [(.int .i64 0), (.int .i64 0), (.int .i64 0), (.int .i64 0)] [(0, (.tmp 57))], none⟩,
                  ⟨(some 59), .app 80 4 32 (.tmp 52) (.tmp 58), none⟩,
                  ⟨(some 3), .mv (.tmp 59), none⟩] [0, 3, 4, 5, 6, 11, 12, 28, 29, 35, 36])
              (.skip)))))
            (.reg [
                ⟨(some 60), .bin .add (.tmp 36) (.const (.int .i64 1)), none⟩,
                ⟨(some 36), .mv (.tmp 60), none⟩] [0, 3, 4, 5, 6, 11, 12, 28, 29, 35, 36])))))))))
         (.reg [
             ⟨(some 61), .bin .add (.tmp 29) (.const (.int .i64 1)), none⟩,
             ⟨(some 29), .mv (.tmp 61), none⟩] [0, 3, 4, 5, 11, 12, 28, 29]))))))))
      (.reg [
          ⟨(some 23), .mv (.tmp 5), none⟩,
          ⟨(some 24), .bin .add (.tmp 23) (.const (.int .i64 1)), none⟩,
          ⟨(some 5), .mv (.tmp 24), none⟩] [0, 3, 4, 5, 11, 12]))))))))
   (.reg [
       ⟨(some 62), .bin .add (.tmp 12) (.const (.int .i64 1)), none⟩,
       ⟨(some 12), .mv (.tmp 62), none⟩] [0, 3, 11, 12])))))))
 (.seq (.reg [
     ⟨(some 63), .mv (.tmp 3), none⟩,
     ⟨(some 2), .mv (.tmp 63), none⟩] [2])
 (.ret))))
theorem s_impl_cover_open : stripF Try.prog 47 [[0], [0, 3], [0, 3, 11, 12], [0, 3, 11, 12], [0, 3, 11, 12, 13], [0, 3, 4, 11, 12], [0, 3, 4, 5, 11, 12], [0, 3, 4, 5, 11, 12], [0, 3, 4, 5, 11, 12, 22], [0, 3, 4, 5, 11, 12, 28, 29], [0, 3, 4, 5, 11, 12, 28, 29], [0, 3, 4, 5, 11, 12, 28, 29, 30], [0, 3, 4, 5, 6, 11, 12, 28, 29], [0, 3, 4, 5, 6, 11, 12, 28, 29, 35, 36], [0, 3, 4, 5, 6, 11, 12, 28, 29, 35, 36], [0, 3, 4, 5, 6, 11, 12, 28, 29, 35, 36, 37], [0, 3, 4, 5, 6, 7, 11, 12, 28, 29, 35, 36], [0, 3, 4, 5, 6, 7, 11, 12, 28, 29, 35, 36, 51], [0, 3, 4, 5, 6, 11, 12, 28, 29, 35, 36], [0, 3, 4, 5, 6, 11, 12, 28, 29, 35, 36], [0, 3, 4, 5, 11, 12, 28, 29], [0, 3, 4, 5, 11, 12], [0, 3, 11, 12], [2]] = some (c_impl_cover_open, [.tmp 2], 64) := by kernel_rfl
abbrev f_impl_cover_add : Nat := 49
def c_impl_cover_add : SC :=
 .seq (.reg [
     ⟨(some 6), .mv (.tmp 0), none⟩,
     ⟨(some 7), .nilc (.tmp 6), none⟩,
     ⟨(some 8), .faddr 1 (.tmp 7), none⟩,
     ⟨(some 9), .load 1 false (.tmp 8), none⟩,
     ⟨(some 10), .mv (.const (.int .i64 0)), none⟩] [0, 1, 9, 10])
 (.block 0 (.loop [0, 1, 9, 10]
   (.seq (.reg [
       ⟨(some 11), .bin .lss (.tmp 10) (.tmp 9), none⟩] [0, 1, 9, 10, 11])
   (.seq (.cond (.tmp 11)
    (.skip)
    (.exit 0))
   (.seq (.block 1 (.seq (.reg [
        ⟨(some 12), .mv (.tmp 10), none⟩,
        ⟨(some 4), .mv (.tmp 12), none⟩] [0, 1, 4, 9, 10])
    (.seq (.reg [
        ⟨(some 13), .mv (.tmp 4), none⟩,
        ⟨(some 14), .bin .add (.tmp 13) (.const (.int .i64 1)), none⟩,
        ⟨(some 5), .mv (.tmp 14), none⟩] [0, 1, 4, 5, 9, 10])
    (.block 2 (.loop [0, 1, 4, 5, 9, 10]
      (.seq (.seq (.reg [
          ⟨(some 15), .mv (.tmp 5), none⟩,
          ⟨(some 16), .mv (.tmp 0), none⟩,
          ⟨(some 17), .nilc (.tmp 16), none⟩,
          ⟨(some 18), .faddr 1 (.tmp 17), none⟩,
          ⟨(some 19), .load 1 false (.tmp 18), none⟩,
          ⟨(some 20), .bin .lss (.tmp 15) (.tmp 19), none⟩] [0, 1, 4, 5, 9, 10, 20])
      (.cond (.tmp 20)
       (.skip)
       (.exit 2)))
      (.seq (.block 3 (.reg [
           ⟨(some 23), .mv (.tmp 0), none⟩,
           ⟨(some 24), .nilc (.tmp 23), none⟩,
           ⟨(some 25), .faddr 2 (.tmp 24), none⟩,
           ⟨(some 26), .load 1 false (.tmp 25), none⟩,
           ⟨(some 27), .mv (.tmp 0), none⟩,
           ⟨(some 28), .mv (.tmp 4), none⟩,
           ⟨(some 29), .mv (.tmp 5), none⟩,
           ⟨(some 30), .mv (.tmp 1), none⟩,
           ⟨(some 31), .mv (.tmp 4), none⟩,
           ⟨(some 32), .iaddr 1 (.tmp 30) (.tmp 31), none⟩,
           ⟨(some 33), .load 1 false (.tmp 32), none⟩,
           ⟨(some 34), .mv (.tmp 1), none⟩,
           ⟨(some 35), .mv (.tmp 5), none⟩,
           ⟨(some 36), .iaddr 1 (.tmp 34) (.tmp 35), none⟩,
           ⟨(some 37), .load 1 false (.tmp 36), none⟩,
           ⟨(some 38), .qcall 94 [(.tmp 27), (.tmp 28), (.tmp 29), (.tmp 33), (.tmp 37)], none⟩,
           ⟨(some 39), .iaddr 1 (.tmp 26) (.tmp 38), none⟩,
           ⟨none, .store 1 (.tmp 39) (.const (.bool true)), none⟩] [0, 1, 4, 5, 9, 10]))
      (.reg [
          ⟨(some 21), .mv (.tmp 5), none⟩,
          ⟨(some 22), .bin .add (.tmp 21) (.const (.int .i64 1)), none⟩,
          ⟨(some 5), .mv (.tmp 22), none⟩] [0, 1, 4, 5, 9, 10]))))))))
   (.reg [
       ⟨(some 40), .bin .add (.tmp 10) (.const (.int .i64 1)), none⟩,
       ⟨(some 10), .mv (.tmp 40), none⟩] [0, 1, 9, 10]))))))
theorem s_impl_cover_add : stripF Try.prog 49 [[0, 1, 9, 10], [0, 1, 9, 10], [0, 1, 9, 10, 11], [0, 1, 4, 9, 10], [0, 1, 4, 5, 9, 10], [0, 1, 4, 5, 9, 10], [0, 1, 4, 5, 9, 10, 20], [0, 1, 4, 5, 9, 10], [0, 1, 4, 5, 9, 10], [0, 1, 9, 10]] = some (c_impl_cover_add, [], 41) := by kernel_rfl
abbrev f_impl_cover_at : Nat := 94
def c_impl_cover_at : SC :=
 .seq (.reg [
     ⟨(some 10), .mv (.const (.int .i64 0)), none⟩] [0, 1, 2, 3, 4])
 (.seq (.reg [
     ⟨(some 11), .mv (.tmp 1), none⟩,
     ⟨(some 12), .mv (.tmp 0), none⟩,
     ⟨(some 13), .nilc (.tmp 12), none⟩,
     ⟨(some 14), .faddr 1 (.tmp 13), none⟩,
     ⟨(some 15), .load 1 false (.tmp 14), none⟩,
     ⟨(some 16), .bin .mul (.tmp 11) (.tmp 15), none⟩,
     ⟨(some 17), .mv (.tmp 2), none⟩,
     ⟨(some 18), .bin .add (.tmp 16) (.tmp 17), none⟩,
     ⟨(some 19), .mv (.tmp 0), none⟩,
     ⟨(some 20), .nilc (.tmp 19), none⟩,
     ⟨(some 21), .faddr 0 (.tmp 20), none⟩,
     ⟨(some 22), .load 1 false (.tmp 21), none⟩,
     ⟨(some 23), .bin .mul (.tmp 18) (.tmp 22), none⟩,
     ⟨(some 24), .mv (.tmp 3), none⟩,
     ⟨(some 25), .bin .add (.tmp 23) (.tmp 24), none⟩,
     ⟨(some 26), .mv (.tmp 0), none⟩,
     ⟨(some 27), .nilc (.tmp 26), none⟩,
     ⟨(some 28), .faddr 0 (.tmp 27), none⟩,
     ⟨(some 29), .load 1 false (.tmp 28), none⟩,
     ⟨(some 30), .bin .mul (.tmp 25) (.tmp 29), none⟩,
     ⟨(some 31), .mv (.tmp 4), none⟩,
     ⟨(some 32), .bin .add (.tmp 30) (.tmp 31), none⟩,
     ⟨(some 10), .mv (.tmp 32), none⟩] [10])
 (.ret))
theorem s_impl_cover_at : stripF Try.prog 94 [[0, 1, 2, 3, 4], [10]] = some (c_impl_cover_at, [.tmp 10], 33) := by kernel_rfl
def atI (l c : Nat) (x y v w : Int) : Int := ((x * c + y) * l + v) * l + w
theorem mul_bd {a b A B : Int} (h0 : 0 ≤ a) (h1 : a ≤ A) (h2 : 0 ≤ b) (h3 : b ≤ B) : 0 ≤ a * b ∧ a * b ≤ A * B :=
  ⟨Int.mul_nonneg h0 h2, Int.mul_le_mul h1 h3 h2 (by omega)⟩
theorem at_bd {l c : Nat} {x y v w : Int} (hl : l ≤ 16) (hc : c ≤ 8) (hx : 0 ≤ x ∧ x < c) (hy : 0 ≤ y ∧ y < c) (hv : 0 ≤ v ∧ v < l) (hw : 0 ≤ w ∧ w < l) :
    (0 ≤ x * c ∧ x * c ≤ 64) ∧ (0 ≤ (x * c + y) * l ∧ (x * c + y) * l ≤ 1152) ∧ (0 ≤ ((x * c + y) * l + v) * l ∧ ((x * c + y) * l + v) * l ≤ 18688) ∧ 0 ≤ atI l c x y v w ∧ atI l c x y v w < c * c * l * l := by
  have h1 := mul_bd (a := x) (b := c) (A := 8) (B := 8) (by omega) (by omega) (by omega) (by omega)
  have h2 := mul_bd (a := x * c + y) (b := l) (A := 72) (B := 16) (by omega) (by omega) (by omega) (by omega)
  have h3 := mul_bd (a := (x * c + y) * l + v) (b := l) (A := 1168) (B := 16) (by omega) (by omega) (by omega) (by omega)
  refine ⟨by omega, by omega, by omega, by unfold atI; omega, ?_⟩
  have e1 : x * c + y + 1 ≤ c * c := by
    have := Int.mul_le_mul_of_nonneg_right (show x + 1 ≤ (c : Int) by omega) (show (0 : Int) ≤ c by omega)
    rw [Int.add_mul] at this; omega
  have e2 : (x * c + y) * l + v + 1 ≤ c * c * l := by
    have := Int.mul_le_mul_of_nonneg_right e1 (show (0 : Int) ≤ l by omega)
    rw [Int.add_mul] at this; omega
  have e3 := Int.mul_le_mul_of_nonneg_right e2 (show (0 : Int) ≤ l by omega)
  rw [Int.add_mul] at e3
  unfold atI; omega
abbrev tyK : Nat := 118
theorem at_ok (H : List Blk) (p : Nat) (l c : Nat) (D : AV) (x y v w : Int) (hl : l ≤ 16) (hc : c ≤ 8) (hx : 0 ≤ x ∧ x < c) (hy : 0 ≤ y ∧ y < c) (hv : 0 ≤ v ∧ v < l) (hw : 0 ≤ w ∧ w < l) (hp : H[p]? = some ⟨0, tyK, 1, [I l, I c, D]⟩) :
    ACalls Try.prog f_impl_cover_at [.pc p 0 0, I x, I y, I v, I w] H (fun r H' => r = I (atI l c x y v w) ∧ H' = H) := by
  obtain ⟨b1, b2, b3, b4, b5⟩ := at_bd hl hc hx hy hv hw
  unfold atI at *
  refine ACalls.introB s_impl_cover_at (by simp) ?_; intro hB hA; unfold c_impl_cover_at; simp (config := { maxSteps := 1000000 }) (disch := (first | omega | (simp only [go_sem]; try omega))) only [go_sem, Nat.reduceAdd, Nat.reduceEqDiff, Nat.reduceLeDiff, Nat.reduceMul, Nat.reduceLT, reduceIte, Int.reduceToNat, w64_id, cast_succ]
  repeat (first | (with_reducible first | refine SW.seq ?_ | refine SW.block ?_ | refine SW.rowC ?_ | refine SW.skip ?_ | refine SW.exit ?_ | intro _ | refine And.intro (by omega) ?_) | simp (config := { maxSteps := 1000000 }) (disch := (first | omega | (simp only [go_sem]; try omega))) only [go_sem, Nat.reduceAdd, Nat.reduceEqDiff, Nat.reduceLeDiff, Nat.reduceMul, Nat.reduceLT, reduceIte, Int.reduceToNat, w64_id, cast_succ, pc_ld hp, pc_alive hp])
  refine SW.ret ?_; (try simp only [go_sem]); (first | refine FunPost.one ?_ | refine FunPost.two ?_ | refine FunPost.three ?_); (try simp (config := { maxSteps := 1000000 }) (disch := (first | omega | (simp only [go_sem]; try omega))) only [go_sem, Nat.reduceAdd, Nat.reduceEqDiff, Nat.reduceLeDiff, Nat.reduceMul, Nat.reduceLT, reduceIte, Int.reduceToNat, w64_id, cast_succ]); (first | (with_reducible refine GR.drop ?_ ?_; (simp only [go_sem, and_self, and_true, true_and, implies_true, List.take_succ_cons, List.take_zero])) | refine GR.of ?_); refine ⟨?_, rfl⟩; (try with_reducible rfl)
theorem newCover_ok (H : List Blk) (l c : Nat) (hl : l ≤ 16) (hc : c ≤ 8) : ACalls Try.prog f_impl_newCover [I l, I c] H (fun r H' => r = .pc (H.length + 1) 0 0 ∧ H' = H ++ [⟨0, 4, 1, (marks (c * c * l * l) []).map Bv⟩, ⟨0, tyK, 1, [I l, I c, .nm H.length 0 0 (c * c * l * l)]⟩]) := by
  have g1 : c * c ≤ 8 * 8 := Nat.mul_le_mul hc hc
  have g2 : c * c * l ≤ 8 * 8 * 16 := Nat.mul_le_mul g1 hl
  have g3 : c * c * l * l ≤ 8 * 8 * 16 * 16 := Nat.mul_le_mul g2 hl
  have i1 : (c : Int) * c = ((c * c : Nat) : Int) := by simp
  have i2 : (c : Int) * c * l = ((c * c * l : Nat) : Int) := by simp
  have i3 : (c : Int) * c * l * l = ((c * c * l * l : Nat) : Int) := by simp
  have e1 : w64 ((c : Int) * c) = (c : Int) * c := by rw [w64_id] <;> rw [i1] <;> omega
  have e2 : w64 ((c : Int) * c * l) = (c : Int) * c * l := by rw [w64_id] <;> rw [i2] <;> omega
  have e3 : w64 ((c : Int) * c * l * l) = (c : Int) * c * l * l := by rw [w64_id] <;> rw [i3] <;> omega
  have e4 : ((c : Int) * c * l * l).toNat = c * c * l * l := by rw [i3, Int.toNat_natCast]
  have e5 : 0 ≤ (c : Int) * c * l * l ∧ (c : Int) * c * l * l ≤ 16384 := by rw [i3]; omega
  refine ACalls.introB s_impl_newCover (by simp) ?_; intro hB hA; unfold c_impl_newCover; simp (config := { maxSteps := 1000000 }) (disch := (first | omega | (simp only [go_sem]; try omega))) only [go_sem, Nat.reduceAdd, Nat.reduceEqDiff, Nat.reduceLeDiff, Nat.reduceMul, Nat.reduceLT, reduceIte, Int.reduceToNat, w64_id, cast_succ]
  repeat (first | (with_reducible first | refine SW.seq ?_ | refine SW.block ?_ | refine SW.rowC ?_ | refine SW.skip ?_ | refine SW.exit ?_ | intro _ | refine And.intro (by omega) ?_) | simp (config := { maxSteps := 1000000 }) (disch := (first | omega | (simp only [go_sem]; try omega))) only [go_sem, Nat.reduceAdd, Nat.reduceEqDiff, Nat.reduceLeDiff, Nat.reduceMul, Nat.reduceLT, reduceIte, Int.reduceToNat, w64_id, cast_succ, e1, e2, e3, e4])
  refine SW.ret ?_; (try simp only [go_sem]); (first | refine FunPost.one ?_ | refine FunPost.two ?_ | refine FunPost.three ?_); (try simp (config := { maxSteps := 1000000 }) (disch := (first | omega | (simp only [go_sem]; try omega))) only [go_sem, Nat.reduceAdd, Nat.reduceEqDiff, Nat.reduceLeDiff, Nat.reduceMul, Nat.reduceLT, reduceIte, Int.reduceToNat, w64_id, cast_succ])
  refine GR.of ⟨rfl, ?_⟩
  rw [marks_nil]
def codeC (l c : Nat) (row : List Int) (x d : Nat) : List Int := (List.range (d - (x + 1))).map fun j => atI l c x ((x + 1 + j : Nat) : Int) (row.getD x 0) (row.getD (x + 1 + j) 0)
def codesTo (l c : Nat) (row : List Int) (x : Nat) : List Int := (List.range x).flatMap fun x => codeC l c row x c
def codes (l c : Nat) (row : List Int) : List Int := codesTo l c row c
theorem codeC_snoc (l c : Nat) (row : List Int) {x d : Nat} (h : x + 1 ≤ d) : codeC l c row x (d + 1) = codeC l c row x d ++ [atI l c x d (row.getD x 0) (row.getD d 0)] := by
  obtain ⟨k, rfl⟩ : ∃ k, d = x + 1 + k := ⟨d - (x + 1), by omega⟩
  unfold codeC
  rw [show x + 1 + k + 1 - (x + 1) = k + 1 by omega, show x + 1 + k - (x + 1) = k by omega, List.range_succ]
  simp
theorem codesTo_succ (l c : Nat) (row : List Int) (x : Nat) : codesTo l c row (x + 1) = codesTo l c row x ++ codeC l c row x c := by
  unfold codesTo; rw [List.range_succ]; simp
def bB (n : Nat) (m : List Int) (ver : Nat) : Blk := ⟨ver, 4, 1, (marks n m).map Bv⟩
theorem add_ok (H : List Blk) (p r : Nat) (l c : Nat) (m row : List Int) (hl : l ≤ 16) (hc : c ≤ 8) (hrow : (row.length : Int) = c) (hv : ∀ x ∈ row, 0 ≤ x ∧ x < l) (hpr : p ≠ r) (hp : H[p]? = some ⟨0, tyK, 1, [I l, I c, .nm r 0 0 (c * c * l * l)]⟩) (hr : H[r]? = some (bB (c * c * l * l) m 0)) :
    ACalls Try.prog f_impl_cover_add [.pc p 0 0, ilS row] H (fun _ H' => H' = H.set r (bB (c * c * l * l) (m ++ codes l c row) 0)) := by
  refine ACalls.introB s_impl_cover_add (by simp) ?_; intro hB hA; unfold c_impl_cover_add; simp (config := { maxSteps := 1000000 }) (disch := (first | omega | (simp only [go_sem]; try omega))) only [go_sem, Nat.reduceAdd, Nat.reduceEqDiff, Nat.reduceLeDiff, Nat.reduceMul, Nat.reduceLT, reduceIte, Int.reduceToNat, w64_id, cast_succ]
  repeat (first | (with_reducible first | refine SW.seq ?_ | refine SW.block ?_ | refine SW.rowC ?_ | refine SW.skip ?_ | refine SW.exit ?_ | intro _ | refine And.intro (by omega) ?_) | simp (config := { maxSteps := 1000000 }) (disch := (first | omega | (simp only [go_sem]; try omega))) only [go_sem, Nat.reduceAdd, Nat.reduceEqDiff, Nat.reduceLeDiff, Nat.reduceMul, Nat.reduceLT, reduceIte, Int.reduceToNat, w64_id, cast_succ, pc_ld hp, pc_alive hp])
  have hrlt := (List.getElem?_eq_some_iff.1 hr).1
  have hset : ∀ b, (H.set r b)[p]? = some ⟨0, tyK, 1, [I l, I c, .nm r 0 0 (c * c * l * l)]⟩ := fun b => by rw [List.getElem?_set_ne (Ne.symm hpr)]; exact hp
  have hsetr : ∀ b, (H.set r b)[r]? = some b := fun b => List.getElem?_set_self hrlt
  have hrn : row.length = c := by omega
  have hget : ∀ i : Nat, i < c → 0 ≤ row.getD i 0 ∧ row.getD i 0 < l := fun i hi => hv _ (by
    rw [List.getD_eq_getElem?_getD, List.getElem?_eq_getElem (by omega)]; exact List.getElem_mem _)
  refine SW.loopE (fun E0 H0 q E' H' => ∃ x : Nat, x ≤ c ∧ q = c - x ∧ E' = aput E0 10 (I x) ∧ H' = H.set r (bB (c * c * l * l) (m ++ codesTo l c row x) 0)) c ⟨0, by omega, by omega, rfl, ?_⟩ ?_
  · obtain ⟨h1, h2⟩ := List.getElem?_eq_some_iff.1 hr
    simp only [codesTo, List.range_zero, List.flatMap_nil, List.append_nil]
    rw [← h2]; exact (List.set_getElem_self h1).symm
  rintro q E' H' ⟨x, hx, rfl, rfl, rfl⟩
  simp (config := { maxSteps := 1000000 }) (disch := (first | omega | (simp only [go_sem]; try omega))) only [go_sem, Nat.reduceAdd, Nat.reduceEqDiff, Nat.reduceLeDiff, Nat.reduceMul, Nat.reduceLT, reduceIte, Int.reduceToNat, w64_id, cast_succ]
  repeat (first | (with_reducible first | refine SW.seq ?_ | refine SW.block ?_ | refine SW.rowC ?_ | refine SW.skip ?_ | refine SW.exit ?_ | intro _ | refine And.intro (by omega) ?_) | simp (config := { maxSteps := 1000000 }) (disch := (first | omega | (simp only [go_sem]; try omega))) only [go_sem, Nat.reduceAdd, Nat.reduceEqDiff, Nat.reduceLeDiff, Nat.reduceMul, Nat.reduceLT, reduceIte, Int.reduceToNat, w64_id, cast_succ, pc_ld (hset _), pc_alive (hset _)])
  (first | refine SW.condD rfl (fun h => ?_) (fun h => ?_) | refine SW.condN rfl (fun h => ?_) (fun h => ?_) | refine SW.condNB rfl (fun h => ?_) (fun h => ?_) | refine SW.condB rfl (fun h => ?_) (fun h => ?_))
  · have hxc : x < c := by omega
    repeat (first | (with_reducible first | refine SW.seq ?_ | refine SW.block ?_ | refine SW.rowC ?_ | refine SW.skip ?_ | refine SW.exit ?_ | intro _ | refine And.intro (by omega) ?_) | simp (config := { maxSteps := 1000000 }) (disch := (first | omega | (simp only [go_sem]; try omega))) only [go_sem, Nat.reduceAdd, Nat.reduceEqDiff, Nat.reduceLeDiff, Nat.reduceMul, Nat.reduceLT, reduceIte, Int.reduceToNat, w64_id, cast_succ, pc_ld (hset _), pc_alive (hset _)])
    refine SW.loopE (fun E0 H0 q E' H' => ∃ d : Nat, x + 1 ≤ d ∧ d ≤ c ∧ q = c - d ∧ E' = aput E0 5 (I d) ∧ H' = H.set r (bB (c * c * l * l) (m ++ codesTo l c row x ++ codeC l c row x d) 0)) (c - (x + 1)) ⟨x + 1, by omega, by omega, by omega, ?_, ?_⟩ ?_
    · rfl
    · simp [codeC]
    rintro q E' H' ⟨d, hd0, hd, rfl, rfl, rfl⟩
    simp (config := { maxSteps := 1000000 }) (disch := (first | omega | (simp only [go_sem]; try omega))) only [go_sem, Nat.reduceAdd, Nat.reduceEqDiff, Nat.reduceLeDiff, Nat.reduceMul, Nat.reduceLT, reduceIte, Int.reduceToNat, w64_id, cast_succ]
    repeat (first | (with_reducible first | refine SW.seq ?_ | refine SW.block ?_ | refine SW.rowC ?_ | refine SW.skip ?_ | refine SW.exit ?_ | intro _ | refine And.intro (by omega) ?_) | simp (config := { maxSteps := 1000000 }) (disch := (first | omega | (simp only [go_sem]; try omega))) only [go_sem, Nat.reduceAdd, Nat.reduceEqDiff, Nat.reduceLeDiff, Nat.reduceMul, Nat.reduceLT, reduceIte, Int.reduceToNat, w64_id, cast_succ, pc_ld (hset _), pc_alive (hset _)])
    (first | refine SW.condD rfl (fun h2 => ?_) (fun h2 => ?_) | refine SW.condN rfl (fun h2 => ?_) (fun h2 => ?_) | refine SW.condNB rfl (fun h2 => ?_) (fun h2 => ?_) | refine SW.condB rfl (fun h2 => ?_) (fun h2 => ?_))
    · have hdc : d < c := by omega
      repeat (first | (with_reducible first | refine SW.seq ?_ | refine SW.block ?_ | refine SW.rowC ?_ | refine SW.skip ?_ | refine SW.exit ?_ | intro _ | refine And.intro (by omega) ?_) | simp (config := { maxSteps := 1000000 }) (disch := (first | omega | (simp only [go_sem]; try omega))) only [go_sem, Nat.reduceAdd, Nat.reduceEqDiff, Nat.reduceLeDiff, Nat.reduceMul, Nat.reduceLT, reduceIte, Int.reduceToNat, w64_id, cast_succ, pc_ld (hset _), pc_alive (hset _)])
      have hat := at_bd hl hc (x := x) (y := d) (v := row.getD x 0) (w := row.getD d 0) (by omega) (by omega) (hget x hxc) (hget d hdc)
      refine QcallW.of (fun ext => at_ok _ p l c _ _ _ _ _ hl hc (by omega) (by omega) (hget x hxc) (hget d hdc) (get_appF (hset _) ext)) ?_
      generalize hz : atI l c x d (row.getD x 0) (row.getD d 0) = z at *
      have hlt : z < ((c * c * l * l : Nat) : Int) := by simp only [Int.natCast_mul]; exact hat.2.2.2.2
      have hvw := view_nm (n := c * c * l * l) (hsetr (bB (c * c * l * l) (m ++ (codesTo l c row x ++ codeC l c row x d)) 0)) (by simp [marks_length])
      have hst := store_nm (n := c * c * l * l) (c := Bv true) (i := z.toNat) (hsetr (bB (c * c * l * l) (m ++ (codesTo l c row x ++ codeC l c row x d)) 0)) (by simp [marks_length]; omega)
      repeat (first | (with_reducible first | refine SW.seq ?_ | refine SW.block ?_ | refine SW.rowC ?_ | refine SW.skip ?_ | refine SW.exit ?_ | intro _ | refine And.intro (by omega) ?_) | simp (config := { maxSteps := 1000000 }) (disch := (first | omega | (simp only [go_sem]; try omega))) only [go_sem, Nat.reduceAdd, Nat.reduceEqDiff, Nat.reduceLeDiff, Nat.reduceMul, Nat.reduceLT, reduceIte, Int.reduceToNat, w64_id, cast_succ, hvw, hst])
      refine SLoop.next (c - (d + 1)) (by omega) ⟨d + 1, by omega, by omega, rfl, ?_, ?_⟩
      · simp [go_sem]
      · rw [List.set_set, marks_set _ _ _ (by omega), codeC_snoc l c row hd0, hz]
        simp [bB, List.append_assoc]
    · have : d = c := by omega
      subst this
      repeat (first | (with_reducible first | refine SW.seq ?_ | refine SW.block ?_ | refine SW.rowC ?_ | refine SW.skip ?_ | refine SW.exit ?_ | intro _ | refine And.intro (by omega) ?_) | simp (config := { maxSteps := 1000000 }) (disch := (first | omega | (simp only [go_sem]; try omega))) only [go_sem, Nat.reduceAdd, Nat.reduceEqDiff, Nat.reduceLeDiff, Nat.reduceMul, Nat.reduceLT, reduceIte, Int.reduceToNat, w64_id, cast_succ])
      refine SLoop.next (d - (x + 1)) (by omega) ⟨x + 1, by omega, rfl, ?_, ?_⟩
      · simp [go_sem]
      · rw [codesTo_succ, ← List.append_assoc]
  · have : x = c := by omega
    subst this
    repeat (first | (with_reducible first | refine SW.seq ?_ | refine SW.block ?_ | refine SW.rowC ?_ | refine SW.skip ?_ | refine SW.exit ?_ | intro _ | refine And.intro (by omega) ?_) | simp (config := { maxSteps := 1000000 }) (disch := (first | omega | (simp only [go_sem]; try omega))) only [go_sem, Nat.reduceAdd, Nat.reduceEqDiff, Nat.reduceLeDiff, Nat.reduceMul, Nat.reduceLT, reduceIte, Int.reduceToNat, w64_id, cast_succ])
    exact ⟨_, rfl, GR.of rfl⟩
def opY (l : Nat) (P : Nat → Nat → Nat → Nat → Bool) (x y n : Nat) : List (List Int) := ((List.range n).filter fun k => !P x y (k / l) (k % l)).map fun k => [(x : Int), y, (k / l : Nat), (k % l : Nat)]
def opX (l : Nat) (P : Nat → Nat → Nat → Nat → Bool) (x y : Nat) : List (List Int) := (List.range (y - (x + 1))).flatMap fun j => opY l P x (x + 1 + j) (l * l)
def opTo (l c : Nat) (P : Nat → Nat → Nat → Nat → Bool) (x : Nat) : List (List Int) := (List.range x).flatMap fun x => opX l P x c
def opAll (l c : Nat) (P : Nat → Nat → Nat → Nat → Bool) : List (List Int) := opTo l c P c
theorem opY_succ (l : Nat) (P : Nat → Nat → Nat → Nat → Bool) (x y v w : Nat) (hw : w < l) : opY l P x y (v * l + w + 1) = opY l P x y (v * l + w) ++ (if P x y v w then [] else [[(x : Int), y, v, w]]) := by
  have e1 : (v * l + w) / l = v := by rw [Nat.mul_comm, Nat.mul_add_div (by omega), Nat.div_eq_of_lt hw]; omega
  have e2 : (v * l + w) % l = w := by rw [Nat.mul_comm, Nat.mul_add_mod, Nat.mod_eq_of_lt hw]
  unfold opY
  rw [List.range_succ, List.filter_append, List.map_append]
  cases h : P x y v w <;> simp [e1, e2, h, -Int.natCast_ediv, -Int.natCast_emod]
theorem opX_succ (l : Nat) (P : Nat → Nat → Nat → Nat → Bool) {x y : Nat} (h : x + 1 ≤ y) : opX l P x (y + 1) = opX l P x y ++ opY l P x y (l * l) := by
  obtain ⟨k, rfl⟩ : ∃ k, y = x + 1 + k := ⟨y - (x + 1), by omega⟩
  unfold opX
  rw [show x + 1 + k + 1 - (x + 1) = k + 1 by omega, show x + 1 + k - (x + 1) = k by omega, List.range_succ]
  simp
theorem opTo_succ (l c : Nat) (P : Nat → Nat → Nat → Nat → Bool) (x : Nat) : opTo l c P (x + 1) = opTo l c P x ++ opX l P x c := by
  unfold opTo; rw [List.range_succ]; simp
theorem opY_len (l : Nat) (P : Nat → Nat → Nat → Nat → Bool) (x y n : Nat) : (opY l P x y n).length ≤ n := by
  unfold opY
  have := List.length_filter_le (fun k => !P x y (k / l) (k % l)) (List.range n)
  simp at this ⊢; exact this
theorem flatMap_len {α β : Type} (f : α → List β) (B : Nat) (h : ∀ a, (f a).length ≤ B) : ∀ l : List α, (l.flatMap f).length ≤ l.length * B
  | [] => by simp
  | a :: l => by
    have := flatMap_len f B h l
    have := h a
    simp only [List.flatMap_cons, List.length_append, List.length_cons, Nat.succ_mul]
    omega
theorem opX_len (l : Nat) (P : Nat → Nat → Nat → Nat → Bool) (x y : Nat) (hl : l ≤ 16) (hy : y ≤ 8) : (opX l P x y).length ≤ 2048 := by
  have h1 := flatMap_len (fun j => opY l P x (x + 1 + j) (l * l)) 256 (fun a => Nat.le_trans (opY_len _ _ _ _ _) (Nat.mul_le_mul hl hl)) (List.range (y - (x + 1)))
  rw [List.length_range] at h1
  unfold opX
  have := Nat.mul_le_mul (show y - (x + 1) ≤ 8 by omega) (Nat.le_refl 256)
  omega
theorem opTo_len (l c : Nat) (P : Nat → Nat → Nat → Nat → Bool) (x : Nat) (hl : l ≤ 16) (hc : c ≤ 8) (hx : x ≤ 8) : (opTo l c P x).length ≤ 16384 := by
  have h1 := flatMap_len (fun x => opX l P x c) 2048 (fun a => opX_len _ _ _ _ hl hc) (List.range x)
  rw [List.length_range] at h1
  unfold opTo
  have := Nat.mul_le_mul hx (Nat.le_refl 2048)
  omega
theorem flat4 : ∀ {L : List (List Int)}, (∀ q ∈ L, q.length = 4) → L.flatten.length = L.length * 4
  | [], _ => rfl
  | q :: L, h => by
    have h1 := flat4 (L := L) (fun q hq => h q (by simp [hq]))
    have h2 := h q (by simp)
    simp only [List.flatten_cons, List.length_append, List.length_cons, Nat.succ_mul, h1, h2]
    omega
theorem opY_4 (l : Nat) (P : Nat → Nat → Nat → Nat → Bool) (x y n : Nat) : ∀ q ∈ opY l P x y n, q.length = 4 := by
  intro q hq
  unfold opY at hq
  obtain ⟨k, _, rfl⟩ := List.mem_map.1 hq
  rfl
theorem opX_4 (l : Nat) (P : Nat → Nat → Nat → Nat → Bool) (x y : Nat) : ∀ q ∈ opX l P x y, q.length = 4 := by
  intro q hq
  unfold opX at hq
  obtain ⟨k, _, h⟩ := List.mem_flatMap.1 hq
  exact opY_4 _ _ _ _ _ q h
theorem opTo_4 (l c : Nat) (P : Nat → Nat → Nat → Nat → Bool) (x : Nat) : ∀ q ∈ opTo l c P x, q.length = 4 := by
  intro q hq
  unfold opTo at hq
  obtain ⟨k, _, h⟩ := List.mem_flatMap.1 hq
  exact opX_4 _ _ _ _ q h
theorem NmV_4 {ver ty : Nat} {a b c d : AV} : NmV ver 0 1 (some ⟨ver, ty, 4, [a, b, c, d]⟩) = some (1, [a, b, c, d]) := by simp [NmV]
def inP (l c : Nat) (m : List Int) (x y v w : Nat) : Bool := m.contains (atI l c x y v w)
theorem open_ok (H : List Blk) (p r : Nat) (l c : Nat) (m : List Int) (hl : l ≤ 16) (hc : c ≤ 8) (hp : H[p]? = some ⟨0, tyK, 1, [I l, I c, .nm r 0 0 (c * c * l * l)]⟩) (hr : H[r]? = some (bB (c * c * l * l) m 0)) :
    ACalls Try.prog f_impl_cover_open [.pc p 0 0] H (fun r H' => ∃ ver k ext, r = .nm k ver 0 (opAll l c (inP l c m)).length ∧ H' = H ++ ext ∧ H.length ≤ k ∧ H'[k]? = some ⟨ver, 80, 4, (opAll l c (inP l c m)).flatten.map I⟩) := by
  refine ACalls.introB s_impl_cover_open (by simp) ?_; intro hB hA; unfold c_impl_cover_open; simp (config := { maxSteps := 1000000 }) (disch := (first | omega | (simp only [go_sem]; try omega))) only [go_sem, Nat.reduceAdd, Nat.reduceEqDiff, Nat.reduceLeDiff, Nat.reduceMul, Nat.reduceLT, reduceIte, Int.reduceToNat, w64_id, cast_succ]
  repeat (first | (with_reducible first | refine SW.seq ?_ | refine SW.block ?_ | refine SW.rowC ?_ | refine SW.skip ?_ | refine SW.exit ?_ | intro _ | refine And.intro (by omega) ?_) | simp (config := { maxSteps := 1000000 }) (disch := (first | omega | (simp only [go_sem]; try omega))) only [go_sem, Nat.reduceAdd, Nat.reduceEqDiff, Nat.reduceLeDiff, Nat.reduceMul, Nat.reduceLT, reduceIte, Int.reduceToNat, w64_id, cast_succ, pc_ld hp, pc_alive hp])
  have happ : ∀ ext : List Blk, (H ++ ext)[p]? = some ⟨0, tyK, 1, [I l, I c, .nm r 0 0 (c * c * l * l)]⟩ := fun ext => get_appF hp ext
  have hvw : ∀ ext : List Blk, aview (H ++ ext) (.nm r 0 0 (c * c * l * l)) = some (c * c * l * l, (marks (c * c * l * l) m).map Bv) := fun ext => view_nm (get_appF hr ext) (by simp [marks_length])
  refine SW.ghost (Gh.name 3 80 4 rfl) ?_
  simp (config := { maxSteps := 1000000 }) (disch := (first | omega | (simp only [go_sem]; try omega))) only [go_sem, Nat.reduceAdd, Nat.reduceEqDiff, Nat.reduceLeDiff, Nat.reduceMul, Nat.reduceLT, reduceIte, Int.reduceToNat, w64_id, cast_succ]
  refine SW.loopE (fun E0 H0 q E' H' => ∃ (x ver : Nat) (L : List (List Int)), L = opTo l c (inP l c m) x ∧ x ≤ c ∧ q = c - x ∧ E' = aput (aput E0 12 (I x)) 3 (.nm H.length ver 0 L.length) ∧ H' = H ++ [⟨ver, 80, 4, L.flatten.map I⟩]) c ⟨0, 0, [], by simp [opTo], by omega, by omega, rfl, by simp⟩ ?_
  rintro q E' H' ⟨x, ver, L, hL, hx, rfl, rfl, rfl⟩
  simp (config := { maxSteps := 1000000 }) (disch := (first | omega | (simp only [go_sem]; try omega))) only [go_sem, Nat.reduceAdd, Nat.reduceEqDiff, Nat.reduceLeDiff, Nat.reduceMul, Nat.reduceLT, reduceIte, Int.reduceToNat, w64_id, cast_succ]
  repeat (first | (with_reducible first | refine SW.seq ?_ | refine SW.block ?_ | refine SW.rowC ?_ | refine SW.skip ?_ | refine SW.exit ?_ | intro _ | refine And.intro (by omega) ?_) | simp (config := { maxSteps := 1000000 }) (disch := (first | omega | (simp only [go_sem]; try omega))) only [go_sem, Nat.reduceAdd, Nat.reduceEqDiff, Nat.reduceLeDiff, Nat.reduceMul, Nat.reduceLT, reduceIte, Int.reduceToNat, w64_id, cast_succ, pc_ld (happ _), pc_alive (happ _)])
  (first | refine SW.condD rfl (fun h => ?_) (fun h => ?_) | refine SW.condN rfl (fun h => ?_) (fun h => ?_) | refine SW.condNB rfl (fun h => ?_) (fun h => ?_) | refine SW.condB rfl (fun h => ?_) (fun h => ?_))
  · have hxc : x < c := by omega
    repeat (first | (with_reducible first | refine SW.seq ?_ | refine SW.block ?_ | refine SW.rowC ?_ | refine SW.skip ?_ | refine SW.exit ?_ | intro _ | refine And.intro (by omega) ?_) | simp (config := { maxSteps := 1000000 }) (disch := (first | omega | (simp only [go_sem]; try omega))) only [go_sem, Nat.reduceAdd, Nat.reduceEqDiff, Nat.reduceLeDiff, Nat.reduceMul, Nat.reduceLT, reduceIte, Int.reduceToNat, w64_id, cast_succ, pc_ld (happ _), pc_alive (happ _)])
    refine SW.loopE (fun E0 H0 q E' H' => ∃ (y ver : Nat) (L2 : List (List Int)), L2 = L ++ opX l (inP l c m) x y ∧ x + 1 ≤ y ∧ y ≤ c ∧ q = c - y ∧ E' = aput (aput E0 5 (I y)) 3 (.nm H.length ver 0 L2.length) ∧ H' = H ++ [⟨ver, 80, 4, L2.flatten.map I⟩]) (c - (x + 1)) ⟨x + 1, ver, L, by simp [opX], by omega, by omega, by omega, rfl, rfl⟩ ?_
    rintro q E' H' ⟨y, ver, L2, hL2, hy0, hy, rfl, rfl, rfl⟩
    simp (config := { maxSteps := 1000000 }) (disch := (first | omega | (simp only [go_sem]; try omega))) only [go_sem, Nat.reduceAdd, Nat.reduceEqDiff, Nat.reduceLeDiff, Nat.reduceMul, Nat.reduceLT, reduceIte, Int.reduceToNat, w64_id, cast_succ]
    repeat (first | (with_reducible first | refine SW.seq ?_ | refine SW.block ?_ | refine SW.rowC ?_ | refine SW.skip ?_ | refine SW.exit ?_ | intro _ | refine And.intro (by omega) ?_) | simp (config := { maxSteps := 1000000 }) (disch := (first | omega | (simp only [go_sem]; try omega))) only [go_sem, Nat.reduceAdd, Nat.reduceEqDiff, Nat.reduceLeDiff, Nat.reduceMul, Nat.reduceLT, reduceIte, Int.reduceToNat, w64_id, cast_succ, pc_ld (happ _), pc_alive (happ _)])
    (first | refine SW.condD rfl (fun h2 => ?_) (fun h2 => ?_) | refine SW.condN rfl (fun h2 => ?_) (fun h2 => ?_) | refine SW.condNB rfl (fun h2 => ?_) (fun h2 => ?_) | refine SW.condB rfl (fun h2 => ?_) (fun h2 => ?_))
    · have hyc : y < c := by omega
      repeat (first | (with_reducible first | refine SW.seq ?_ | refine SW.block ?_ | refine SW.rowC ?_ | refine SW.skip ?_ | refine SW.exit ?_ | intro _ | refine And.intro (by omega) ?_) | simp (config := { maxSteps := 1000000 }) (disch := (first | omega | (simp only [go_sem]; try omega))) only [go_sem, Nat.reduceAdd, Nat.reduceEqDiff, Nat.reduceLeDiff, Nat.reduceMul, Nat.reduceLT, reduceIte, Int.reduceToNat, w64_id, cast_succ, pc_ld (happ _), pc_alive (happ _)])
      refine SW.loopE (fun E0 H0 q E' H' => ∃ (v ver : Nat) (L3 : List (List Int)), L3 = L2 ++ opY l (inP l c m) x y (v * l) ∧ v ≤ l ∧ q = l - v ∧ E' = aput (aput E0 29 (I v)) 3 (.nm H.length ver 0 L3.length) ∧ H' = H ++ [⟨ver, 80, 4, L3.flatten.map I⟩]) l ⟨0, ver, L2, by simp [opY], by omega, by omega, rfl, rfl⟩ ?_
      rintro q E' H' ⟨v, ver, L3, hL3, hv, rfl, rfl, rfl⟩
      simp (config := { maxSteps := 1000000 }) (disch := (first | omega | (simp only [go_sem]; try omega))) only [go_sem, Nat.reduceAdd, Nat.reduceEqDiff, Nat.reduceLeDiff, Nat.reduceMul, Nat.reduceLT, reduceIte, Int.reduceToNat, w64_id, cast_succ]
      repeat (first | (with_reducible first | refine SW.seq ?_ | refine SW.block ?_ | refine SW.rowC ?_ | refine SW.skip ?_ | refine SW.exit ?_ | intro _ | refine And.intro (by omega) ?_) | simp (config := { maxSteps := 1000000 }) (disch := (first | omega | (simp only [go_sem]; try omega))) only [go_sem, Nat.reduceAdd, Nat.reduceEqDiff, Nat.reduceLeDiff, Nat.reduceMul, Nat.reduceLT, reduceIte, Int.reduceToNat, w64_id, cast_succ, pc_ld (happ _), pc_alive (happ _)])
      (first | refine SW.condD rfl (fun h3 => ?_) (fun h3 => ?_) | refine SW.condN rfl (fun h3 => ?_) (fun h3 => ?_) | refine SW.condNB rfl (fun h3 => ?_) (fun h3 => ?_) | refine SW.condB rfl (fun h3 => ?_) (fun h3 => ?_))
      · have hvl : v < l := by omega
        repeat (first | (with_reducible first | refine SW.seq ?_ | refine SW.block ?_ | refine SW.rowC ?_ | refine SW.skip ?_ | refine SW.exit ?_ | intro _ | refine And.intro (by omega) ?_) | simp (config := { maxSteps := 1000000 }) (disch := (first | omega | (simp only [go_sem]; try omega))) only [go_sem, Nat.reduceAdd, Nat.reduceEqDiff, Nat.reduceLeDiff, Nat.reduceMul, Nat.reduceLT, reduceIte, Int.reduceToNat, w64_id, cast_succ, pc_ld (happ _), pc_alive (happ _)])
        refine SW.loopE (fun E0 H0 q E' H' => ∃ (w ver : Nat) (L4 : List (List Int)), L4 = L2 ++ opY l (inP l c m) x y (v * l + w) ∧ w ≤ l ∧ q = l - w ∧ E' = aput (aput E0 36 (I w)) 3 (.nm H.length ver 0 L4.length) ∧ H' = H ++ [⟨ver, 80, 4, L4.flatten.map I⟩]) l ⟨0, ver, L3, by simpa using hL3, by omega, by omega, rfl, rfl⟩ ?_
        rintro q E' H' ⟨w, ver, L4, hL4, hw, rfl, rfl, rfl⟩
        simp (config := { maxSteps := 1000000 }) (disch := (first | omega | (simp only [go_sem]; try omega))) only [go_sem, Nat.reduceAdd, Nat.reduceEqDiff, Nat.reduceLeDiff, Nat.reduceMul, Nat.reduceLT, reduceIte, Int.reduceToNat, w64_id, cast_succ]
        repeat (first | (with_reducible first | refine SW.seq ?_ | refine SW.block ?_ | refine SW.rowC ?_ | refine SW.skip ?_ | refine SW.exit ?_ | intro _ | refine And.intro (by omega) ?_) | simp (config := { maxSteps := 1000000 }) (disch := (first | omega | (simp only [go_sem]; try omega))) only [go_sem, Nat.reduceAdd, Nat.reduceEqDiff, Nat.reduceLeDiff, Nat.reduceMul, Nat.reduceLT, reduceIte, Int.reduceToNat, w64_id, cast_succ, pc_ld (happ _), pc_alive (happ _)])
        (first | refine SW.condD rfl (fun h4 => ?_) (fun h4 => ?_) | refine SW.condN rfl (fun h4 => ?_) (fun h4 => ?_) | refine SW.condNB rfl (fun h4 => ?_) (fun h4 => ?_) | refine SW.condB rfl (fun h4 => ?_) (fun h4 => ?_))
        · have hwl : w < l := by omega
          repeat (first | (with_reducible first | refine SW.seq ?_ | refine SW.block ?_ | refine SW.rowC ?_ | refine SW.skip ?_ | refine SW.exit ?_ | intro _ | refine And.intro (by omega) ?_) | simp (config := { maxSteps := 1000000 }) (disch := (first | omega | (simp only [go_sem]; try omega))) only [go_sem, Nat.reduceAdd, Nat.reduceEqDiff, Nat.reduceLeDiff, Nat.reduceMul, Nat.reduceLT, reduceIte, Int.reduceToNat, w64_id, cast_succ, pc_ld (happ _), pc_alive (happ _)])
          have hat := at_bd hl hc (x := x) (y := y) (v := v) (w := w) (by omega) (by omega) (by omega) (by omega)
          refine QcallW.of (fun ext => at_ok _ p l c _ _ _ _ _ hl hc (by omega) (by omega) (by omega) (by omega) (get_appF (happ _) ext)) ?_
          have hin : inP l c m x y v w = m.contains (atI l c x y v w) := rfl
          generalize hz : atI l c x y v w = z at *
          have hlt : z < ((c * c * l * l : Nat) : Int) := by simp only [Int.natCast_mul]; exact hat.2.2.2.2
          have hmg := marks_get (c * c * l * l) m z (by omega) hlt
          have hci : ((marks (c * c * l * l) m).map Bv)[z.toNat]? = some (Bv (m.contains z)) := by
            rw [List.getElem?_map, List.getElem?_eq_getElem (by rw [marks_length]; omega), Option.map_some, ← hmg, List.getD_eq_getElem?_getD, List.getElem?_eq_getElem (by rw [marks_length]; omega)]; rfl
          repeat (first | (with_reducible first | refine SW.seq ?_ | refine SW.block ?_ | refine SW.rowC ?_ | refine SW.skip ?_ | refine SW.exit ?_ | intro _ | refine And.intro (by omega) ?_) | simp (config := { maxSteps := 1000000 }) (disch := (first | omega | (simp only [go_sem]; try omega))) only [go_sem, Nat.reduceAdd, Nat.reduceEqDiff, Nat.reduceLeDiff, Nat.reduceMul, Nat.reduceLT, reduceIte, Int.reduceToNat, w64_id, cast_succ, hvw _, ldc (hvw _) hci])
          (first | refine SW.condD rfl (fun h5 => ?_) (fun h5 => ?_) | refine SW.condN rfl (fun h5 => ?_) (fun h5 => ?_) | refine SW.condNB rfl (fun h5 => ?_) (fun h5 => ?_) | refine SW.condB rfl (fun h5 => ?_) (fun h5 => ?_))
          · have hnn : v * l + w ≤ 256 := by
              have := Nat.mul_le_mul (show v + 1 ≤ 16 by omega) hl
              rw [Nat.succ_mul] at this; omega
            have b1 := opTo_len l c (inP l c m) x hl hc (by omega)
            have b2 := opX_len l (inP l c m) x y hl (by omega)
            have b3 := opY_len l (inP l c m) x y (v * l + w)
            have hlen : L4.length ≤ 20000 := by rw [hL4, hL2, hL]; simp only [List.length_append]; omega
            have hfl : L4.flatten.length = L4.length * 4 := flat4 (by
              rw [hL4, hL2, hL]; intro q hq
              simp only [List.mem_append] at hq
              rcases hq with (hq | hq) | hq
              · exact opTo_4 _ _ _ _ q hq
              · exact opX_4 _ _ _ _ q hq
              · exact opY_4 _ _ _ _ _ q hq)
            have htk : (L4.flatten.map I).take (L4.length * 4) = L4.flatten.map I := List.take_of_length_le (by rw [List.length_map, hfl]; exact Nat.le_refl _)
            repeat (first | (with_reducible first | refine SW.seq ?_ | refine SW.block ?_ | refine SW.rowC ?_ | refine SW.skip ?_ | refine SW.exit ?_ | intro _ | refine And.intro (by omega) ?_) | simp (config := { maxSteps := 1000000 }) (disch := (first | omega | (simp only [go_sem]; try omega))) only [go_sem, Nat.reduceAdd, Nat.reduceEqDiff, Nat.reduceLeDiff, Nat.reduceMul, Nat.reduceLT, reduceIte, Int.reduceToNat, w64_id, cast_succ, hfl, htk, List.length_map, NmV_4])
            refine SLoop.nextT 1 (l - (w + 1)) hB (by omega) (by omega) (by simp) ?_ ?_ ⟨w + 1, ver + 1, L4 ++ [[(x : Int), y, v, w]], ?_, by omega, rfl, ?_, ?_⟩
            · (simp only [go_sem, Nat.reduceAdd, Nat.reduceEqDiff, reduceIte, go_sem, and_self, and_true, true_and, implies_true, List.take_succ_cons, List.take_zero, and_true, true_and]; try omega)
              have := (List.getElem?_eq_some_iff.1 hp).1
              omega
            · (simp only [go_sem, Nat.reduceAdd, Nat.reduceEqDiff, reduceIte, go_sem, and_self, and_true, true_and, implies_true, List.take_succ_cons, List.take_zero, and_true, true_and]; try omega)
              intro d hd
              rcases List.mem_append.1 hd with hd | hd
              · obtain ⟨z', _, rfl⟩ := List.mem_map.1 hd; exact .lit _
              · simp at hd; rcases hd with rfl | rfl | rfl | rfl <;> exact .lit _
            · rw [← Nat.add_assoc, opY_succ _ _ _ _ _ _ hwl, hL4, hin, if_neg (by simpa using h5)]; simp
            · simp [go_sem]
            · simp
          · repeat (first | (with_reducible first | refine SW.seq ?_ | refine SW.block ?_ | refine SW.rowC ?_ | refine SW.skip ?_ | refine SW.exit ?_ | intro _ | refine And.intro (by omega) ?_) | simp (config := { maxSteps := 1000000 }) (disch := (first | omega | (simp only [go_sem]; try omega))) only [go_sem, Nat.reduceAdd, Nat.reduceEqDiff, Nat.reduceLeDiff, Nat.reduceMul, Nat.reduceLT, reduceIte, Int.reduceToNat, w64_id, cast_succ])
            refine SLoop.next (l - (w + 1)) (by omega) ⟨w + 1, ver, L4, ?_, by omega, rfl, ?_, rfl⟩
            · rw [← Nat.add_assoc, opY_succ _ _ _ _ _ _ hwl, hL4, hin, if_pos (by simpa using h5)]; simp
            · simp [go_sem]
        · have : w = l := by omega
          subst this
          repeat (first | (with_reducible first | refine SW.seq ?_ | refine SW.block ?_ | refine SW.rowC ?_ | refine SW.skip ?_ | refine SW.exit ?_ | intro _ | refine And.intro (by omega) ?_) | simp (config := { maxSteps := 1000000 }) (disch := (first | omega | (simp only [go_sem]; try omega))) only [go_sem, Nat.reduceAdd, Nat.reduceEqDiff, Nat.reduceLeDiff, Nat.reduceMul, Nat.reduceLT, reduceIte, Int.reduceToNat, w64_id, cast_succ])
          refine SLoop.next (w - (v + 1)) (by omega) ⟨v + 1, ver, L4, by rw [hL4, Nat.succ_mul], by omega, rfl, ?_, rfl⟩
          simp [go_sem]
      · have : v = l := by omega
        subst this
        repeat (first | (with_reducible first | refine SW.seq ?_ | refine SW.block ?_ | refine SW.rowC ?_ | refine SW.skip ?_ | refine SW.exit ?_ | intro _ | refine And.intro (by omega) ?_) | simp (config := { maxSteps := 1000000 }) (disch := (first | omega | (simp only [go_sem]; try omega))) only [go_sem, Nat.reduceAdd, Nat.reduceEqDiff, Nat.reduceLeDiff, Nat.reduceMul, Nat.reduceLT, reduceIte, Int.reduceToNat, w64_id, cast_succ])
        refine SLoop.next (c - (y + 1)) (by omega) ⟨y + 1, ver, L3, by rw [hL3, hL2, opX_succ _ _ hy0, List.append_assoc], by omega, by omega, rfl, ?_, rfl⟩
        simp [go_sem]
    · have : y = c := by omega
      subst this
      repeat (first | (with_reducible first | refine SW.seq ?_ | refine SW.block ?_ | refine SW.rowC ?_ | refine SW.skip ?_ | refine SW.exit ?_ | intro _ | refine And.intro (by omega) ?_) | simp (config := { maxSteps := 1000000 }) (disch := (first | omega | (simp only [go_sem]; try omega))) only [go_sem, Nat.reduceAdd, Nat.reduceEqDiff, Nat.reduceLeDiff, Nat.reduceMul, Nat.reduceLT, reduceIte, Int.reduceToNat, w64_id, cast_succ])
      refine SLoop.next (y - (x + 1)) (by omega) ⟨x + 1, ver, L2, by rw [opTo_succ, ← hL, hL2], by omega, rfl, ?_, rfl⟩
      · simp [go_sem]
  · have : x = c := by omega
    subst this
    repeat (first | (with_reducible first | refine SW.seq ?_ | refine SW.block ?_ | refine SW.rowC ?_ | refine SW.skip ?_ | refine SW.exit ?_ | intro _ | refine And.intro (by omega) ?_) | simp (config := { maxSteps := 1000000 }) (disch := (first | omega | (simp only [go_sem]; try omega))) only [go_sem, Nat.reduceAdd, Nat.reduceEqDiff, Nat.reduceLeDiff, Nat.reduceMul, Nat.reduceLT, reduceIte, Int.reduceToNat, w64_id, cast_succ])
    refine SW.ret ?_; (try simp only [go_sem]); (first | refine FunPost.one ?_ | refine FunPost.two ?_ | refine FunPost.three ?_); (try simp (config := { maxSteps := 1000000 }) (disch := (first | omega | (simp only [go_sem]; try omega))) only [go_sem, Nat.reduceAdd, Nat.reduceEqDiff, Nat.reduceLeDiff, Nat.reduceMul, Nat.reduceLT, reduceIte, Int.reduceToNat, w64_id, cast_succ])
    refine GR.of ⟨_, _, _, by rw [opAll, ← hL], rfl, Nat.le_refl _, ?_⟩
    rw [opAll, ← hL]
    simp
end Go.Proofs.Ythogadbnddmkdaa
