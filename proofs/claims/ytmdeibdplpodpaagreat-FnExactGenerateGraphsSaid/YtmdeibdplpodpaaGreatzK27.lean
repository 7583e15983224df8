/- Sets that fit to a system. -/
import Derived.Test.YtmdeibdplpodpaaGreatzL8
import Derived.Test.YtmdeibdplpodpaaGreatProg
import Derived.KernelRfl
import Derived.Test.YtmdeibdplpodpaaGreatzK26
import Derived.Test.YtmdeibdplpodpaaGreatzK28
import Derived.Test.YtmdeibdplpodpaaGreatzK2
import Derived.Test.YtmdeibdplpodpaaGreatzM2
set_option linter.unusedSimpArgs false
set_option linter.unusedVariables false
set_option maxHeartbeats 4000000
set_option maxRecDepth 100000
namespace Go.Proofs.YtmdeibdplpodpaaGreat
open Go.Av
abbrev f_spec_l27More : Nat := 42
def c_spec_l27More : SC :=
 .seq (.reg [
     ⟨(some 8), .mv (.const (.slice none 0 0)), none⟩] [0, 1, 2, 3])
 (.seq (.reg [
     ⟨(some 12), .bslice 22 1 0 [] [], none⟩,
     ⟨(some 9), .mv (.tmp 12), none⟩] [0, 1, 2, 3, 9])
 (.seq (.seq (.reg [
     ⟨(some 10), .mv (.const (.int .i64 0)), none⟩] [0, 1, 2, 3, 9, 10])
 (.block 0 (.loop [0, 1, 2, 3, 9, 10]
   (.seq (.seq (.reg [
       ⟨(some 13), .mv (.tmp 10), none⟩,
       ⟨(some 14), .mv (.tmp 0), none⟩,
       ⟨(some 15), .mv (.tmp 2), none⟩,
       ⟨(some 16), .call 68 [(.tmp 14), (.tmp 15)], none⟩,
       ⟨(some 17), .bin .lss (.tmp 13) (.tmp 16), none⟩] [0, 1, 2, 3, 9, 10, 17])
   (.cond (.tmp 17)
    (.skip)
    (.exit 0)))
   (.seq (.block 1 (.seq (.reg [
        ⟨(some 20), .mv (.tmp 0), none⟩,
        ⟨(some 21), .mv (.tmp 2), none⟩,
        ⟨(some 22), .mv (.tmp 10), none⟩,
        ⟨(some 23), .call 69 [(.tmp 20), (.tmp 21), (.tmp 22)], none⟩,
        ⟨(some 11), .mv (.tmp 23), none⟩] [0, 1, 2, 3, 9, 10, 11])
    (.seq (.reg [
        ⟨(some 24), .mv (.tmp 1), none⟩,
        ⟨(some 25), .mv (.tmp 11), none⟩,
        ⟨(some 26), .mv (.tmp 3), none⟩,
        ⟨(some 27), .call 70 [(.tmp 24), (.tmp 25), (.tmp 26)], none⟩] [0, 1, 2, 3, 9, 10, 11, 27])
    (.cond (.tmp 27)
     (.reg [
         ⟨(some 28), .mv (.tmp 9), none⟩,
         ⟨(some 29), .mv (.tmp 11), none⟩,
         ⟨(some 30), .bslice 22 1 1 [(.slice none 0 0)] [(0, (.tmp 29))], none⟩,
         ⟨(some 31), .app 22 1 24 (.tmp 28) (.tmp 30), none⟩,
         ⟨(some 9), .mv (.tmp 31), none⟩] [0, 1, 2, 3, 9, 10])
     (.skip)))))
   (.reg [
       ⟨(some 18), .mv (.tmp 10), none⟩,
       ⟨(some 19), .bin .add (.tmp 18) (.const (.int .i64 1)), none⟩,
       ⟨(some 10), .mv (.tmp 19), none⟩] [0, 1, 2, 3, 9, 10]))))))
 (.seq (.reg [
     ⟨(some 32), .mv (.tmp 9), none⟩,
     ⟨(some 8), .mv (.tmp 32), none⟩] [8])
 (.ret))))
theorem s_spec_l27More : stripF Tryz.prog 42 [[0, 1, 2, 3], [0, 1, 2, 3, 9], [0, 1, 2, 3, 9, 10], [0, 1, 2, 3, 9, 10], [0, 1, 2, 3, 9, 10, 17], [0, 1, 2, 3, 9, 10, 11], [0, 1, 2, 3, 9, 10, 11, 27], [0, 1, 2, 3, 9, 10], [0, 1, 2, 3, 9, 10], [8]] = some (c_spec_l27More, [.tmp 8], 33) := by kernel_rfl
abbrev f_spec_l27Fits : Nat := 70
def c_spec_l27Fits : SC :=
 .seq (.reg [
     ⟨(some 6), .mv (.const (.bool false)), none⟩] [0, 1, 2])
 (.seq (.seq (.reg [
     ⟨(some 7), .mv (.const (.int .i64 0)), none⟩] [0, 1, 2, 7])
 (.block 0 (.loop [0, 1, 2, 7]
   (.seq (.seq (.reg [
       ⟨(some 8), .mv (.tmp 7), none⟩,
       ⟨(some 9), .mv (.tmp 0), none⟩,
       ⟨(some 10), .len (.tmp 9), none⟩,
       ⟨(some 11), .bin .lss (.tmp 8) (.tmp 10), none⟩] [0, 1, 2, 7, 11])
   (.cond (.tmp 11)
    (.skip)
    (.exit 0)))
   (.seq (.block 1 (.seq (.reg [
        ⟨(some 14), .mv (.tmp 0), none⟩,
        ⟨(some 15), .mv (.tmp 7), none⟩,
        ⟨(some 16), .iaddr 1 (.tmp 14) (.tmp 15), none⟩,
        ⟨(some 17), .load 1 false (.tmp 16), none⟩,
        ⟨(some 18), .mv (.tmp 1), none⟩,
        ⟨(some 19), .call 88 [(.tmp 17), (.tmp 18)], none⟩,
        ⟨(some 20), .mv (.tmp 19), none⟩,
        ⟨(some 21), .mv (.tmp 0), (some (20, false))⟩,
        ⟨(some 22), .mv (.tmp 7), (some (20, false))⟩,
        ⟨(some 23), .iaddr 1 (.tmp 21) (.tmp 22), (some (20, false))⟩,
        ⟨(some 24), .load 1 false (.tmp 23), (some (20, false))⟩,
        ⟨(some 25), .mv (.tmp 1), (some (20, false))⟩,
        ⟨(some 26), .call 106 [(.tmp 24), (.tmp 25), (.const (.bool true))], (some (20, false))⟩,
        ⟨(some 27), .len (.tmp 26), (some (20, false))⟩,
        ⟨(some 28), .mv (.tmp 2), (some (20, false))⟩,
        ⟨(some 29), .bin .gtr (.tmp 27) (.tmp 28), (some (20, false))⟩,
        ⟨(some 30), .pick (.tmp 20) (.const (.bool true)) (.tmp 29), none⟩] [0, 1, 2, 7, 30])
    (.cond (.tmp 30)
     (.seq (.reg [
         ⟨(some 6), .mv (.const (.bool false)), none⟩] [6])
     (.ret))
     (.skip))))
   (.reg [
       ⟨(some 12), .mv (.tmp 7), none⟩,
       ⟨(some 13), .bin .add (.tmp 12) (.const (.int .i64 1)), none⟩,
       ⟨(some 7), .mv (.tmp 13), none⟩] [0, 1, 2, 7]))))))
 (.seq (.reg [
     ⟨(some 6), .mv (.const (.bool true)), none⟩] [6])
 (.ret)))
theorem s_spec_l27Fits : stripF Tryz.prog 70 [[0, 1, 2], [0, 1, 2, 7], [0, 1, 2, 7], [0, 1, 2, 7, 11], [0, 1, 2, 7, 30], [6], [0, 1, 2, 7], [6]] = some (c_spec_l27Fits, [.tmp 6], 31) := by kernel_rfl
abbrev f_impl_extensions : Nat := 77
def c_impl_extensions : SC :=
 .seq (.reg [
     ⟨(some 7), .box 2 (.tmp 3), none⟩,
     ⟨(some 8), .mv (.const (.slice none 0 0)), none⟩] [0, 1, 2, 7])
 (.seq (.reg [
     ⟨(some 9), .mv (.const (.slice none 0 0)), none⟩] [0, 1, 2, 7, 9])
 (.seq (.seq (.reg [
     ⟨(some 12), .mv (.tmp 0), none⟩,
     ⟨(some 13), .mv (.tmp 2), none⟩,
     ⟨(some 14), .call 110 [(.tmp 12), (.tmp 13)], none⟩,
     ⟨(some 15), .len (.tmp 14), none⟩,
     ⟨(some 16), .mv (.const (.int .i64 0)), none⟩] [1, 7, 9, 14, 15, 16])
 (.block 0 (.loop [1, 7, 9, 14, 15, 16]
   (.seq (.reg [
       ⟨(some 17), .bin .lss (.tmp 16) (.tmp 15), none⟩] [1, 7, 9, 14, 15, 16, 17])
   (.seq (.cond (.tmp 17)
    (.skip)
    (.exit 0))
   (.seq (.block 1 (.seq (.reg [
        ⟨(some 18), .iaddr 1 (.tmp 14) (.tmp 16), none⟩,
        ⟨(some 19), .load 1 false (.tmp 18), none⟩,
        ⟨(some 11), .alloc 22 [(.slice none 0 0)], none⟩,
        ⟨none, .store 1 (.tmp 11) (.tmp 19), none⟩] [1, 7, 9, 11, 14, 15, 16])
    (.seq (.reg [
        ⟨(some 20), .mv (.tmp 1), none⟩,
        ⟨(some 21), .mkf 111 [(.tmp 11), (.tmp 7)], none⟩,
        ⟨(some 22), .call 93 [(.tmp 20), (.tmp 21)], none⟩,
        ⟨(some 23), .un .not (.tmp 22), none⟩] [1, 7, 9, 11, 14, 15, 16, 23])
    (.cond (.tmp 23)
     (.reg [
         ⟨(some 24), .mv (.tmp 9), none⟩,
         ⟨(some 25), .load 1 false (.tmp 11), none⟩,
         ⟨(some 26), .bslice 22 1 1 [(.slice none 0 0)] [(0, (.tmp 25))], none⟩,
         ⟨(some 27), .app 22 1 24 (.tmp 24) (.tmp 26), none⟩,
         ⟨(some 9), .mv (.tmp 27), none⟩] [1, 7, 9, 14, 15, 16])
     (.skip)))))
   (.reg [
       ⟨(some 28), .bin .add (.tmp 16) (.const (.int .i64 1)), none⟩,
       ⟨(some 16), .mv (.tmp 28), none⟩] [1, 7, 9, 14, 15, 16])))))))
 (.seq (.reg [
     ⟨(some 29), .mv (.tmp 9), none⟩,
     ⟨(some 8), .mv (.tmp 29), none⟩] [8])
 (.ret))))
theorem s_impl_extensions : stripF Tryz.prog 77 [[0, 1, 2, 7], [0, 1, 2, 7, 9], [1, 7, 9, 14, 15, 16], [1, 7, 9, 14, 15, 16], [1, 7, 9, 14, 15, 16, 17], [1, 7, 9, 11, 14, 15, 16], [1, 7, 9, 11, 14, 15, 16, 23], [1, 7, 9, 14, 15, 16], [1, 7, 9, 14, 15, 16], [8]] = some (c_impl_extensions, [.tmp 8], 30) := by kernel_rfl
abbrev f_spec_l01Both : Nat := 106
def c_spec_l01Both : SC :=
 .seq (.reg [
     ⟨(some 6), .mv (.const (.slice none 0 0)), none⟩] [0, 1, 2])
 (.seq (.seq (.reg [
     ⟨(some 9), .mv (.tmp 0), none⟩,
     ⟨(some 10), .call 137 [(.tmp 9)], none⟩,
     ⟨(some 11), .un .not (.tmp 10), none⟩,
     ⟨(some 12), .mv (.tmp 11), none⟩,
     ⟨(some 13), .mv (.tmp 1), (some (12, false))⟩,
     ⟨(some 14), .call 137 [(.tmp 13)], (some (12, false))⟩,
     ⟨(some 15), .un .not (.tmp 14), (some (12, false))⟩,
     ⟨(some 16), .pick (.tmp 12) (.const (.bool true)) (.tmp 15), none⟩] [0, 1, 2, 16])
 (.cond (.tmp 16)
  (.seq (.reg [
      ⟨(some 6), .mv (.const (.slice none 0 0)), none⟩] [6])
  (.ret))
  (.skip)))
 (.seq (.reg [
     ⟨(some 17), .bslice 2 1 0 [] [], none⟩,
     ⟨(some 7), .mv (.tmp 17), none⟩] [0, 1, 2, 7])
 (.seq (.seq (.reg [
     ⟨(some 8), .mv (.const (.int .i64 0)), none⟩] [0, 1, 2, 7, 8])
 (.block 0 (.loop [0, 1, 2, 7, 8]
   (.seq (.seq (.reg [
       ⟨(some 18), .mv (.tmp 8), none⟩,
       ⟨(some 19), .mv (.tmp 0), none⟩,
       ⟨(some 20), .len (.tmp 19), none⟩,
       ⟨(some 21), .bin .lss (.tmp 18) (.tmp 20), none⟩] [0, 1, 2, 7, 8, 21])
   (.cond (.tmp 21)
    (.skip)
    (.exit 0)))
   (.seq (.block 1 (.seq (.reg [
        ⟨(some 24), .mv (.tmp 1), none⟩,
        ⟨(some 25), .mv (.tmp 0), none⟩,
        ⟨(some 26), .mv (.tmp 8), none⟩,
        ⟨(some 27), .iaddr 1 (.tmp 25) (.tmp 26), none⟩,
        ⟨(some 28), .load 1 false (.tmp 27), none⟩,
        ⟨(some 29), .call 138 [(.tmp 24), (.tmp 28)], none⟩,
        ⟨(some 30), .mv (.tmp 2), none⟩,
        ⟨(some 31), .binb false (.tmp 29) (.tmp 30), none⟩] [0, 1, 2, 7, 8, 31])
    (.cond (.tmp 31)
     (.reg [
         ⟨(some 32), .mv (.tmp 7), none⟩,
         ⟨(some 33), .mv (.tmp 0), none⟩,
         ⟨(some 34), .mv (.tmp 8), none⟩,
         ⟨(some 35), .iaddr 1 (.tmp 33) (.tmp 34), none⟩,
         ⟨(some 36), .load 1 false (.tmp 35), none⟩,
         ⟨(some 37), .bslice 2 1 1 [(.int .i64 0)] [(0, (.tmp 36))], none⟩,
         ⟨(some 38), .app 2 1 8 (.tmp 32) (.tmp 37), none⟩,
         ⟨(some 7), .mv (.tmp 38), none⟩] [0, 1, 2, 7, 8])
     (.skip))))
   (.reg [
       ⟨(some 22), .mv (.tmp 8), none⟩,
       ⟨(some 23), .bin .add (.tmp 22) (.const (.int .i64 1)), none⟩,
       ⟨(some 8), .mv (.tmp 23), none⟩] [0, 1, 2, 7, 8]))))))
 (.seq (.reg [
     ⟨(some 39), .mv (.tmp 7), none⟩,
     ⟨(some 6), .mv (.tmp 39), none⟩] [6])
 (.ret)))))
theorem s_spec_l01Both : stripF Tryz.prog 106 [[0, 1, 2], [0, 1, 2, 16], [6], [0, 1, 2, 7], [0, 1, 2, 7, 8], [0, 1, 2, 7, 8], [0, 1, 2, 7, 8, 21], [0, 1, 2, 7, 8, 31], [0, 1, 2, 7, 8], [0, 1, 2, 7, 8], [6]] = some (c_spec_l01Both, [.tmp 6], 40) := by kernel_rfl
abbrev f_impl_extensions_c1 : Nat := 111
def c_impl_extensions_c1 : SC :=
 .seq (.reg [
     ⟨(some 4), .mv (.const (.bool false)), none⟩] [0, 1, 2])
 (.seq (.reg [
     ⟨(some 5), .mv (.tmp 0), none⟩,
     ⟨(some 6), .load 1 false (.tmp 1), none⟩,
     ⟨(some 7), .qcall 102 [(.tmp 5), (.tmp 6)], none⟩,
     ⟨(some 8), .mv (.tmp 7), none⟩,
     ⟨(some 9), .mv (.tmp 0), (some (8, false))⟩,
     ⟨(some 10), .load 1 false (.tmp 1), (some (8, false))⟩,
     ⟨(some 11), .qcall 112 [(.tmp 9), (.tmp 10)], (some (8, false))⟩,
     ⟨(some 12), .load 1 false (.tmp 2), (some (8, false))⟩,
     ⟨(some 13), .bin .gtr (.tmp 11) (.tmp 12), (some (8, false))⟩,
     ⟨(some 14), .pick (.tmp 8) (.const (.bool true)) (.tmp 13), none⟩,
     ⟨(some 4), .mv (.tmp 14), none⟩] [4])
 (.ret))
theorem s_impl_extensions_c1 : stripF Tryz.prog 111 [[0, 1, 2], [4]] = some (c_impl_extensions_c1, [.tmp 4], 15) := by kernel_rfl
abbrev f_impl_common : Nat := 112
def c_impl_common : SC :=
 .seq (.reg [
     ⟨(some 4), .mv (.const (.int .i64 0)), none⟩] [0, 1])
 (.seq (.reg [
     ⟨(some 5), .mv (.const (.int .i64 0)), none⟩] [0, 1, 5])
 (.seq (.seq (.reg [
     ⟨(some 8), .mv (.tmp 0), none⟩,
     ⟨(some 9), .len (.tmp 8), none⟩,
     ⟨(some 10), .mv (.const (.int .i64 0)), none⟩] [1, 5, 8, 9, 10])
 (.block 0 (.loop [1, 5, 8, 9, 10]
   (.seq (.reg [
       ⟨(some 11), .bin .lss (.tmp 10) (.tmp 9), none⟩] [1, 5, 8, 9, 10, 11])
   (.seq (.cond (.tmp 11)
    (.skip)
    (.exit 0))
   (.seq (.block 1 (.seq (.reg [
        ⟨(some 12), .iaddr 1 (.tmp 8) (.tmp 10), none⟩,
        ⟨(some 13), .load 1 false (.tmp 12), none⟩,
        ⟨(some 7), .mv (.tmp 13), none⟩] [1, 5, 7, 8, 9, 10])
    (.seq (.reg [
        ⟨(some 14), .mv (.tmp 1), none⟩,
        ⟨(some 15), .mv (.tmp 7), none⟩,
        ⟨(some 16), .call 142 [(.tmp 14), (.tmp 15)], none⟩] [1, 5, 8, 9, 10, 16])
    (.cond (.tmp 16)
     (.reg [
         ⟨(some 17), .mv (.tmp 5), none⟩,
         ⟨(some 18), .bin .add (.tmp 17) (.const (.int .i64 1)), none⟩,
         ⟨(some 5), .mv (.tmp 18), none⟩] [1, 5, 8, 9, 10])
     (.skip)))))
   (.reg [
       ⟨(some 19), .bin .add (.tmp 10) (.const (.int .i64 1)), none⟩,
       ⟨(some 10), .mv (.tmp 19), none⟩] [1, 5, 8, 9, 10])))))))
 (.seq (.reg [
     ⟨(some 20), .mv (.tmp 5), none⟩,
     ⟨(some 4), .mv (.tmp 20), none⟩] [4])
 (.ret))))
theorem s_impl_common : stripF Tryz.prog 112 [[0, 1], [0, 1, 5], [1, 5, 8, 9, 10], [1, 5, 8, 9, 10], [1, 5, 8, 9, 10, 11], [1, 5, 7, 8, 9, 10], [1, 5, 8, 9, 10, 16], [1, 5, 8, 9, 10], [1, 5, 8, 9, 10], [4]] = some (c_impl_common, [.tmp 4], 21) := by kernel_rfl
abbrev f_spec_l01Set : Nat := 137
def c_spec_l01Set : SC :=
 .seq (.reg [
     ⟨(some 2), .mv (.const (.bool false)), none⟩] [0])
 (.seq (.reg [
     ⟨(some 3), .mv (.tmp 0), none⟩,
     ⟨(some 4), .call 173 [(.tmp 3), (.const (.int .i64 0)), (.const (.int .i64 31))], none⟩,
     ⟨(some 2), .mv (.tmp 4), none⟩] [2])
 (.ret))
theorem s_spec_l01Set : stripF Tryz.prog 137 [[0], [2]] = some (c_spec_l01Set, [.tmp 2], 5) := by kernel_rfl
theorem slicesEqual_fnU (xs ys : List Int) : PFn Tryz.prog f_slices_Equal_Lint64_int64 [ilS xs, ilS ys] (Bv (decide (xs = ys))) := by
  intro H; refine ACalls.introB s_slices_Equal_Lint64_int64 (by simp) ?_; intro hB hA; unfold c_slices_Equal_Lint64_int64; simp (config := { maxSteps := 1000000 }) (disch := (first | omega | (simp only [go_sem]; try omega))) only [go_sem, Nat.reduceAdd, Nat.reduceEqDiff, Nat.reduceLeDiff, Nat.reduceMul, Nat.reduceLT, reduceIte, Int.reduceToNat, w64_id, cast_succ]
  repeat (first | (with_reducible first | refine SW.seq ?_ | refine SW.block ?_ | refine SW.rowC ?_ | refine SW.skip ?_ | refine SW.exit ?_ | intro _ | refine And.intro (by omega) ?_) | simp (config := { maxSteps := 1000000 }) (disch := (first | omega | (simp only [go_sem]; try omega))) only [go_sem, Nat.reduceAdd, Nat.reduceEqDiff, Nat.reduceLeDiff, Nat.reduceMul, Nat.reduceLT, reduceIte, Int.reduceToNat, w64_id, cast_succ])
  (first | refine SW.condD rfl (fun h0 => ?_) (fun h0 => ?_) | refine SW.condN rfl (fun h0 => ?_) (fun h0 => ?_) | refine SW.condNB rfl (fun h0 => ?_) (fun h0 => ?_) | refine SW.condB rfl (fun h0 => ?_) (fun h0 => ?_))
  · repeat (first | (with_reducible first | refine SW.seq ?_ | refine SW.block ?_ | refine SW.rowC ?_ | refine SW.skip ?_ | refine SW.exit ?_ | intro _ | refine And.intro (by omega) ?_) | simp (config := { maxSteps := 1000000 }) (disch := (first | omega | (simp only [go_sem]; try omega))) only [go_sem, Nat.reduceAdd, Nat.reduceEqDiff, Nat.reduceLeDiff, Nat.reduceMul, Nat.reduceLT, reduceIte, Int.reduceToNat, w64_id, cast_succ])
    refine SW.ret ?_; (try simp only [go_sem]); (first | refine FunPost.one ?_ | refine FunPost.two ?_ | refine FunPost.three ?_); (try simp (config := { maxSteps := 1000000 }) (disch := (first | omega | (simp only [go_sem]; try omega))) only [go_sem, Nat.reduceAdd, Nat.reduceEqDiff, Nat.reduceLeDiff, Nat.reduceMul, Nat.reduceLT, reduceIte, Int.reduceToNat, w64_id, cast_succ]); (first | (with_reducible refine GR.drop ?_ ?_; (simp only [go_sem, and_self, and_true, true_and, implies_true, List.take_succ_cons, List.take_zero])) | refine GR.of ?_); refine ⟨?_, rfl⟩; (try with_reducible rfl)
    have : ¬ xs = ys := by rintro rfl; omega
    simp [this]
  have h0 : xs.length = ys.length := by omega
  repeat (first | (with_reducible first | refine SW.seq ?_ | refine SW.block ?_ | refine SW.rowC ?_ | refine SW.skip ?_ | refine SW.exit ?_ | intro _ | refine And.intro (by omega) ?_) | simp (config := { maxSteps := 1000000 }) (disch := (first | omega | (simp only [go_sem]; try omega))) only [go_sem, Nat.reduceAdd, Nat.reduceEqDiff, Nat.reduceLeDiff, Nat.reduceMul, Nat.reduceLT, reduceIte, Int.reduceToNat, w64_id, cast_succ])
  refine SW.loopE (fun E0 H0 q E' H' => ∃ (pre post : List Int), xs = pre ++ post ∧ q = post.length ∧ E' = aput E0 13 (I pre.length) ∧ H' = H0 ∧ ys.take pre.length = pre) xs.length ⟨[], xs, rfl, rfl, rfl, rfl, rfl⟩ ?_
  rintro q E' H' ⟨pre, post, hq, rfl, rfl, rfl, he⟩
  simp (config := { maxSteps := 1000000 }) (disch := (first | omega | (simp only [go_sem]; try omega))) only [go_sem, Nat.reduceAdd, Nat.reduceEqDiff, Nat.reduceLeDiff, Nat.reduceMul, Nat.reduceLT, reduceIte, Int.reduceToNat, w64_id, cast_succ]
  repeat (first | (with_reducible first | refine SW.seq ?_ | refine SW.block ?_ | refine SW.rowC ?_ | refine SW.skip ?_ | refine SW.exit ?_ | intro _ | refine And.intro (by omega) ?_) | simp (config := { maxSteps := 1000000 }) (disch := (first | omega | (simp only [go_sem]; try omega))) only [go_sem, Nat.reduceAdd, Nat.reduceEqDiff, Nat.reduceLeDiff, Nat.reduceMul, Nat.reduceLT, reduceIte, Int.reduceToNat, w64_id, cast_succ])
  (first | refine SW.condD rfl (fun h => ?_) (fun h => ?_) | refine SW.condN rfl (fun h => ?_) (fun h => ?_) | refine SW.condNB rfl (fun h => ?_) (fun h => ?_) | refine SW.condB rfl (fun h => ?_) (fun h => ?_))
  · obtain ⟨x, post, rfl, hg, -⟩ := consOf (d := 0) hq (by omega)
    have hlt : pre.length < ys.length := by rw [← h0, hq]; simp
    have ht : ys.take (pre.length + 1) = pre ++ [ys.getD pre.length 0] := by
      rw [List.take_add_one, he]; simp [List.getElem?_eq_getElem hlt]
    repeat (first | (with_reducible first | refine SW.seq ?_ | refine SW.block ?_ | refine SW.rowC ?_ | refine SW.skip ?_ | refine SW.exit ?_ | intro _ | refine And.intro (by omega) ?_) | simp (config := { maxSteps := 1000000 }) (disch := (first | omega | (simp only [go_sem]; try omega))) only [go_sem, Nat.reduceAdd, Nat.reduceEqDiff, Nat.reduceLeDiff, Nat.reduceMul, Nat.reduceLT, reduceIte, Int.reduceToNat, w64_id, cast_succ, hg])
    (first | refine SW.condD rfl (fun h2 => ?_) (fun h2 => ?_) | refine SW.condN rfl (fun h2 => ?_) (fun h2 => ?_) | refine SW.condNB rfl (fun h2 => ?_) (fun h2 => ?_) | refine SW.condB rfl (fun h2 => ?_) (fun h2 => ?_))
    · repeat (first | (with_reducible first | refine SW.seq ?_ | refine SW.block ?_ | refine SW.rowC ?_ | refine SW.skip ?_ | refine SW.exit ?_ | intro _ | refine And.intro (by omega) ?_) | simp (config := { maxSteps := 1000000 }) (disch := (first | omega | (simp only [go_sem]; try omega))) only [go_sem, Nat.reduceAdd, Nat.reduceEqDiff, Nat.reduceLeDiff, Nat.reduceMul, Nat.reduceLT, reduceIte, Int.reduceToNat, w64_id, cast_succ])
      refine SW.ret ?_; (try simp only [go_sem]); (first | refine FunPost.one ?_ | refine FunPost.two ?_ | refine FunPost.three ?_); (try simp (config := { maxSteps := 1000000 }) (disch := (first | omega | (simp only [go_sem]; try omega))) only [go_sem, Nat.reduceAdd, Nat.reduceEqDiff, Nat.reduceLeDiff, Nat.reduceMul, Nat.reduceLT, reduceIte, Int.reduceToNat, w64_id, cast_succ]); (first | (with_reducible refine GR.drop ?_ ?_; (simp only [go_sem, and_self, and_true, true_and, implies_true, List.take_succ_cons, List.take_zero])) | refine GR.of ?_); refine ⟨?_, rfl⟩; (try with_reducible rfl)
      refine congrArg Bv (decide_eq_false ?_).symm
      rintro rfl
      exact h2 hg.symm
    · repeat (first | (with_reducible first | refine SW.seq ?_ | refine SW.block ?_ | refine SW.rowC ?_ | refine SW.skip ?_ | refine SW.exit ?_ | intro _ | refine And.intro (by omega) ?_) | simp (config := { maxSteps := 1000000 }) (disch := (first | omega | (simp only [go_sem]; try omega))) only [go_sem, Nat.reduceAdd, Nat.reduceEqDiff, Nat.reduceLeDiff, Nat.reduceMul, Nat.reduceLT, reduceIte, Int.reduceToNat, w64_id, cast_succ])
      refine SLoop.next post.length (by simp) ⟨pre ++ [x], post, by simp [hq], rfl, ?_, rfl, ?_⟩
      · simp [go_sem]
      · rw [List.length_append, List.length_singleton, ht, h2]
  · obtain ⟨rfl, rfl⟩ := nilOf hq (by omega)
    repeat (first | (with_reducible first | refine SW.seq ?_ | refine SW.block ?_ | refine SW.rowC ?_ | refine SW.skip ?_ | refine SW.exit ?_ | intro _ | refine And.intro (by omega) ?_) | simp (config := { maxSteps := 1000000 }) (disch := (first | omega | (simp only [go_sem]; try omega))) only [go_sem, Nat.reduceAdd, Nat.reduceEqDiff, Nat.reduceLeDiff, Nat.reduceMul, Nat.reduceLT, reduceIte, Int.reduceToNat, w64_id, cast_succ])
    refine SW.ret ?_; (try simp only [go_sem]); (first | refine FunPost.one ?_ | refine FunPost.two ?_ | refine FunPost.three ?_); (try simp (config := { maxSteps := 1000000 }) (disch := (first | omega | (simp only [go_sem]; try omega))) only [go_sem, Nat.reduceAdd, Nat.reduceEqDiff, Nat.reduceLeDiff, Nat.reduceMul, Nat.reduceLT, reduceIte, Int.reduceToNat, w64_id, cast_succ]); (first | (with_reducible refine GR.drop ?_ ?_; (simp only [go_sem, and_self, and_true, true_and, implies_true, List.take_succ_cons, List.take_zero])) | refine GR.of ?_); refine ⟨?_, rfl⟩; (try with_reducible rfl)
    have : pre = ys := by rw [← he, h0, List.take_length]
    rw [decide_eq_true this]
theorem l00Same_fnU (xs ys : List Int) : PFn Tryz.prog f_spec_l00Same [ilS xs, ilS ys] (Bv (decide (xs = ys))) := fun H => eqS_of s_spec_l00Same H _ _ xs ys (rd_ilS _ _) (rd_ilS _ _)
theorem sqB_0K {v w k : Nat} {xss : List (List Int)} : (sqB v w k xss)[0]? = some ⟨v, 22, 1, nmsV w (k + 1) xss⟩ := rfl
def comm (a b : List Int) : Nat := a.countP b.contains
theorem common_fn (a b : List Int) (hl : a.length ≤ 1000000) : PFn Tryz.prog f_impl_common [ilS a, ilS b] (I (comm a b)) := by
  intro H; refine ACalls.introB s_impl_common (by simp) ?_; intro hB hA; unfold c_impl_common; simp (config := { maxSteps := 1000000 }) (disch := (first | omega | (simp only [go_sem]; try omega))) only [go_sem, Nat.reduceAdd, Nat.reduceEqDiff, Nat.reduceLeDiff, Nat.reduceMul, Nat.reduceLT, reduceIte, Int.reduceToNat, w64_id, cast_succ]
  repeat (first | (with_reducible first | refine SW.seq ?_ | refine SW.block ?_ | refine SW.rowC ?_ | refine SW.skip ?_ | refine SW.exit ?_ | intro _ | refine And.intro (by omega) ?_) | simp (config := { maxSteps := 1000000 }) (disch := (first | omega | (simp only [go_sem]; try omega))) only [go_sem, Nat.reduceAdd, Nat.reduceEqDiff, Nat.reduceLeDiff, Nat.reduceMul, Nat.reduceLT, reduceIte, Int.reduceToNat, w64_id, cast_succ])
  refine SW.loopE (fun E0 H0 q E' H' => ∃ (pre post : List Int), a = pre ++ post ∧ q = post.length ∧ E' = aput (aput E0 10 (I pre.length)) 5 (I (comm pre b)) ∧ H' = H0) a.length ⟨[], a, rfl, rfl, rfl, rfl⟩ ?_
  rintro q E' H' ⟨pre, post, hq, rfl, rfl, rfl⟩
  have hc : comm pre b ≤ 1000000 := by
    have h1 := List.countP_le_length (p := b.contains) (l := pre)
    have h2 : pre.length ≤ a.length := by rw [hq]; simp
    unfold comm; omega
  have hsn : ∀ x, comm (pre ++ [x]) b = comm pre b + (if b.contains x then 1 else 0) := by
    intro x; simp only [comm, List.countP_append, List.countP_singleton]
  generalize hcc : comm pre b = c at *
  simp (config := { maxSteps := 1000000 }) (disch := (first | omega | (simp only [go_sem]; try omega))) only [go_sem, Nat.reduceAdd, Nat.reduceEqDiff, Nat.reduceLeDiff, Nat.reduceMul, Nat.reduceLT, reduceIte, Int.reduceToNat, w64_id, cast_succ]
  repeat (first | (with_reducible first | refine SW.seq ?_ | refine SW.block ?_ | refine SW.rowC ?_ | refine SW.skip ?_ | refine SW.exit ?_ | intro _ | refine And.intro (by omega) ?_) | simp (config := { maxSteps := 1000000 }) (disch := (first | omega | (simp only [go_sem]; try omega))) only [go_sem, Nat.reduceAdd, Nat.reduceEqDiff, Nat.reduceLeDiff, Nat.reduceMul, Nat.reduceLT, reduceIte, Int.reduceToNat, w64_id, cast_succ])
  (first | refine SW.condD rfl (fun h => ?_) (fun h => ?_) | refine SW.condN rfl (fun h => ?_) (fun h => ?_) | refine SW.condNB rfl (fun h => ?_) (fun h => ?_) | refine SW.condB rfl (fun h => ?_) (fun h => ?_))
  · obtain ⟨x, post, rfl, hg, -⟩ := consOf (d := 0) hq (by omega)
    repeat (first | (with_reducible first | refine SW.seq ?_ | refine SW.block ?_ | refine SW.rowC ?_ | refine SW.skip ?_ | refine SW.exit ?_ | refine PFn.use (ContainsI_fn _ _) ?_ | refine PFn.useq (ContainsI_fn _ _) ?_ | intro _ | refine And.intro (by omega) ?_) | simp (config := { maxSteps := 1000000 }) (disch := (first | omega | (simp only [go_sem]; try omega))) only [go_sem, Nat.reduceAdd, Nat.reduceEqDiff, Nat.reduceLeDiff, Nat.reduceMul, Nat.reduceLT, reduceIte, Int.reduceToNat, w64_id, cast_succ, hg])
    (first | refine SW.condD rfl (fun h2 => ?_) (fun h2 => ?_) | refine SW.condN rfl (fun h2 => ?_) (fun h2 => ?_) | refine SW.condNB rfl (fun h2 => ?_) (fun h2 => ?_) | refine SW.condB rfl (fun h2 => ?_) (fun h2 => ?_))
    · repeat (first | (with_reducible first | refine SW.seq ?_ | refine SW.block ?_ | refine SW.rowC ?_ | refine SW.skip ?_ | refine SW.exit ?_ | intro _ | refine And.intro (by omega) ?_) | simp (config := { maxSteps := 1000000 }) (disch := (first | omega | (simp only [go_sem]; try omega))) only [go_sem, Nat.reduceAdd, Nat.reduceEqDiff, Nat.reduceLeDiff, Nat.reduceMul, Nat.reduceLT, reduceIte, Int.reduceToNat, w64_id, cast_succ])
      refine SLoop.next post.length (by simp) ⟨pre ++ [x], post, by simp [hq], rfl, ?_, rfl⟩
      rw [hsn, if_pos h2]; simp [go_sem]
    · repeat (first | (with_reducible first | refine SW.seq ?_ | refine SW.block ?_ | refine SW.rowC ?_ | refine SW.skip ?_ | refine SW.exit ?_ | intro _ | refine And.intro (by omega) ?_) | simp (config := { maxSteps := 1000000 }) (disch := (first | omega | (simp only [go_sem]; try omega))) only [go_sem, Nat.reduceAdd, Nat.reduceEqDiff, Nat.reduceLeDiff, Nat.reduceMul, Nat.reduceLT, reduceIte, Int.reduceToNat, w64_id, cast_succ])
      refine SLoop.next post.length (by simp) ⟨pre ++ [x], post, by simp [hq], rfl, ?_, rfl⟩
      rw [hsn, if_neg (by simpa using h2)]; simp [go_sem]
  · obtain ⟨rfl, rfl⟩ := nilOf hq (by omega)
    repeat (first | (with_reducible first | refine SW.seq ?_ | refine SW.block ?_ | refine SW.rowC ?_ | refine SW.skip ?_ | refine SW.exit ?_ | intro _ | refine And.intro (by omega) ?_) | simp (config := { maxSteps := 1000000 }) (disch := (first | omega | (simp only [go_sem]; try omega))) only [go_sem, Nat.reduceAdd, Nat.reduceEqDiff, Nat.reduceLeDiff, Nat.reduceMul, Nat.reduceLT, reduceIte, Int.reduceToNat, w64_id, cast_succ])
    refine SW.ret ?_; (try simp only [go_sem]); (first | refine FunPost.one ?_ | refine FunPost.two ?_ | refine FunPost.three ?_); (try simp (config := { maxSteps := 1000000 }) (disch := (first | omega | (simp only [go_sem]; try omega))) only [go_sem, Nat.reduceAdd, Nat.reduceEqDiff, Nat.reduceLeDiff, Nat.reduceMul, Nat.reduceLT, reduceIte, Int.reduceToNat, w64_id, cast_succ]); (first | (with_reducible refine GR.drop ?_ ?_; (simp only [go_sem, and_self, and_true, true_and, implies_true, List.take_succ_cons, List.take_zero])) | refine GR.of ?_); refine ⟨?_, rfl⟩; (try with_reducible rfl)
    rw [hcc]
def fitB (xss : List (List Int)) (s : Int) (set : List Int) : Bool := !xss.any fun b => decide (b = set) || decide (s < comm b set)
theorem ext_c1_ok (H : List Blk) (p1 p2 r : Nat) (b set : List Int) (s : Int) (hbl : b.length ≤ 1000000) (h1 : H[p1]? = some ⟨0, 22, 1, [.nm r 0 0 set.length]⟩) (hr : RdS H (.nm r 0 0 set.length) set) (h2 : H[p2]? = some ⟨0, 2, 1, [I s]⟩) :
    ACalls Tryz.prog f_impl_extensions_c1 [ilS b, .pc p1 0 0, .pc p2 0 0] H (fun r H' => r = Bv (decide (b = set) || decide (s < comm b set)) ∧ H' = H) := by
  refine ACalls.introB s_impl_extensions_c1 (by simp) ?_; intro hB hA; unfold c_impl_extensions_c1; simp (config := { maxSteps := 1000000 }) (disch := (first | omega | (simp only [go_sem]; try omega))) only [go_sem, Nat.reduceAdd, Nat.reduceEqDiff, Nat.reduceLeDiff, Nat.reduceMul, Nat.reduceLT, reduceIte, Int.reduceToNat, w64_id, cast_succ]
  repeat (first | (with_reducible first | refine SW.seq ?_ | refine SW.block ?_ | refine SW.rowC ?_ | refine SW.skip ?_ | refine SW.exit ?_ | intro _ | refine And.intro (by omega) ?_) | simp (config := { maxSteps := 1000000 }) (disch := (first | omega | (simp only [go_sem]; try omega))) only [go_sem, Nat.reduceAdd, Nat.reduceEqDiff, Nat.reduceLeDiff, Nat.reduceMul, Nat.reduceLT, reduceIte, Int.reduceToNat, w64_id, cast_succ, pc_ld h1, pc_alive h1])
  refine PFn.uselq (slicesEqual_fnU b set) (.cons (froz_ilS b) (.cons hr.froz0 .nil)) ?_
  repeat (first | (with_reducible first | refine SW.seq ?_ | refine SW.block ?_ | refine SW.rowC ?_ | refine SW.skip ?_ | refine SW.exit ?_ | intro _ | refine And.intro (by omega) ?_) | simp (config := { maxSteps := 1000000 }) (disch := (first | omega | (simp only [go_sem]; try omega))) only [go_sem, Nat.reduceAdd, Nat.reduceEqDiff, Nat.reduceLeDiff, Nat.reduceMul, Nat.reduceLT, reduceIte, Int.reduceToNat, w64_id, cast_succ, pc_ld h1, pc_alive h1, pc_ld h2, pc_alive h2])
  (first | refine GSplit.df (fun h => ?_) (fun h => ?_) | refine GSplit.dt (fun h => ?_) (fun h => ?_) | refine GSplit.ndf (fun h => ?_) (fun h => ?_) | refine GSplit.ndt (fun h => ?_) (fun h => ?_) | refine GSplit.nbf (fun h => ?_) (fun h => ?_) | refine GSplit.nbt (fun h => ?_) (fun h => ?_) | refine GSplit.bf (fun h => ?_) (fun h => ?_) | refine GSplit.bt (fun h => ?_) (fun h => ?_))
  · refine PFn.uselq (common_fn b set hbl) (.cons (froz_ilS b) (.cons hr.froz0 .nil)) ?_
    repeat (first | (with_reducible first | refine SW.seq ?_ | refine SW.block ?_ | refine SW.rowC ?_ | refine SW.skip ?_ | refine SW.exit ?_ | intro _ | refine And.intro (by omega) ?_) | simp (config := { maxSteps := 1000000 }) (disch := (first | omega | (simp only [go_sem]; try omega))) only [go_sem, Nat.reduceAdd, Nat.reduceEqDiff, Nat.reduceLeDiff, Nat.reduceMul, Nat.reduceLT, reduceIte, Int.reduceToNat, w64_id, cast_succ, pc_ld h2, pc_alive h2])
    refine SW.ret ?_; (try simp only [go_sem]); (first | refine FunPost.one ?_ | refine FunPost.two ?_ | refine FunPost.three ?_); (try simp (config := { maxSteps := 1000000 }) (disch := (first | omega | (simp only [go_sem]; try omega))) only [go_sem, Nat.reduceAdd, Nat.reduceEqDiff, Nat.reduceLeDiff, Nat.reduceMul, Nat.reduceLT, reduceIte, Int.reduceToNat, w64_id, cast_succ]); (first | (with_reducible refine GR.drop ?_ ?_; (simp only [go_sem, and_self, and_true, true_and, implies_true, List.take_succ_cons, List.take_zero])) | refine GR.of ?_); refine ⟨?_, rfl⟩; (try with_reducible rfl)
    rw [decide_eq_false h]; rfl
  · repeat (first | (with_reducible first | refine SW.seq ?_ | refine SW.block ?_ | refine SW.rowC ?_ | refine SW.skip ?_ | refine SW.exit ?_ | intro _ | refine And.intro (by omega) ?_) | simp (config := { maxSteps := 1000000 }) (disch := (first | omega | (simp only [go_sem]; try omega))) only [go_sem, Nat.reduceAdd, Nat.reduceEqDiff, Nat.reduceLeDiff, Nat.reduceMul, Nat.reduceLT, reduceIte, Int.reduceToNat, w64_id, cast_succ])
    refine SW.ret ?_; (try simp only [go_sem]); (first | refine FunPost.one ?_ | refine FunPost.two ?_ | refine FunPost.three ?_); (try simp (config := { maxSteps := 1000000 }) (disch := (first | omega | (simp only [go_sem]; try omega))) only [go_sem, Nat.reduceAdd, Nat.reduceEqDiff, Nat.reduceLeDiff, Nat.reduceMul, Nat.reduceLT, reduceIte, Int.reduceToNat, w64_id, cast_succ]); (first | (with_reducible refine GR.drop ?_ ?_; (simp only [go_sem, and_self, and_true, true_and, implies_true, List.take_succ_cons, List.take_zero])) | refine GR.of ?_); refine ⟨?_, rfl⟩; (try with_reducible rfl)
    rw [decide_eq_true h]; rfl
def kept (S : List (List Int)) (P : List Int → Bool) (i : Nat) : List Nat := (List.range i).filter fun j => P (S.getD j [])
theorem kept_succ (S : List (List Int)) (P : List Int → Bool) (i : Nat) : kept S P (i + 1) = kept S P i ++ (if P (S.getD i []) then [i] else []) := by
  unfold kept
  rw [List.range_succ, List.filter_append]
  congr 1
  cases h : P (S.getD i [])
  · rw [List.filter_cons_of_neg (by rw [h]; simp)]; rfl
  · rw [List.filter_cons_of_pos (by rw [h])]; rfl
theorem kept_map (S : List (List Int)) (P : List Int → Bool) : ∀ i, i ≤ S.length → (kept S P i).map (fun j => S.getD j []) = (S.take i).filter P
  | 0, _ => by simp [kept]
  | i + 1, h => by
    rw [kept_succ, List.map_append, kept_map S P i (by omega), List.take_add_one, List.filter_append]
    congr 1
    have e : S.getD i [] = S[i] := by simp [List.getElem?_eq_getElem (show i < S.length by omega)]
    rw [List.getElem?_eq_getElem (show i < S.length by omega), e]
    cases hp : P S[i]
    · simp [hp]
    · simp [hp, List.getElem?_eq_getElem (show i < S.length by omega)]
theorem kept_lt {S : List (List Int)} {P : List Int → Bool} {i j : Nat} (h : j ∈ kept S P i) : j < i := List.mem_range.1 (List.mem_filter.1 h).1
theorem kept_nodup (S : List (List Int)) (P : List Int → Bool) (i : Nat) : (kept S P i).Nodup := List.Pairwise.filter _ List.nodup_range
theorem kept_len (S : List (List Int)) (P : List Int → Bool) (i : Nat) : (kept S P i).length ≤ i := by
  have := List.length_filter_le (fun j => P (S.getD j [])) (List.range i)
  rwa [List.length_range] at this
theorem extensions_new (H : List Blk) (v : Nat) (xss : List (List Int)) (k : Nat) (s : Int) (hv : v ≤ 32) (hk : k ≤ 1000000) (hx : ∀ b ∈ xss, b.length ≤ 1000000) :
    ACalls Tryz.prog f_impl_extensions [I v, ilSS xss, I k, I s] H (fun r H' => ∃ ext, H' = H ++ ext ∧ OwnSS H' (Btw H.length H'.length) r ((subsN v k).filter (fitB xss s))) := by
  have hsq := fun H => allSubsets_sq2 H v k hv hk
  have hlen : ∀ t ∈ subsN v k, t.length = k := fun t ht => (subsL_mem v 0 k t ht).1
  have hsl : (subsN v k).length ≤ 4294967296 := by
    have h1 := ch_le v k
    have h2 : 2 ^ v ≤ 2 ^ 32 := Nat.pow_le_pow_right (by omega) hv
    unfold subsN; rw [subsL_len]; omega
  generalize subsN v k = S at *
  refine ACalls.introB s_impl_extensions (by simp) ?_; intro hB hA; unfold c_impl_extensions; simp (config := { maxSteps := 1000000 }) (disch := (first | omega | (simp only [go_sem]; try omega))) only [go_sem, Nat.reduceAdd, Nat.reduceEqDiff, Nat.reduceLeDiff, Nat.reduceMul, Nat.reduceLT, reduceIte, Int.reduceToNat, w64_id, cast_succ]
  refine SW.seq ?_; refine SW.rowC ?_; simp (config := { maxSteps := 1000000 }) (disch := (first | omega | (simp only [go_sem]; try omega))) only [go_sem, Nat.reduceAdd, Nat.reduceEqDiff, Nat.reduceLeDiff, Nat.reduceMul, Nat.reduceLT, reduceIte, Int.reduceToNat, w64_id, cast_succ]
  refine SW.seq ?_; refine SW.rowC ?_; simp (config := { maxSteps := 1000000 }) (disch := (first | omega | (simp only [go_sem]; try omega))) only [go_sem, Nat.reduceAdd, Nat.reduceEqDiff, Nat.reduceLeDiff, Nat.reduceMul, Nat.reduceLT, reduceIte, Int.reduceToNat, w64_id, cast_succ]
  refine SW.ghost (Gh.name 9 22 1 rfl) ?_
  repeat (first | (with_reducible first | refine SW.seq ?_ | refine SW.block ?_ | refine SW.rowC ?_ | refine SW.skip ?_ | refine SW.exit ?_ | intro _ | refine And.intro (by omega) ?_) | simp (config := { maxSteps := 1000000 }) (disch := (first | omega | (simp only [go_sem]; try omega))) only [go_sem, Nat.reduceAdd, Nat.reduceEqDiff, Nat.reduceLeDiff, Nat.reduceMul, Nat.reduceLT, reduceIte, Int.reduceToNat, w64_id, cast_succ])
  refine (hsq _).mono ?_
  rintro r H1 ⟨ver, rfl, rfl⟩
  repeat (first | (with_reducible first | refine SW.seq ?_ | refine SW.block ?_ | refine SW.rowC ?_ | refine SW.skip ?_ | refine SW.exit ?_ | intro _ | refine And.intro (by omega) ?_) | simp (config := { maxSteps := 1000000 }) (disch := (first | omega | (simp only [go_sem]; try omega))) only [go_sem, Nat.reduceAdd, Nat.reduceEqDiff, Nat.reduceLeDiff, Nat.reduceMul, Nat.reduceLT, reduceIte, Int.reduceToNat, w64_id, cast_succ, sqB_0K])
  refine SW.loopE (fun E0 H0 q E' H' => ∃ (i ver' : Nat), i ≤ S.length ∧ q = S.length - i ∧ E' = aput (aput E0 16 (I i)) 9 (.nm (H.length + 1) ver' 0 (kept S (fitB xss s) i).length) ∧ H' = H ++ (⟨0, 2, 1, [I s]⟩ :: ⟨ver', 22, 1, (kept S (fitB xss s) i).map fun j => .nm (H.length + 2 + (j + 1)) 0 0 k⟩ :: sqB ver 0 (H.length + 2) S)) S.length ⟨0, 0, by omega, by omega, rfl, rfl⟩ ?_
  rintro q E' H' ⟨i, ver', hi, rfl, rfl, rfl⟩
  have hkl := kept_len S (fitB xss s) i
  have hkn := kept_succ S (fitB xss s) i
  have hklt : ∀ j ∈ kept S (fitB xss s) i, j < i := fun j hj => kept_lt hj
  generalize hK : kept S (fitB xss s) i = K at *
  have hsqn := sqB_length ver 0 (H.length + 2) S
  have hnt : (nmsV 0 (H.length + 2 + 1) S).take S.length = nmsV 0 (H.length + 2 + 1) S := List.take_of_length_le (by rw [nmsV_length]; omega)
  simp (config := { maxSteps := 1000000 }) (disch := (first | omega | (simp only [go_sem]; try omega))) only [go_sem, Nat.reduceAdd, Nat.reduceEqDiff, Nat.reduceLeDiff, Nat.reduceMul, Nat.reduceLT, reduceIte, Int.reduceToNat, w64_id, cast_succ]
  repeat (first | (with_reducible first | refine SW.seq ?_ | refine SW.block ?_ | refine SW.rowC ?_ | refine SW.skip ?_ | refine SW.exit ?_ | intro _ | refine And.intro (by omega) ?_) | simp (config := { maxSteps := 1000000 }) (disch := (first | omega | (simp only [go_sem]; try omega))) only [go_sem, Nat.reduceAdd, Nat.reduceEqDiff, Nat.reduceLeDiff, Nat.reduceMul, Nat.reduceLT, reduceIte, Int.reduceToNat, w64_id, cast_succ])
  (first | refine SW.condD rfl (fun h => ?_) (fun h => ?_) | refine SW.condN rfl (fun h => ?_) (fun h => ?_) | refine SW.condNB rfl (fun h => ?_) (fun h => ?_) | refine SW.condB rfl (fun h => ?_) (fun h => ?_))
  · have hlt : i < S.length := by omega
    have hrow : (S.getD i []).length = k := hlen _ (by simp [List.getElem?_eq_getElem hlt])
    have hcell : (nmsV 0 (H.length + 2 + 1) S)[i]? = some (.nm (H.length + 2 + (i + 1)) 0 0 k) := by
      rw [nmsV_get, List.getElem?_eq_getElem hlt]
      have e : S[i].length = k := by rw [← hrow]; simp [List.getElem?_eq_getElem hlt]
      simp only [Option.map_some, e]
      rw [show H.length + 2 + 1 + i = H.length + 2 + (i + 1) by omega]
    refine SW.skip ?_
    simp (config := { maxSteps := 1000000 }) (disch := (first | omega | (simp only [go_sem]; try omega))) only [go_sem, Nat.reduceAdd, Nat.reduceEqDiff, Nat.reduceLeDiff, Nat.reduceMul, Nat.reduceLT, reduceIte, Int.reduceToNat, w64_id, cast_succ]
    refine SW.seq ?_; refine SW.block ?_; refine SW.seq ?_; refine SW.rowC ?_
    simp (config := { maxSteps := 1000000 }) (disch := (first | omega | (simp only [go_sem]; try omega))) only [go_sem, Nat.reduceAdd, Nat.reduceEqDiff, Nat.reduceLeDiff, Nat.reduceMul, Nat.reduceLT, reduceIte, Int.reduceToNat, w64_id, cast_succ, sqB_0K, hnt, hcell]
    have hp1 : (H ++ ⟨0, 2, 1, [I s]⟩ :: ⟨ver', 22, 1, K.map fun j => .nm (H.length + 2 + (j + 1)) 0 0 k⟩ :: (sqB ver 0 (H.length + 2) S ++ [(⟨0, 22, 1, [.nm (H.length + 2 + (i + 1)) 0 0 k]⟩ : Blk)]))[H.length + ((sqB ver 0 (H.length + 2) S).length + 1 + 1)]? = some ⟨0, 22, 1, [.nm (H.length + 2 + (i + 1)) 0 0 k]⟩ := by
      rw [List.getElem?_append_right (by omega), Nat.add_sub_cancel_left, List.getElem?_cons_succ, List.getElem?_cons_succ, List.getElem?_append_right (Nat.le_refl _), Nat.sub_self]; rfl
    have hp2 : (H ++ ⟨0, 2, 1, [I s]⟩ :: ⟨ver', 22, 1, K.map fun j => .nm (H.length + 2 + (j + 1)) 0 0 k⟩ :: (sqB ver 0 (H.length + 2) S ++ [(⟨0, 22, 1, [.nm (H.length + 2 + (i + 1)) 0 0 k]⟩ : Blk)]))[H.length]? = some ⟨0, 2, 1, [I s]⟩ := by simp
    have hrd : RdS (H ++ ⟨0, 2, 1, [I s]⟩ :: ⟨ver', 22, 1, K.map fun j => .nm (H.length + 2 + (j + 1)) 0 0 k⟩ :: (sqB ver 0 (H.length + 2) S ++ [(⟨0, 22, 1, [.nm (H.length + 2 + (i + 1)) 0 0 k]⟩ : Blk)])) (.nm (H.length + 2 + (i + 1)) 0 0 (S.getD i []).length) (S.getD i []) := by
      have := sq_row (Hb := H ++ [⟨0, 2, 1, [I s]⟩, ⟨ver', 22, 1, K.map fun j => .nm (H.length + 2 + (j + 1)) 0 0 k⟩]) (v := ver) (w := 0) (ext := [(⟨0, 22, 1, [.nm (H.length + 2 + (i + 1)) 0 0 k]⟩ : Blk)]) hlt
      simp only [List.length_append, List.length_cons, List.length_nil, Nat.zero_add, Nat.reduceAdd, List.append_assoc, List.cons_append, List.nil_append] at this
      rw [show H.length + 2 + 1 + i = H.length + 2 + (i + 1) by omega] at this
      exact this
    rw [hrow] at hrd
    have hcon := conSS_ok ilS _ (ilSS xss) xss rfl f_impl_extensions_c1 [.pc (H.length + ((sqB ver 0 (H.length + 2) S).length + 1 + 1)) 0 0, .pc H.length 0 0] (by kernel_rfl) (fun b => decide (b = S.getD i []) || decide (s < comm b (S.getD i []))) (fun b hb => ext_c1_ok _ _ _ (H.length + 2 + (i + 1)) b (S.getD i []) s (hx b hb) (by rw [hrow]; exact hp1) (by rw [hrow]; exact hrd) hp2)
    repeat (first | (with_reducible first | refine SW.seq ?_ | refine SW.block ?_ | refine SW.rowC ?_ | refine SW.skip ?_ | refine SW.exit ?_ | intro _ | refine And.intro (by omega) ?_) | simp (config := { maxSteps := 1000000 }) (disch := (first | omega | (simp only [go_sem]; try omega))) only [go_sem, Nat.reduceAdd, Nat.reduceEqDiff, Nat.reduceLeDiff, Nat.reduceMul, Nat.reduceLT, reduceIte, Int.reduceToNat, w64_id, cast_succ])
    refine hcon.mono ?_
    rintro r H1 ⟨rfl, rfl⟩
    have hsd : (sqB ver 0 (H.length + 2) S).length + 2 = S.length + 3 := by omega
    have hBB : BB (H.length + (S.length + 3)) (sqB ver 0 (H.length + 2) S) := sqB_BB (by omega)
    have hKB : ∀ K : List Nat, (∀ j ∈ K, j < S.length) → ∀ c ∈ K.map (fun j => AV.nm (H.length + 2 + (j + 1)) 0 0 k), Bel (H.length + (S.length + 3)) c := by
      intro K hK c hc
      obtain ⟨j, hj, rfl⟩ := List.mem_map.1 hc
      exact .nm _ _ _ _ (by have := hK j hj; omega)
    repeat (first | (with_reducible first | refine SW.seq ?_ | refine SW.block ?_ | refine SW.rowC ?_ | refine SW.skip ?_ | refine SW.exit ?_ | intro _ | refine And.intro (by omega) ?_) | simp (config := { maxSteps := 1000000 }) (disch := (first | omega | (simp only [go_sem]; try omega))) only [go_sem, Nat.reduceAdd, Nat.reduceEqDiff, Nat.reduceLeDiff, Nat.reduceMul, Nat.reduceLT, reduceIte, Int.reduceToNat, w64_id, cast_succ])
    rw [show (!xss.any fun b => decide (b = S.getD i []) || decide (s < comm b (S.getD i []))) = fitB xss s (S.getD i []) from rfl]
    have hT : (K.map fun j => AV.nm (H.length + 2 + (j + 1)) 0 0 k).take K.length = K.map fun j => AV.nm (H.length + 2 + (j + 1)) 0 0 k := List.take_of_length_le (by simp)
    cases hf : fitB xss s (S.getD i [])
    · refine SW.condF rfl ?_
      rw [hf, if_neg (by simp), List.append_nil] at hkn
      repeat (first | (with_reducible first | refine SW.seq ?_ | refine SW.block ?_ | refine SW.rowC ?_ | refine SW.skip ?_ | refine SW.exit ?_ | intro _ | refine And.intro (by omega) ?_) | simp (config := { maxSteps := 1000000 }) (disch := (first | omega | (simp only [go_sem]; try omega))) only [go_sem, Nat.reduceAdd, Nat.reduceEqDiff, Nat.reduceLeDiff, Nat.reduceMul, Nat.reduceLT, reduceIte, Int.reduceToNat, w64_id, cast_succ])
      refine SLoop.nextE (L := ⟨0, 2, 1, [I s]⟩ :: ⟨ver', 22, 1, K.map fun j => .nm (H.length + 2 + (j + 1)) 0 0 k⟩ :: sqB ver 0 (H.length + 2) S) (S.length - (i + 1)) ⟨_, rfl⟩ hB (by omega) (by omega) ?_ ?_ ⟨i + 1, ver', by omega, rfl, ?_, by rw [hkn]⟩
      · simp only [List.length_cons, hsqn]
        (simp only [go_sem, Nat.reduceAdd, Nat.reduceEqDiff, reduceIte, go_sem, and_self, and_true, true_and, implies_true, List.take_succ_cons, List.take_zero, and_true, true_and]; try omega)
      · simp only [List.length_cons, hsqn]
        rw [BB_cons, BB_cons]
        exact ⟨by simp only [go_sem], hKB K (fun j hj => by have := hklt j hj; omega), hBB⟩
      · rw [hkn]; simp [go_sem]
    · refine SW.condT rfl ?_
      rw [hf, if_pos rfl] at hkn
      have hp1' := pc_ld hp1 (off := 0)
      refine SW.rowC ?_
      simp (config := { maxSteps := 1000000 }) (disch := (first | omega | (simp only [go_sem]; try omega))) only [go_sem, Nat.reduceAdd, Nat.reduceEqDiff, Nat.reduceLeDiff, Nat.reduceMul, Nat.reduceLT, reduceIte, Int.reduceToNat, w64_id, cast_succ, pc_ld hp1, hT]
      have hm : (K.map fun j => AV.nm (H.length + 2 + (j + 1)) 0 0 k) ++ [AV.nm (H.length + 2 + (i + 1)) 0 0 k] = (K ++ [i]).map fun j => AV.nm (H.length + 2 + (j + 1)) 0 0 k := by simp
      rw [hm]
      repeat (first | (with_reducible first | refine SW.seq ?_ | refine SW.block ?_ | refine SW.rowC ?_ | refine SW.skip ?_ | refine SW.exit ?_ | intro _ | refine And.intro (by omega) ?_) | simp (config := { maxSteps := 1000000 }) (disch := (first | omega | (simp only [go_sem]; try omega))) only [go_sem, Nat.reduceAdd, Nat.reduceEqDiff, Nat.reduceLeDiff, Nat.reduceMul, Nat.reduceLT, reduceIte, Int.reduceToNat, w64_id, cast_succ])
      refine SLoop.nextE (L := ⟨0, 2, 1, [I s]⟩ :: ⟨ver' + 1, 22, 1, (K ++ [i]).map fun j => .nm (H.length + 2 + (j + 1)) 0 0 k⟩ :: sqB ver 0 (H.length + 2) S) (S.length - (i + 1)) ⟨_, rfl⟩ hB (by omega) (by omega) ?_ ?_ ⟨i + 1, ver' + 1, by omega, rfl, ?_, by rw [hkn]⟩
      · simp only [List.length_cons, hsqn]
        (simp only [go_sem, Nat.reduceAdd, Nat.reduceEqDiff, reduceIte, go_sem, and_self, and_true, true_and, implies_true, List.take_succ_cons, List.take_zero, and_true, true_and]; try omega)
      · simp only [List.length_cons, hsqn]
        rw [BB_cons, BB_cons]
        exact ⟨by simp only [go_sem], hKB (K ++ [i]) (fun j hj => by
          rcases List.mem_append.1 hj with hj | hj
          · have := hklt j hj; omega
          · rw [List.mem_singleton.1 hj]; exact hlt), hBB⟩
      · rw [hkn]; simp [go_sem]
  · have : i = S.length := by omega
    subst this
    have hmap := kept_map S (fitB xss s) S.length (Nat.le_refl _)
    rw [hK, List.take_length] at hmap
    have hnd := kept_nodup S (fitB xss s) S.length
    rw [hK] at hnd
    repeat (first | (with_reducible first | refine SW.seq ?_ | refine SW.block ?_ | refine SW.rowC ?_ | refine SW.skip ?_ | refine SW.exit ?_ | intro _ | refine And.intro (by omega) ?_) | simp (config := { maxSteps := 1000000 }) (disch := (first | omega | (simp only [go_sem]; try omega))) only [go_sem, Nat.reduceAdd, Nat.reduceEqDiff, Nat.reduceLeDiff, Nat.reduceMul, Nat.reduceLT, reduceIte, Int.reduceToNat, w64_id, cast_succ])
    refine SW.ret ?_; (try simp only [go_sem]); (first | refine FunPost.one ?_ | refine FunPost.two ?_ | refine FunPost.three ?_); (try simp (config := { maxSteps := 1000000 }) (disch := (first | omega | (simp only [go_sem]; try omega))) only [go_sem, Nat.reduceAdd, Nat.reduceEqDiff, Nat.reduceLeDiff, Nat.reduceMul, Nat.reduceLT, reduceIte, Int.reduceToNat, w64_id, cast_succ])
    refine GR.of ⟨_, rfl, ?_⟩
    rw [← hmap]
    refine .inl ⟨H.length + 1, ver', 22, K.map fun j => .nm (H.length + 2 + (j + 1)) 0 0 k, by simp, ⟨by omega, by simp⟩, by simp, by simp, ?_, ?_⟩
    · intro j c xs hc hxs
      rw [List.getElem?_map] at hc hxs
      cases hkj : K[j]? with
      | none => rw [hkj] at hc; cases hc
      | some m =>
        rw [hkj] at hc hxs
        simp only [Option.map_some, Option.some.injEq] at hc hxs
        have hm := hklt m (List.mem_of_getElem? hkj)
        have hrl : (S.getD m []).length = k := hlen _ (by simp [List.getElem?_eq_getElem hm])
        subst hc; subst hxs
        refine .inl ⟨H.length + 2 + (m + 1), 0, 2, by rw [hrl], ⟨by omega, by simp [hsqn]; omega⟩, by omega, ?_⟩
        have := sq_get (Hb := H ++ [⟨0, 2, 1, [I s]⟩, ⟨ver', 22, 1, K.map fun j => .nm (H.length + 2 + (j + 1)) 0 0 k⟩]) (v := ver) (w := 0) (ext := []) hm
        simp only [List.length_append, List.length_cons, List.length_nil, Nat.zero_add, Nat.reduceAdd, List.append_assoc, List.cons_append, List.nil_append, List.append_nil] at this
        rw [show H.length + 2 + 1 + m = H.length + 2 + (m + 1) by omega] at this
        exact this
    · intro a b r v1 o1 l1 v2 o2 l2 hab ha hb
      rw [List.getElem?_map] at ha hb
      cases hka : K[a]? with
      | none => rw [hka] at ha; cases ha
      | some x =>
        cases hkb : K[b]? with
        | none => rw [hkb] at hb; cases hb
        | some y =>
          rw [hka] at ha; rw [hkb] at hb
          simp only [Option.map_some, Option.some.injEq, AV.nm.injEq] at ha hb
          have hxy : x = y := by omega
          subst hxy
          obtain ⟨l1, e1⟩ := List.getElem?_eq_some_iff.1 hka
          obtain ⟨l2, e2⟩ := List.getElem?_eq_some_iff.1 hkb
          have hpw := List.pairwise_iff_getElem.1 hnd
          rcases Nat.lt_or_gt_of_ne hab with h3 | h3
          · exact hpw a b l1 l2 h3 (e1.trans e2.symm)
          · exact hpw b a l2 l1 h3 (e2.trans e1.symm)
theorem l01Set_fn (xs : List Int) (hx : ∀ x ∈ xs, (Lit.int .i64 x).wf = true) : PFn Tryz.prog f_spec_l01Set [ilS xs] (Bv (asc 0 31 xs)) := by
  intro H; refine ACalls.introB s_spec_l01Set (by simp) ?_; intro hB hA; unfold c_spec_l01Set; simp (config := { maxSteps := 1000000 }) (disch := (first | omega | (simp only [go_sem]; try omega))) only [go_sem, Nat.reduceAdd, Nat.reduceEqDiff, Nat.reduceLeDiff, Nat.reduceMul, Nat.reduceLT, reduceIte, Int.reduceToNat, w64_id, cast_succ]
  repeat (first | (with_reducible first | refine SW.seq ?_ | refine SW.block ?_ | refine SW.rowC ?_ | refine SW.skip ?_ | refine SW.exit ?_ | refine PFn.use (l00Rises_fn xs 0 31 hx) ?_ | refine PFn.useq (l00Rises_fn xs 0 31 hx) ?_ | intro _ | refine And.intro (by omega) ?_) | simp (config := { maxSteps := 1000000 }) (disch := (first | omega | (simp only [go_sem]; try omega))) only [go_sem, Nat.reduceAdd, Nat.reduceEqDiff, Nat.reduceLeDiff, Nat.reduceMul, Nat.reduceLT, reduceIte, Int.reduceToNat, w64_id, cast_succ])
  refine SW.ret ?_; (try simp only [go_sem]); (first | refine FunPost.one ?_ | refine FunPost.two ?_ | refine FunPost.three ?_); (try simp (config := { maxSteps := 1000000 }) (disch := (first | omega | (simp only [go_sem]; try omega))) only [go_sem, Nat.reduceAdd, Nat.reduceEqDiff, Nat.reduceLeDiff, Nat.reduceMul, Nat.reduceLT, reduceIte, Int.reduceToNat, w64_id, cast_succ]); (first | (with_reducible refine GR.drop ?_ ?_; (simp only [go_sem, and_self, and_true, true_and, implies_true, List.take_succ_cons, List.take_zero])) | refine GR.of ?_); refine ⟨?_, rfl⟩; (try with_reducible rfl)
theorem wfOf {x : Int} (h : -9223372036854775808 ≤ x ∧ x ≤ 9223372036854775807) : (Lit.int .i64 x).wf = true := by
  simp [Lit.wf, IntKind.min, IntKind.max, IntKind.signed, IntKind.bits]
  omega
theorem wfAsc {l : List Int} {n : Int} (h0 : n ≤ 1000) (hl : asc 0 n l = true) : ∀ x ∈ l, (Lit.int .i64 x).wf = true := fun x hx => by
  have := asc_mem hl x hx
  exact wfOf (by omega)
theorem asc_weak : ∀ {l : List Int} {lo hi hi' : Int}, hi ≤ hi' → asc lo hi l = true → asc lo hi' l = true
  | [], _, _, _, _, _ => rfl
  | x :: l, lo, hi, hi', hh, h => by
    simp only [asc, Bool.and_eq_true, decide_eq_true_eq] at h ⊢
    exact ⟨⟨h.1.1, by omega⟩, asc_weak hh h.2⟩
theorem l01Both_fn (a b : List Int) (h1 : asc 0 31 a = true) (h2 : asc 0 31 b = true) : PFn Tryz.prog f_spec_l01Both [ilS a, ilS b, Bv true] (ilS (a.filter b.contains)) := by
  have hs1 := l01Set_fn a (wfAsc (by omega) h1)
  have hs2 := l01Set_fn b (wfAsc (by omega) h2)
  rw [h1] at hs1
  rw [h2] at hs2
  have hal : a.length ≤ 32 := by rcases asc_len h1 with h | h <;> simp_all; omega
  intro H; refine ACalls.introB s_spec_l01Both (by simp) ?_; intro hB hA; unfold c_spec_l01Both; simp (config := { maxSteps := 1000000 }) (disch := (first | omega | (simp only [go_sem]; try omega))) only [go_sem, Nat.reduceAdd, Nat.reduceEqDiff, Nat.reduceLeDiff, Nat.reduceMul, Nat.reduceLT, reduceIte, Int.reduceToNat, w64_id, cast_succ]
  repeat (first | (with_reducible first | refine SW.seq ?_ | refine SW.block ?_ | refine SW.rowC ?_ | refine SW.skip ?_ | refine SW.exit ?_ | refine PFn.use (hs1) ?_ | refine PFn.useq (hs1) ?_ | refine PFn.use (hs2) ?_ | refine PFn.useq (hs2) ?_ | intro _ | refine And.intro (by omega) ?_) | simp (config := { maxSteps := 1000000 }) (disch := (first | omega | (simp only [go_sem]; try omega))) only [go_sem, Nat.reduceAdd, Nat.reduceEqDiff, Nat.reduceLeDiff, Nat.reduceMul, Nat.reduceLT, reduceIte, Int.reduceToNat, w64_id, cast_succ])
  refine SW.condF rfl ?_
  repeat (first | (with_reducible first | refine SW.seq ?_ | refine SW.block ?_ | refine SW.rowC ?_ | refine SW.skip ?_ | refine SW.exit ?_ | intro _ | refine And.intro (by omega) ?_) | simp (config := { maxSteps := 1000000 }) (disch := (first | omega | (simp only [go_sem]; try omega))) only [go_sem, Nat.reduceAdd, Nat.reduceEqDiff, Nat.reduceLeDiff, Nat.reduceMul, Nat.reduceLT, reduceIte, Int.reduceToNat, w64_id, cast_succ])
  refine SW.loopE (fun E0 H0 q E' H' => ∃ (pre post : List Int) (ver : Nat), a = pre ++ post ∧ q = post.length ∧ E' = aput (aput E0 8 (I pre.length)) 7 (.nm H.length ver 0 (pre.filter b.contains).length) ∧ H' = H ++ [⟨ver, 2, 1, (pre.filter b.contains).map I⟩]) a.length ⟨[], a, 0, rfl, rfl, rfl, rfl⟩ ?_
  rintro q E' H' ⟨pre, post, ver, hq, rfl, rfl, rfl⟩
  have hfl := List.length_filter_le b.contains pre
  have hpl : pre.length ≤ a.length := by rw [hq]; simp
  have hsn : ∀ x, (pre ++ [x]).filter b.contains = pre.filter b.contains ++ (if b.contains x then [x] else []) := by
    intro x; rw [List.filter_append, List.filter_cons, List.filter_nil]
  generalize hF : pre.filter b.contains = F at *
  simp (config := { maxSteps := 1000000 }) (disch := (first | omega | (simp only [go_sem]; try omega))) only [go_sem, Nat.reduceAdd, Nat.reduceEqDiff, Nat.reduceLeDiff, Nat.reduceMul, Nat.reduceLT, reduceIte, Int.reduceToNat, w64_id, cast_succ]
  repeat (first | (with_reducible first | refine SW.seq ?_ | refine SW.block ?_ | refine SW.rowC ?_ | refine SW.skip ?_ | refine SW.exit ?_ | intro _ | refine And.intro (by omega) ?_) | simp (config := { maxSteps := 1000000 }) (disch := (first | omega | (simp only [go_sem]; try omega))) only [go_sem, Nat.reduceAdd, Nat.reduceEqDiff, Nat.reduceLeDiff, Nat.reduceMul, Nat.reduceLT, reduceIte, Int.reduceToNat, w64_id, cast_succ])
  (first | refine SW.condD rfl (fun h => ?_) (fun h => ?_) | refine SW.condN rfl (fun h => ?_) (fun h => ?_) | refine SW.condNB rfl (fun h => ?_) (fun h => ?_) | refine SW.condB rfl (fun h => ?_) (fun h => ?_))
  · obtain ⟨x, post, rfl, hg, -⟩ := consOf (d := 0) hq (by omega)
    repeat (first | (with_reducible first | refine SW.seq ?_ | refine SW.block ?_ | refine SW.rowC ?_ | refine SW.skip ?_ | refine SW.exit ?_ | refine PFn.use (l00Has_fn _ _) ?_ | refine PFn.useq (l00Has_fn _ _) ?_ | intro _ | refine And.intro (by omega) ?_) | simp (config := { maxSteps := 1000000 }) (disch := (first | omega | (simp only [go_sem]; try omega))) only [go_sem, Nat.reduceAdd, Nat.reduceEqDiff, Nat.reduceLeDiff, Nat.reduceMul, Nat.reduceLT, reduceIte, Int.reduceToNat, w64_id, cast_succ, hg])
    cases hc : b.contains x
    · refine SW.condF (by simp [go_sem]) ?_
      repeat (first | (with_reducible first | refine SW.seq ?_ | refine SW.block ?_ | refine SW.rowC ?_ | refine SW.skip ?_ | refine SW.exit ?_ | intro _ | refine And.intro (by omega) ?_) | simp (config := { maxSteps := 1000000 }) (disch := (first | omega | (simp only [go_sem]; try omega))) only [go_sem, Nat.reduceAdd, Nat.reduceEqDiff, Nat.reduceLeDiff, Nat.reduceMul, Nat.reduceLT, reduceIte, Int.reduceToNat, w64_id, cast_succ])
      refine SLoop.next post.length (by simp) ⟨pre ++ [x], post, ver, by simp [hq], rfl, ?_, ?_⟩
      · rw [hsn, hc]; simp [go_sem]
      · rw [hsn, hc]; simp
    · refine SW.condT (by simp [go_sem]) ?_
      repeat (first | (with_reducible first | refine SW.seq ?_ | refine SW.block ?_ | refine SW.rowC ?_ | refine SW.skip ?_ | refine SW.exit ?_ | intro _ | refine And.intro (by omega) ?_) | simp (config := { maxSteps := 1000000 }) (disch := (first | omega | (simp only [go_sem]; try omega))) only [go_sem, Nat.reduceAdd, Nat.reduceEqDiff, Nat.reduceLeDiff, Nat.reduceMul, Nat.reduceLT, reduceIte, Int.reduceToNat, w64_id, cast_succ, hg])
      refine SLoop.nextT 1 post.length hB (by omega) (by simp) (by simp) ?_ ?_ ⟨pre ++ [x], post, ver + 1, by simp [hq], rfl, ?_, ?_⟩
      · (simp only [go_sem, Nat.reduceAdd, Nat.reduceEqDiff, reduceIte, go_sem, and_self, and_true, true_and, implies_true, List.take_succ_cons, List.take_zero, and_true, true_and]; try omega)
      · (simp only [go_sem, Nat.reduceAdd, Nat.reduceEqDiff, reduceIte, go_sem, and_self, and_true, true_and, implies_true, List.take_succ_cons, List.take_zero, and_true, true_and]; try omega)
      · rw [hsn, hc]; simp [go_sem]
      · rw [hsn, hc]; simp
  · obtain ⟨rfl, rfl⟩ := nilOf hq (by omega)
    repeat (first | (with_reducible first | refine SW.seq ?_ | refine SW.block ?_ | refine SW.rowC ?_ | refine SW.skip ?_ | refine SW.exit ?_ | intro _ | refine And.intro (by omega) ?_) | simp (config := { maxSteps := 1000000 }) (disch := (first | omega | (simp only [go_sem]; try omega))) only [go_sem, Nat.reduceAdd, Nat.reduceEqDiff, Nat.reduceLeDiff, Nat.reduceMul, Nat.reduceLT, reduceIte, Int.reduceToNat, w64_id, cast_succ])
    refine SW.ret ?_; (try simp only [go_sem]); (first | refine FunPost.one ?_ | refine FunPost.two ?_ | refine FunPost.three ?_); (try simp (config := { maxSteps := 1000000 }) (disch := (first | omega | (simp only [go_sem]; try omega))) only [go_sem, Nat.reduceAdd, Nat.reduceEqDiff, Nat.reduceLeDiff, Nat.reduceMul, Nat.reduceLT, reduceIte, Int.reduceToNat, w64_id, cast_succ])
    rw [hF]
    exact GR.froz (froz_rowI (ver := ver) (ty := 2) (Nat.le_refl _) (by simp)) ⟨rfl, rfl⟩
theorem l27Fits_fn (xss : List (List Int)) (set : List Int) (s : Int) (hb : ∀ b ∈ xss, asc 0 31 b = true) (hs : asc 0 31 set = true) : PFn Tryz.prog f_spec_l27Fits [ilSS xss, ilS set, I s] (Bv (fitB xss s set)) := by
  intro H; refine ACalls.introB s_spec_l27Fits (by simp) ?_; intro hB hA; unfold c_spec_l27Fits; simp (config := { maxSteps := 1000000 }) (disch := (first | omega | (simp only [go_sem]; try omega))) only [go_sem, Nat.reduceAdd, Nat.reduceEqDiff, Nat.reduceLeDiff, Nat.reduceMul, Nat.reduceLT, reduceIte, Int.reduceToNat, w64_id, cast_succ]
  repeat (first | (with_reducible first | refine SW.seq ?_ | refine SW.block ?_ | refine SW.rowC ?_ | refine SW.skip ?_ | refine SW.exit ?_ | intro _ | refine And.intro (by omega) ?_) | simp (config := { maxSteps := 1000000 }) (disch := (first | omega | (simp only [go_sem]; try omega))) only [go_sem, Nat.reduceAdd, Nat.reduceEqDiff, Nat.reduceLeDiff, Nat.reduceMul, Nat.reduceLT, reduceIte, Int.reduceToNat, w64_id, cast_succ])
  refine SW.loopE (fun E0 H0 q E' H' => ∃ (pre post : List (List Int)), xss = pre ++ post ∧ q = post.length ∧ E' = aput E0 7 (I pre.length) ∧ H' = H0 ∧ fitB pre s set = true) xss.length ⟨[], xss, rfl, rfl, rfl, rfl, rfl⟩ ?_
  rintro q E' H' ⟨pre, post, hq, rfl, rfl, rfl, ha⟩
  simp (config := { maxSteps := 1000000 }) (disch := (first | omega | (simp only [go_sem]; try omega))) only [go_sem, Nat.reduceAdd, Nat.reduceEqDiff, Nat.reduceLeDiff, Nat.reduceMul, Nat.reduceLT, reduceIte, Int.reduceToNat, w64_id, cast_succ]
  repeat (first | (with_reducible first | refine SW.seq ?_ | refine SW.block ?_ | refine SW.rowC ?_ | refine SW.skip ?_ | refine SW.exit ?_ | intro _ | refine And.intro (by omega) ?_) | simp (config := { maxSteps := 1000000 }) (disch := (first | omega | (simp only [go_sem]; try omega))) only [go_sem, Nat.reduceAdd, Nat.reduceEqDiff, Nat.reduceLeDiff, Nat.reduceMul, Nat.reduceLT, reduceIte, Int.reduceToNat, w64_id, cast_succ])
  (first | refine SW.condD rfl (fun h => ?_) (fun h => ?_) | refine SW.condN rfl (fun h => ?_) (fun h => ?_) | refine SW.condNB rfl (fun h => ?_) (fun h => ?_) | refine SW.condB rfl (fun h => ?_) (fun h => ?_))
  · obtain ⟨b, post, rfl, hg, -⟩ := consOf (d := []) hq (by omega)
    have hbb := hb b (by rw [hq]; simp)
    have hfl : (b.filter set.contains).length = comm b set := by unfold comm; rw [List.countP_eq_length_filter]
    have hbl : b.length ≤ 32 := by
      rcases asc_len hbb with h | h
      · rw [h]; simp
      · omega
    have hcl : comm b set ≤ 32 := by have := List.countP_le_length (p := set.contains) (l := b); unfold comm; omega
    have bad : (decide (b = set) || decide (s < comm b set)) = true → fitB xss s set = false := by
      intro h; rw [fitB, hq, List.any_append, List.any_cons, h]; simp
    have good : (decide (b = set) || decide (s < comm b set)) = false → fitB (pre ++ [b]) s set = true := by
      intro h
      rw [fitB, Bool.not_eq_true'] at ha ⊢
      rw [List.any_append, ha, List.any_cons, h]; rfl
    repeat (first | (with_reducible first | refine SW.seq ?_ | refine SW.block ?_ | refine SW.rowC ?_ | refine SW.skip ?_ | refine SW.exit ?_ | refine PFn.use (l00Same_fnU _ _) ?_ | refine PFn.useq (l00Same_fnU _ _) ?_ | intro _ | refine And.intro (by omega) ?_) | simp (config := { maxSteps := 1000000 }) (disch := (first | omega | (simp only [go_sem]; try omega))) only [go_sem, Nat.reduceAdd, Nat.reduceEqDiff, Nat.reduceLeDiff, Nat.reduceMul, Nat.reduceLT, reduceIte, Int.reduceToNat, w64_id, cast_succ, hg])
    (first | refine GSplit.df (fun h2 => ?_) (fun h2 => ?_) | refine GSplit.dt (fun h2 => ?_) (fun h2 => ?_) | refine GSplit.ndf (fun h2 => ?_) (fun h2 => ?_) | refine GSplit.ndt (fun h2 => ?_) (fun h2 => ?_) | refine GSplit.nbf (fun h2 => ?_) (fun h2 => ?_) | refine GSplit.nbt (fun h2 => ?_) (fun h2 => ?_) | refine GSplit.bf (fun h2 => ?_) (fun h2 => ?_) | refine GSplit.bt (fun h2 => ?_) (fun h2 => ?_))
    · repeat (first | (with_reducible first | refine SW.seq ?_ | refine SW.block ?_ | refine SW.rowC ?_ | refine SW.skip ?_ | refine SW.exit ?_ | refine PFn.use (l01Both_fn b set hbb hs) ?_ | refine PFn.useq (l01Both_fn b set hbb hs) ?_ | intro _ | refine And.intro (by omega) ?_) | simp (config := { maxSteps := 1000000 }) (disch := (first | omega | (simp only [go_sem]; try omega))) only [go_sem, Nat.reduceAdd, Nat.reduceEqDiff, Nat.reduceLeDiff, Nat.reduceMul, Nat.reduceLT, reduceIte, Int.reduceToNat, w64_id, cast_succ, hg])
      (first | refine SW.condD rfl (fun h3 => ?_) (fun h3 => ?_) | refine SW.condN rfl (fun h3 => ?_) (fun h3 => ?_) | refine SW.condNB rfl (fun h3 => ?_) (fun h3 => ?_) | refine SW.condB rfl (fun h3 => ?_) (fun h3 => ?_))
      · repeat (first | (with_reducible first | refine SW.seq ?_ | refine SW.block ?_ | refine SW.rowC ?_ | refine SW.skip ?_ | refine SW.exit ?_ | intro _ | refine And.intro (by omega) ?_) | simp (config := { maxSteps := 1000000 }) (disch := (first | omega | (simp only [go_sem]; try omega))) only [go_sem, Nat.reduceAdd, Nat.reduceEqDiff, Nat.reduceLeDiff, Nat.reduceMul, Nat.reduceLT, reduceIte, Int.reduceToNat, w64_id, cast_succ])
        refine SW.ret ?_; (try simp only [go_sem]); (first | refine FunPost.one ?_ | refine FunPost.two ?_ | refine FunPost.three ?_); (try simp (config := { maxSteps := 1000000 }) (disch := (first | omega | (simp only [go_sem]; try omega))) only [go_sem, Nat.reduceAdd, Nat.reduceEqDiff, Nat.reduceLeDiff, Nat.reduceMul, Nat.reduceLT, reduceIte, Int.reduceToNat, w64_id, cast_succ]); (first | (with_reducible refine GR.drop ?_ ?_; (simp only [go_sem, and_self, and_true, true_and, implies_true, List.take_succ_cons, List.take_zero])) | refine GR.of ?_); refine ⟨?_, rfl⟩; (try with_reducible rfl)
        rw [bad (by rw [Bool.or_eq_true]; right; rw [decide_eq_true_eq, ← hfl]; exact h3)]
      · repeat (first | (with_reducible first | refine SW.seq ?_ | refine SW.block ?_ | refine SW.rowC ?_ | refine SW.skip ?_ | refine SW.exit ?_ | intro _ | refine And.intro (by omega) ?_) | simp (config := { maxSteps := 1000000 }) (disch := (first | omega | (simp only [go_sem]; try omega))) only [go_sem, Nat.reduceAdd, Nat.reduceEqDiff, Nat.reduceLeDiff, Nat.reduceMul, Nat.reduceLT, reduceIte, Int.reduceToNat, w64_id, cast_succ])
        refine SLoop.next post.length (by simp) ⟨pre ++ [b], post, by simp [hq], rfl, ?_, rfl, good ?_⟩
        · simp [go_sem]
        · rw [decide_eq_false h2, decide_eq_false (by rw [← hfl]; exact h3)]; rfl
    · repeat (first | (with_reducible first | refine SW.seq ?_ | refine SW.block ?_ | refine SW.rowC ?_ | refine SW.skip ?_ | refine SW.exit ?_ | intro _ | refine And.intro (by omega) ?_) | simp (config := { maxSteps := 1000000 }) (disch := (first | omega | (simp only [go_sem]; try omega))) only [go_sem, Nat.reduceAdd, Nat.reduceEqDiff, Nat.reduceLeDiff, Nat.reduceMul, Nat.reduceLT, reduceIte, Int.reduceToNat, w64_id, cast_succ])
      (first | refine SW.condD rfl (fun h3 => ?_) (fun h3 => ?_) | refine SW.condN rfl (fun h3 => ?_) (fun h3 => ?_) | refine SW.condNB rfl (fun h3 => ?_) (fun h3 => ?_) | refine SW.condB rfl (fun h3 => ?_) (fun h3 => ?_))
      · repeat (first | (with_reducible first | refine SW.seq ?_ | refine SW.block ?_ | refine SW.rowC ?_ | refine SW.skip ?_ | refine SW.exit ?_ | intro _ | refine And.intro (by omega) ?_) | simp (config := { maxSteps := 1000000 }) (disch := (first | omega | (simp only [go_sem]; try omega))) only [go_sem, Nat.reduceAdd, Nat.reduceEqDiff, Nat.reduceLeDiff, Nat.reduceMul, Nat.reduceLT, reduceIte, Int.reduceToNat, w64_id, cast_succ])
        refine SW.ret ?_; (try simp only [go_sem]); (first | refine FunPost.one ?_ | refine FunPost.two ?_ | refine FunPost.three ?_); (try simp (config := { maxSteps := 1000000 }) (disch := (first | omega | (simp only [go_sem]; try omega))) only [go_sem, Nat.reduceAdd, Nat.reduceEqDiff, Nat.reduceLeDiff, Nat.reduceMul, Nat.reduceLT, reduceIte, Int.reduceToNat, w64_id, cast_succ]); (first | (with_reducible refine GR.drop ?_ ?_; (simp only [go_sem, and_self, and_true, true_and, implies_true, List.take_succ_cons, List.take_zero])) | refine GR.of ?_); refine ⟨?_, rfl⟩; (try with_reducible rfl)
        rw [bad (by rw [Bool.or_eq_true]; left; rw [decide_eq_true_eq]; exact h2)]
      · cases h3
  · obtain ⟨rfl, rfl⟩ := nilOf hq (by omega)
    repeat (first | (with_reducible first | refine SW.seq ?_ | refine SW.block ?_ | refine SW.rowC ?_ | refine SW.skip ?_ | refine SW.exit ?_ | intro _ | refine And.intro (by omega) ?_) | simp (config := { maxSteps := 1000000 }) (disch := (first | omega | (simp only [go_sem]; try omega))) only [go_sem, Nat.reduceAdd, Nat.reduceEqDiff, Nat.reduceLeDiff, Nat.reduceMul, Nat.reduceLT, reduceIte, Int.reduceToNat, w64_id, cast_succ])
    refine SW.ret ?_; (try simp only [go_sem]); (first | refine FunPost.one ?_ | refine FunPost.two ?_ | refine FunPost.three ?_); (try simp (config := { maxSteps := 1000000 }) (disch := (first | omega | (simp only [go_sem]; try omega))) only [go_sem, Nat.reduceAdd, Nat.reduceEqDiff, Nat.reduceLeDiff, Nat.reduceMul, Nat.reduceLT, reduceIte, Int.reduceToNat, w64_id, cast_succ]); (first | (with_reducible refine GR.drop ?_ ?_; (simp only [go_sem, and_self, and_true, true_and, implies_true, List.take_succ_cons, List.take_zero])) | refine GR.of ?_); refine ⟨?_, rfl⟩; (try with_reducible rfl)
    rw [ha]
theorem l27More_fn (v : Nat) (xss : List (List Int)) (k : Nat) (s : Int) (hv : v ≤ 32) (hb : ∀ b ∈ xss, asc 0 31 b = true) (hk : k ≤ v) : PFn Tryz.prog f_spec_l27More [I v, ilSS xss, I k, I s] (ilSS ((subsN v k).filter (fitB xss s))) := by
  have hsub := fun R h => subset_fn v k R hv (by omega) h
  have hch : chooseI v k = ch v k := by rw [chooseI_any v k hv, if_pos (by omega)]; rfl
  have hcs := specChoose_fn v k
  rw [hch] at hcs
  have hcl : ch v k ≤ 4294967296 := by
    have h1 := ch_le v k
    have h2 : 2 ^ v ≤ 2 ^ 32 := Nat.pow_le_pow_right (by omega) hv
    omega
  have hSl : (subsN v k).length = ch v k := subsL_len v 0 k
  have hSa : ∀ t ∈ subsN v k, asc 0 31 t = true := fun t ht => by
    have := (subsL_mem v 0 k t ht).2
    exact asc_weak (by omega) this
  rw [← hSl] at hcs hsub hcl
  clear hch hSl
  generalize subsN v k = S at *
  intro H; refine ACalls.introB s_spec_l27More (by simp) ?_; intro hB hA; unfold c_spec_l27More; simp (config := { maxSteps := 1000000 }) (disch := (first | omega | (simp only [go_sem]; try omega))) only [go_sem, Nat.reduceAdd, Nat.reduceEqDiff, Nat.reduceLeDiff, Nat.reduceMul, Nat.reduceLT, reduceIte, Int.reduceToNat, w64_id, cast_succ]
  repeat (first | (with_reducible first | refine SW.seq ?_ | refine SW.block ?_ | refine SW.rowC ?_ | refine SW.skip ?_ | refine SW.exit ?_ | refine PFn.use (hcs) ?_ | refine PFn.useq (hcs) ?_ | intro _ | refine And.intro (by omega) ?_) | simp (config := { maxSteps := 1000000 }) (disch := (first | omega | (simp only [go_sem]; try omega))) only [go_sem, Nat.reduceAdd, Nat.reduceEqDiff, Nat.reduceLeDiff, Nat.reduceMul, Nat.reduceLT, reduceIte, Int.reduceToNat, w64_id, cast_succ])
  refine SW.loopE (fun E0 H0 q E' H' => ∃ (pre post : List (List Int)) (ver : Nat), S = pre ++ post ∧ q = post.length ∧ E' = aput (aput E0 10 (I pre.length)) 9 (.nm H.length ver 0 (pre.filter (fitB xss s)).length) ∧ H' = H ++ [⟨ver, 22, 1, (pre.filter (fitB xss s)).map ilS⟩]) S.length ⟨[], S, 0, rfl, rfl, rfl, rfl⟩ ?_
  rintro q E' H' ⟨pre, post, ver, hq, rfl, rfl, rfl⟩
  have hfl := List.length_filter_le (fitB xss s) pre
  have hpl : pre.length ≤ S.length := by rw [hq]; simp
  have hsn : ∀ x, (pre ++ [x]).filter (fitB xss s) = pre.filter (fitB xss s) ++ (if fitB xss s x then [x] else []) := by
    intro x; rw [List.filter_append]; cases h : fitB xss s x <;> simp [h]
  generalize hF : pre.filter (fitB xss s) = F at *
  simp (config := { maxSteps := 1000000 }) (disch := (first | omega | (simp only [go_sem]; try omega))) only [go_sem, Nat.reduceAdd, Nat.reduceEqDiff, Nat.reduceLeDiff, Nat.reduceMul, Nat.reduceLT, reduceIte, Int.reduceToNat, w64_id, cast_succ]
  repeat (first | (with_reducible first | refine SW.seq ?_ | refine SW.block ?_ | refine SW.rowC ?_ | refine SW.skip ?_ | refine SW.exit ?_ | refine PFn.use (hcs) ?_ | refine PFn.useq (hcs) ?_ | intro _ | refine And.intro (by omega) ?_) | simp (config := { maxSteps := 1000000 }) (disch := (first | omega | (simp only [go_sem]; try omega))) only [go_sem, Nat.reduceAdd, Nat.reduceEqDiff, Nat.reduceLeDiff, Nat.reduceMul, Nat.reduceLT, reduceIte, Int.reduceToNat, w64_id, cast_succ])
  (first | refine SW.condD rfl (fun h => ?_) (fun h => ?_) | refine SW.condN rfl (fun h => ?_) (fun h => ?_) | refine SW.condNB rfl (fun h => ?_) (fun h => ?_) | refine SW.condB rfl (fun h => ?_) (fun h => ?_))
  · have hlt : pre.length < S.length := by omega
    obtain ⟨set, post, rfl, hg, -⟩ := consOf (d := []) hq hlt
    have hsb := hsub pre.length hlt
    rw [hg] at hsb
    have hft := l27Fits_fn xss set s hb (hSa set (by rw [hq]; simp))
    repeat (first | (with_reducible first | refine SW.seq ?_ | refine SW.block ?_ | refine SW.rowC ?_ | refine SW.skip ?_ | refine SW.exit ?_ | refine PFn.use (hsb) ?_ | refine PFn.useq (hsb) ?_ | refine PFn.use (hft) ?_ | refine PFn.useq (hft) ?_ | intro _ | refine And.intro (by omega) ?_) | simp (config := { maxSteps := 1000000 }) (disch := (first | omega | (simp only [go_sem]; try omega))) only [go_sem, Nat.reduceAdd, Nat.reduceEqDiff, Nat.reduceLeDiff, Nat.reduceMul, Nat.reduceLT, reduceIte, Int.reduceToNat, w64_id, cast_succ])
    cases hc : fitB xss s set
    · refine SW.condF rfl ?_
      repeat (first | (with_reducible first | refine SW.seq ?_ | refine SW.block ?_ | refine SW.rowC ?_ | refine SW.skip ?_ | refine SW.exit ?_ | intro _ | refine And.intro (by omega) ?_) | simp (config := { maxSteps := 1000000 }) (disch := (first | omega | (simp only [go_sem]; try omega))) only [go_sem, Nat.reduceAdd, Nat.reduceEqDiff, Nat.reduceLeDiff, Nat.reduceMul, Nat.reduceLT, reduceIte, Int.reduceToNat, w64_id, cast_succ])
      refine SLoop.next post.length (by simp) ⟨pre ++ [set], post, ver, by simp [hq], rfl, ?_, ?_⟩
      · rw [hsn, hc]; simp [go_sem]
      · rw [hsn, hc]; simp
    · refine SW.condT rfl ?_
      repeat (first | (with_reducible first | refine SW.seq ?_ | refine SW.block ?_ | refine SW.rowC ?_ | refine SW.skip ?_ | refine SW.exit ?_ | intro _ | refine And.intro (by omega) ?_) | simp (config := { maxSteps := 1000000 }) (disch := (first | omega | (simp only [go_sem]; try omega))) only [go_sem, Nat.reduceAdd, Nat.reduceEqDiff, Nat.reduceLeDiff, Nat.reduceMul, Nat.reduceLT, reduceIte, Int.reduceToNat, w64_id, cast_succ])
      refine SLoop.nextT 1 post.length hB (by omega) (by simp) (by simp) ?_ ?_ ⟨pre ++ [set], post, ver + 1, by simp [hq], rfl, ?_, ?_⟩
      · (simp only [go_sem, Nat.reduceAdd, Nat.reduceEqDiff, reduceIte, go_sem, and_self, and_true, true_and, implies_true, List.take_succ_cons, List.take_zero, and_true, true_and]; try omega)
      · (simp only [go_sem, Nat.reduceAdd, Nat.reduceEqDiff, reduceIte, go_sem, and_self, and_true, true_and, implies_true, List.take_succ_cons, List.take_zero, and_true, true_and]; try omega)
      · rw [hsn, hc]; simp [go_sem]
      · rw [hsn, hc]; simp
  · have hlt : ¬ pre.length < S.length := by omega
    obtain ⟨rfl, rfl⟩ := nilOf hq hlt
    repeat (first | (with_reducible first | refine SW.seq ?_ | refine SW.block ?_ | refine SW.rowC ?_ | refine SW.skip ?_ | refine SW.exit ?_ | intro _ | refine And.intro (by omega) ?_) | simp (config := { maxSteps := 1000000 }) (disch := (first | omega | (simp only [go_sem]; try omega))) only [go_sem, Nat.reduceAdd, Nat.reduceEqDiff, Nat.reduceLeDiff, Nat.reduceMul, Nat.reduceLT, reduceIte, Int.reduceToNat, w64_id, cast_succ])
    refine SW.ret ?_; (try simp only [go_sem]); (first | refine FunPost.one ?_ | refine FunPost.two ?_ | refine FunPost.three ?_); (try simp (config := { maxSteps := 1000000 }) (disch := (first | omega | (simp only [go_sem]; try omega))) only [go_sem, Nat.reduceAdd, Nat.reduceEqDiff, Nat.reduceLeDiff, Nat.reduceMul, Nat.reduceLT, reduceIte, Int.reduceToNat, w64_id, cast_succ])
    rw [hF]
    exact GR.froz (froz_rowS (ver := ver) (ty := 22) (Nat.le_refl _) (by simp)) ⟨rfl, rfl⟩
end Go.Proofs.YtmdeibdplpodpaaGreat
