/- Designs with other points; invariant designs. -/
import Derived.Test.YtkifdjjnbplghaaGreatProg
import Derived.KernelRfl
import Derived.Test.YtkifdjjnbplghaaGreatX1
import Derived.Test.YtkifdjjnbplghaaGreatVB
import Derived.Test.YtkifdjjnbplghaaGreatL8
set_option linter.unusedSimpArgs false
set_option linter.unusedVariables false
set_option maxHeartbeats 4000000
set_option maxRecDepth 100000
namespace Go.Proofs.YtkifdjjnbplghaaGreat
open Go.Av

/-! The abstract code of functions, printed by program and tied to the program by the kernel. -/
/-- loop.example/g00920/spec.l10Image -/
abbrev f_spec_l10Image : Nat := 42
def c_spec_l10Image : SC :=
 .seq (.reg [
     ⟨(some 4), .alloc 31 [(.int .i64 0), (.slice none 0 0)], none⟩] [0, 1, 4])
 (.seq (.reg [
     ⟨(some 7), .bslice 51 1 0 [] [], none⟩,
     ⟨(some 5), .mv (.tmp 7), none⟩] [0, 1, 4, 5])
 (.seq (.seq (.reg [
     ⟨(some 6), .mv (.const (.int .i64 0)), none⟩] [0, 1, 4, 5, 6])
 (.block 0 (.loop [0, 1, 4, 5, 6]
   (.seq (.seq (.reg [
       ⟨(some 8), .mv (.tmp 6), none⟩,
       ⟨(some 9), .mv (.tmp 0), none⟩,
       ⟨(some 10), .nilc (.tmp 9), none⟩,
       ⟨(some 11), .faddr 1 (.tmp 10), none⟩,
       ⟨(some 12), .load 1 false (.tmp 11), none⟩,
       ⟨(some 13), .len (.tmp 12), none⟩,
       ⟨(some 14), .bin .lss (.tmp 8) (.tmp 13), none⟩] [0, 1, 4, 5, 6, 14])
   (.cond (.tmp 14)
    (.skip)
    (.exit 0)))
   (.seq (.block 1 (.reg [
        ⟨(some 17), .mv (.tmp 5), none⟩,
        ⟨(some 18), .mv (.tmp 1), none⟩,
        ⟨(some 19), .mv (.tmp 0), none⟩,
        ⟨(some 20), .nilc (.tmp 19), none⟩,
        ⟨(some 21), .faddr 1 (.tmp 20), none⟩,
        ⟨(some 22), .load 1 false (.tmp 21), none⟩,
        ⟨(some 23), .mv (.tmp 6), none⟩,
        ⟨(some 24), .iaddr 1 (.tmp 22) (.tmp 23), none⟩,
        ⟨(some 25), .load 1 false (.tmp 24), none⟩,
        ⟨(some 26), .call 75 [(.tmp 18), (.tmp 25)], none⟩,
        ⟨(some 27), .bslice 51 1 1 [(.slice none 0 0)] [(0, (.tmp 26))], none⟩,
        ⟨(some 28), .app 51 1 24 (.tmp 17) (.tmp 27), none⟩,
        ⟨(some 5), .mv (.tmp 28), none⟩] [0, 1, 4, 5, 6]))
   (.reg [
       ⟨(some 15), .mv (.tmp 6), none⟩,
       ⟨(some 16), .bin .add (.tmp 15) (.const (.int .i64 1)), none⟩,
       ⟨(some 6), .mv (.tmp 16), none⟩] [0, 1, 4, 5, 6]))))))
 (.seq (.reg [
     ⟨(some 29), .mv (.tmp 0), none⟩,
     ⟨(some 30), .nilc (.tmp 29), none⟩,
     ⟨(some 31), .faddr 0 (.tmp 30), none⟩,
     ⟨(some 32), .load 1 false (.tmp 31), none⟩,
     ⟨(some 33), .mv (.tmp 5), none⟩,
     ⟨(some 34), .qcall 62 [(.tmp 33)], none⟩,
     ⟨(some 35), .build [(.int .i64 0), (.slice none 0 0)] [(0, 1, (.tmp 32)), (1, 1, (.tmp 34))], none⟩,
     ⟨none, .store 2 (.tmp 4) (.tmp 35), none⟩] [4])
 (.ret))))
theorem s_spec_l10Image : stripF Tryz.prog 42 [[0, 1, 4], [0, 1, 4, 5], [0, 1, 4, 5, 6], [0, 1, 4, 5, 6], [0, 1, 4, 5, 6, 14], [0, 1, 4, 5, 6], [0, 1, 4, 5, 6], [4]] = some (c_spec_l10Image, [.cell 4 2], 36) := by kernel_rfl

/-- loop.example/g00920/spec.SameDesign -/
abbrev f_spec_SameDesign : Nat := 43
def c_spec_SameDesign : SC :=
 .seq (.reg [
     ⟨(some 2), .box 31 (.tmp 0), none⟩,
     ⟨(some 3), .box 31 (.tmp 1), none⟩,
     ⟨(some 4), .mv (.const (.bool false)), none⟩] [2, 3])
 (.seq (.reg [
     ⟨(some 5), .faddr 0 (.tmp 2), none⟩,
     ⟨(some 6), .load 1 false (.tmp 5), none⟩,
     ⟨(some 7), .faddr 0 (.tmp 3), none⟩,
     ⟨(some 8), .load 1 false (.tmp 7), none⟩,
     ⟨(some 9), .bin .eql (.tmp 6) (.tmp 8), none⟩,
     ⟨(some 10), .mv (.tmp 9), none⟩,
     ⟨(some 11), .faddr 1 (.tmp 2), (some (10, true))⟩,
     ⟨(some 12), .load 1 false (.tmp 11), (some (10, true))⟩,
     ⟨(some 13), .faddr 1 (.tmp 3), (some (10, true))⟩,
     ⟨(some 14), .load 1 false (.tmp 13), (some (10, true))⟩,
     ⟨(some 15), .call 76 [(.tmp 12), (.tmp 14)], (some (10, true))⟩,
     ⟨(some 16), .pick (.tmp 10) (.tmp 15) (.const (.bool false)), none⟩,
     ⟨(some 4), .mv (.tmp 16), none⟩] [4])
 (.ret))
theorem s_spec_SameDesign : stripF Tryz.prog 43 [[2, 3], [4]] = some (c_spec_SameDesign, [.tmp 4], 17) := by kernel_rfl

/-- loop.example/g00920/impl.SameDesign -/
abbrev f_impl_SameDesign : Nat := 49
def c_impl_SameDesign : SC :=
 .seq (.reg [
     ⟨(some 2), .box 31 (.tmp 0), none⟩,
     ⟨(some 3), .box 31 (.tmp 1), none⟩,
     ⟨(some 4), .mv (.const (.bool false)), none⟩] [2, 3])
 (.seq (.reg [
     ⟨(some 5), .faddr 0 (.tmp 2), none⟩,
     ⟨(some 6), .load 1 false (.tmp 5), none⟩,
     ⟨(some 7), .faddr 0 (.tmp 3), none⟩,
     ⟨(some 8), .load 1 false (.tmp 7), none⟩,
     ⟨(some 9), .bin .eql (.tmp 6) (.tmp 8), none⟩,
     ⟨(some 10), .mv (.tmp 9), none⟩,
     ⟨(some 11), .faddr 1 (.tmp 2), (some (10, true))⟩,
     ⟨(some 12), .load 1 false (.tmp 11), (some (10, true))⟩,
     ⟨(some 13), .faddr 1 (.tmp 3), (some (10, true))⟩,
     ⟨(some 14), .load 1 false (.tmp 13), (some (10, true))⟩,
     ⟨(some 15), .call 83 [(.tmp 12), (.tmp 14)], (some (10, true))⟩,
     ⟨(some 16), .pick (.tmp 10) (.tmp 15) (.const (.bool false)), none⟩,
     ⟨(some 4), .mv (.tmp 16), none⟩] [4])
 (.ret))
theorem s_impl_SameDesign : stripF Tryz.prog 49 [[2, 3], [4]] = some (c_impl_SameDesign, [.tmp 4], 17) := by kernel_rfl

/-- loop.example/g00920/impl.relabeled -/
abbrev f_impl_relabeled : Nat := 50
def c_impl_relabeled : SC :=
 .seq (.reg [
     ⟨(some 2), .box 31 (.tmp 0), none⟩,
     ⟨(some 4), .alloc 31 [(.int .i64 0), (.slice none 0 0)], none⟩] [1, 2, 4])
 (.seq (.reg [
     ⟨(some 5), .mv (.const (.slice none 0 0)), none⟩] [1, 2, 4, 5])
 (.seq (.seq (.reg [
     ⟨(some 10), .faddr 1 (.tmp 2), none⟩,
     ⟨(some 11), .load 1 false (.tmp 10), none⟩,
     ⟨(some 12), .len (.tmp 11), none⟩,
     ⟨(some 13), .mv (.const (.int .i64 0)), none⟩] [1, 2, 4, 5, 11, 12, 13])
 (.block 0 (.loop [1, 2, 4, 5, 11, 12, 13]
   (.seq (.reg [
       ⟨(some 14), .bin .lss (.tmp 13) (.tmp 12), none⟩] [1, 2, 4, 5, 11, 12, 13, 14])
   (.seq (.cond (.tmp 14)
    (.skip)
    (.exit 0))
   (.seq (.block 1 (.seq (.reg [
        ⟨(some 15), .iaddr 1 (.tmp 11) (.tmp 13), none⟩,
        ⟨(some 16), .load 1 false (.tmp 15), none⟩,
        ⟨(some 7), .mv (.tmp 16), none⟩] [1, 2, 4, 5, 7, 11, 12, 13])
    (.reg [
        ⟨(some 17), .mv (.tmp 5), none⟩,
        ⟨(some 18), .mv (.tmp 1), none⟩,
        ⟨(some 19), .mv (.tmp 7), none⟩,
        ⟨(some 20), .call 84 [(.tmp 18), (.tmp 19)], none⟩,
        ⟨(some 21), .bslice 51 1 1 [(.slice none 0 0)] [(0, (.tmp 20))], none⟩,
        ⟨(some 22), .app 51 1 24 (.tmp 17) (.tmp 21), none⟩,
        ⟨(some 5), .mv (.tmp 22), none⟩] [1, 2, 4, 5, 11, 12, 13])))
   (.reg [
       ⟨(some 23), .bin .add (.tmp 13) (.const (.int .i64 1)), none⟩,
       ⟨(some 13), .mv (.tmp 23), none⟩] [1, 2, 4, 5, 11, 12, 13])))))))
 (.seq (.reg [
     ⟨(some 25), .faddr 0 (.tmp 2), none⟩,
     ⟨(some 26), .load 1 false (.tmp 25), none⟩,
     ⟨(some 27), .mv (.tmp 5), none⟩,
     ⟨(some 28), .call 65 [(.tmp 26), (.tmp 27)], none⟩,
     ⟨(some 24), .mv (.tmp 28), none⟩,
     ⟨(some 29), .ext (.tmp 24) 0, none⟩,
     ⟨(some 30), .ext (.tmp 24) 1, none⟩,
     ⟨(some 8), .alloc 31 [(.int .i64 0), (.slice none 0 0)], none⟩,
     ⟨none, .store 2 (.tmp 8) (.tmp 29), none⟩,
     ⟨(some 9), .mv (.tmp 30), none⟩] [4, 8])
 (.seq (.reg [
     ⟨(some 31), .load 2 true (.tmp 8), none⟩,
     ⟨none, .store 2 (.tmp 4) (.tmp 31), none⟩] [4])
 (.ret)))))
theorem s_impl_relabeled : stripF Tryz.prog 50 [[1, 2, 4], [1, 2, 4, 5], [1, 2, 4, 5, 11, 12, 13], [1, 2, 4, 5, 11, 12, 13], [1, 2, 4, 5, 11, 12, 13, 14], [1, 2, 4, 5, 7, 11, 12, 13], [1, 2, 4, 5, 11, 12, 13], [1, 2, 4, 5, 11, 12, 13], [4, 8], [4]] = some (c_impl_relabeled, [.cell 4 2], 32) := by kernel_rfl

/-- loop.example/g00920/spec.l10Sort -/
abbrev f_spec_l10Sort : Nat := 62
def c_spec_l10Sort : SC :=
 .seq (.reg [
     ⟨(some 2), .mv (.const (.slice none 0 0)), none⟩] [0])
 (.seq (.reg [
     ⟨(some 7), .bslice 51 1 0 [] [], none⟩,
     ⟨(some 3), .mv (.tmp 7), none⟩] [0, 3])
 (.seq (.seq (.reg [
     ⟨(some 4), .mv (.const (.int .i64 0)), none⟩] [0, 3, 4])
 (.block 0 (.loop [0, 3, 4]
   (.seq (.seq (.reg [
       ⟨(some 8), .mv (.tmp 4), none⟩,
       ⟨(some 9), .mv (.tmp 0), none⟩,
       ⟨(some 10), .len (.tmp 9), none⟩,
       ⟨(some 11), .bin .lss (.tmp 8) (.tmp 10), none⟩] [0, 3, 4, 11])
   (.cond (.tmp 11)
    (.skip)
    (.exit 0)))
   (.seq (.block 1 (.seq (.reg [
        ⟨(some 14), .mv (.tmp 3), none⟩,
        ⟨(some 15), .len (.tmp 14), none⟩,
        ⟨(some 5), .mv (.tmp 15), none⟩] [0, 3, 4, 5])
    (.seq (.block 2 (.loop [0, 3, 4, 5]
      (.seq (.seq (.reg [
          ⟨(some 16), .mv (.tmp 5), none⟩,
          ⟨(some 17), .bin .gtr (.tmp 16) (.const (.int .i64 0)), none⟩,
          ⟨(some 18), .mv (.tmp 17), none⟩,
          ⟨(some 19), .mv (.tmp 3), (some (18, true))⟩,
          ⟨(some 20), .mv (.tmp 5), (some (18, true))⟩,
          ⟨(some 21), .bin .sub (.tmp 20) (.const (.int .i64 1)), (some (18, true))⟩,
          ⟨(some 22), .iaddr 1 (.tmp 19) (.tmp 21), (some (18, true))⟩,
          ⟨(some 23), .load 1 false (.tmp 22), (some (18, true))⟩,
          ⟨(some 24), .mv (.tmp 0), (some (18, true))⟩,
          ⟨(some 25), .mv (.tmp 4), (some (18, true))⟩,
          ⟨(some 26), .iaddr 1 (.tmp 24) (.tmp 25), (some (18, true))⟩,
          ⟨(some 27), .load 1 false (.tmp 26), (some (18, true))⟩,
          ⟨(some 28), .qcall 72 [(.tmp 23), (.tmp 27)], (some (18, true))⟩,
          ⟨(some 29), .bin .gtr (.tmp 28) (.const (.int .i64 0)), (some (18, true))⟩,
          ⟨(some 30), .pick (.tmp 18) (.tmp 29) (.const (.bool false)), none⟩] [0, 3, 4, 5, 30])
      (.cond (.tmp 30)
       (.skip)
       (.exit 2)))
      (.block 3 (.reg [
           ⟨(some 31), .mv (.tmp 5), none⟩,
           ⟨(some 32), .bin .sub (.tmp 31) (.const (.int .i64 1)), none⟩,
           ⟨(some 5), .mv (.tmp 32), none⟩] [0, 3, 4, 5])))))
    (.seq (.reg [
        ⟨(some 33), .bslice 51 1 0 [] [], none⟩,
        ⟨(some 34), .mv (.tmp 3), none⟩,
        ⟨(some 35), .mv (.tmp 5), none⟩,
        ⟨(some 36), .slc 1 (.tmp 34) none (some (.tmp 35)), none⟩,
        ⟨(some 37), .app 51 1 24 (.tmp 33) (.tmp 36), none⟩,
        ⟨(some 6), .mv (.tmp 37), none⟩] [0, 3, 4, 5, 6])
    (.seq (.reg [
        ⟨(some 38), .mv (.tmp 6), none⟩,
        ⟨(some 39), .mv (.tmp 0), none⟩,
        ⟨(some 40), .mv (.tmp 4), none⟩,
        ⟨(some 41), .iaddr 1 (.tmp 39) (.tmp 40), none⟩,
        ⟨(some 42), .load 1 false (.tmp 41), none⟩,
        ⟨(some 43), .call 96 [(.tmp 42)], none⟩,
        ⟨(some 44), .bslice 51 1 1 [(.slice none 0 0)] [(0, (.tmp 43))], none⟩,
        ⟨(some 45), .app 51 1 24 (.tmp 38) (.tmp 44), none⟩,
        ⟨(some 6), .mv (.tmp 45), none⟩] [0, 3, 4, 5, 6])
    (.reg [
        ⟨(some 46), .mv (.tmp 6), none⟩,
        ⟨(some 47), .mv (.tmp 3), none⟩,
        ⟨(some 48), .mv (.tmp 5), none⟩,
        ⟨(some 49), .slc 1 (.tmp 47) (some (.tmp 48)) none, none⟩,
        ⟨(some 50), .app 51 1 24 (.tmp 46) (.tmp 49), none⟩,
        ⟨(some 3), .mv (.tmp 50), none⟩] [0, 3, 4]))))))
   (.reg [
       ⟨(some 12), .mv (.tmp 4), none⟩,
       ⟨(some 13), .bin .add (.tmp 12) (.const (.int .i64 1)), none⟩,
       ⟨(some 4), .mv (.tmp 13), none⟩] [0, 3, 4]))))))
 (.seq (.reg [
     ⟨(some 51), .mv (.tmp 3), none⟩,
     ⟨(some 2), .mv (.tmp 51), none⟩] [2])
 (.ret))))
theorem s_spec_l10Sort : stripF Tryz.prog 62 [[0], [0, 3], [0, 3, 4], [0, 3, 4], [0, 3, 4, 11], [0, 3, 4, 5], [0, 3, 4, 5], [0, 3, 4, 5, 30], [0, 3, 4, 5], [0, 3, 4, 5, 6], [0, 3, 4, 5, 6], [0, 3, 4], [0, 3, 4], [2]] = some (c_spec_l10Sort, [.tmp 2], 52) := by kernel_rfl

/-- loop.example/g00920/impl.sorted -/
abbrev f_impl_sorted : Nat := 65
def c_impl_sorted : SC :=
 .seq (.reg [
     ⟨(some 4), .alloc 31 [(.int .i64 0), (.slice none 0 0)], none⟩,
     ⟨(some 5), .mv (.const (.int .i64 0)), none⟩] [0, 1, 4])
 (.seq (.seq (.reg [
     ⟨(some 7), .mv (.tmp 1), none⟩,
     ⟨(some 8), .len (.tmp 7), none⟩,
     ⟨(some 9), .bin .gtr (.tmp 8) (.const (.int .i64 128)), none⟩] [0, 1, 4, 9])
 (.cond (.tmp 9)
  (.seq (.reg [
      ⟨(some 10), .build [(.int .i64 0), (.slice none 0 0)] [], none⟩,
      ⟨none, .store 2 (.tmp 4) (.tmp 10), none⟩,
      ⟨(some 5), .mv (.const (.int .i64 5)), none⟩] [4, 5])
  (.ret))
  (.skip)))
 (.seq (.reg [
     ⟨(some 11), .mv (.tmp 0), none⟩,
     ⟨(some 12), .mv (.tmp 1), none⟩,
     ⟨(some 13), .call 97 [(.tmp 12)], none⟩,
     ⟨(some 14), .build [(.int .i64 0), (.slice none 0 0)] [(0, 1, (.tmp 11)), (1, 1, (.tmp 13))], none⟩,
     ⟨(some 6), .alloc 31 [(.int .i64 0), (.slice none 0 0)], none⟩,
     ⟨none, .store 2 (.tmp 6) (.tmp 14), none⟩] [4, 6])
 (.seq (.reg [
     ⟨(some 15), .faddr 1 (.tmp 6), none⟩,
     ⟨(some 16), .load 1 false (.tmp 15), none⟩,
     ⟨(some 17), .call 98 [(.tmp 16), (.func 79)], none⟩] [4, 6])
 (.seq (.reg [
     ⟨(some 18), .load 2 true (.tmp 6), none⟩,
     ⟨none, .store 2 (.tmp 4) (.tmp 18), none⟩,
     ⟨(some 5), .mv (.const (.int .i64 0)), none⟩] [4, 5])
 (.ret)))))
theorem s_impl_sorted : stripF Tryz.prog 65 [[0, 1, 4], [0, 1, 4, 9], [4, 5], [4, 6], [4, 6], [4, 5]] = some (c_impl_sorted, [.cell 4 2, .tmp 5], 19) := by kernel_rfl

/-- loop.example/g00920/impl.copyLists -/
abbrev f_impl_copyLists : Nat := 97
def c_impl_copyLists : SC :=
 .seq (.reg [
     ⟨(some 2), .mv (.const (.slice none 0 0)), none⟩] [0])
 (.seq (.reg [
     ⟨(some 3), .mv (.const (.slice none 0 0)), none⟩] [0, 3])
 (.seq (.seq (.reg [
     ⟨(some 6), .mv (.tmp 0), none⟩,
     ⟨(some 7), .len (.tmp 6), none⟩,
     ⟨(some 8), .mv (.const (.int .i64 0)), none⟩] [3, 6, 7, 8])
 (.block 0 (.loop [3, 6, 7, 8]
   (.seq (.reg [
       ⟨(some 9), .bin .lss (.tmp 8) (.tmp 7), none⟩] [3, 6, 7, 8, 9])
   (.seq (.cond (.tmp 9)
    (.skip)
    (.exit 0))
   (.seq (.block 1 (.seq (.reg [
        ⟨(some 10), .iaddr 1 (.tmp 6) (.tmp 8), none⟩,
        ⟨(some 11), .load 1 false (.tmp 10), none⟩,
        ⟨(some 5), .mv (.tmp 11), none⟩] [3, 5, 6, 7, 8])
    (.reg [
        ⟨(some 12), .mv (.tmp 3), none⟩,
        ⟨(some 13), .mv (.tmp 5), none⟩,
        ⟨(some 14), .call 130 [(.tmp 13)], none⟩,
        ⟨(some 15), .bslice 51 1 1 [(.slice none 0 0)] [(0, (.tmp 14))], none⟩,
        ⟨(some 16), .app 51 1 24 (.tmp 12) (.tmp 15), none⟩,
        ⟨(some 3), .mv (.tmp 16), none⟩] [3, 6, 7, 8])))
   (.reg [
       ⟨(some 17), .bin .add (.tmp 8) (.const (.int .i64 1)), none⟩,
       ⟨(some 8), .mv (.tmp 17), none⟩] [3, 6, 7, 8])))))))
 (.seq (.reg [
     ⟨(some 18), .mv (.tmp 3), none⟩,
     ⟨(some 2), .mv (.tmp 18), none⟩] [2])
 (.ret))))
theorem s_impl_copyLists : stripF Tryz.prog 97 [[0], [0, 3], [3, 6, 7, 8], [3, 6, 7, 8], [3, 6, 7, 8, 9], [3, 5, 6, 7, 8], [3, 6, 7, 8], [3, 6, 7, 8], [2]] = some (c_impl_copyLists, [.tmp 2], 19) := by kernel_rfl


theorem l10Sort_ok (H : List Blk) (a : AV) (xss : List (List Int)) (ha : aview H a = some (xss.length, xss.map ilS)) (hl : xss.length ≤ 1000000) (hr : ∀ x ∈ xss, x.length ≤ 2000000) : ACalls Tryz.prog f_spec_l10Sort [a] H (fun r H' => r = ilSS (sortD cmpL xss) ∧ H' = H) := by
  have hav : ∀ ext, aview (H ++ ext) a = some (xss.length, xss.map ilS) := fun ext => aview_append ha ext
  refine ACalls.introB s_spec_l10Sort (by simp) ?_; intro hB hA; unfold c_spec_l10Sort; simp (config := { maxSteps := 1000000 }) (disch := (first | omega | (simp only [go_sem]; try omega))) only [go_sem, Nat.reduceAdd, Nat.reduceEqDiff, Nat.reduceLeDiff, Nat.reduceMul, Nat.reduceLT, reduceIte, Int.reduceToNat, w64_id, cast_succ]
  have hab : ∀ k, H.length ≤ k → Bel k a := fun k hk => (hA a (by simp)).mono hk
  repeat (first | (with_reducible first | refine SW.seq ?_ | refine SW.block ?_ | refine SW.rowC ?_ | refine SW.skip ?_ | refine SW.exit ?_ | intro _ | refine And.intro (by omega) ?_) | simp (config := { maxSteps := 1000000 }) (disch := (first | omega | (simp only [go_sem]; try omega))) only [go_sem, Nat.reduceAdd, Nat.reduceEqDiff, Nat.reduceLeDiff, Nat.reduceMul, Nat.reduceLT, reduceIte, Int.reduceToNat, w64_id, cast_succ])
  refine SW.froz (E' := [(0, a), (3, ilSS []), (4, I 0)]) hB (by simp) (.cons _ (.old _ (hab _ (Nat.le_refl _))) (.cons _ ?_ (.cons _ (ren_I _) .nil))) ?_
  · have := ren_rowS (H := H ++ [(⟨0, tyLL, 1, [].map ilS⟩ : Blk)]) (k := H.length) (js := []) (r := H.length) (ver := 0) (ty := tyLL) (xs := []) (by simp) (by simp) (by simp)
    exact this
  refine SW.loopE (fun E0 H0 q E' H' => ∃ (pre post : List (List Int)), xss = pre ++ post ∧ q = post.length ∧ E' = aput (aput E0 4 (I pre.length)) 3 (ilSS (sortD cmpL pre)) ∧ H' = H0) xss.length ⟨[], xss, rfl, rfl, rfl, rfl⟩ ?_
  rintro q E' H' ⟨pre, post, hpp, rfl, rfl, rfl⟩
  have hsd := sortD_fact cmpL_tot pre
  have hord := hsd.2
  have hsl : (sortD cmpL pre).length = pre.length := hsd.1.length_eq
  have hsn := fun y => sortD_snoc (cf := cmpL) pre y
  have hpl : pre.length ≤ 1000000 := by rw [hpp] at hl; simp at hl; omega
  clear hsd
  generalize hL0 : sortD cmpL pre = L at *
  simp (config := { maxSteps := 1000000 }) (disch := (first | omega | (simp only [go_sem]; try omega))) only [go_sem, Nat.reduceAdd, Nat.reduceEqDiff, Nat.reduceLeDiff, Nat.reduceMul, Nat.reduceLT, reduceIte, Int.reduceToNat, w64_id, cast_succ]
  repeat (first | (with_reducible first | refine SW.seq ?_ | refine SW.block ?_ | refine SW.rowC ?_ | refine SW.skip ?_ | refine SW.exit ?_ | intro _ | refine And.intro (by omega) ?_) | simp (config := { maxSteps := 1000000 }) (disch := (first | omega | (simp only [go_sem]; try omega))) only [go_sem, Nat.reduceAdd, Nat.reduceEqDiff, Nat.reduceLeDiff, Nat.reduceMul, Nat.reduceLT, reduceIte, Int.reduceToNat, w64_id, cast_succ, ha, hav])
  (first | refine SW.condD rfl (fun h => ?_) (fun h => ?_) | refine SW.condN rfl (fun h => ?_) (fun h => ?_) | refine SW.condNB rfl (fun h => ?_) (fun h => ?_) | refine SW.condB rfl (fun h => ?_) (fun h => ?_))
  · obtain ⟨y, post, rfl, hg, -⟩ := consOf (d := []) hpp (by omega)
    have hy := hr y (by rw [hpp]; simp)
    repeat (first | (with_reducible first | refine SW.seq ?_ | refine SW.block ?_ | refine SW.rowC ?_ | refine SW.skip ?_ | refine SW.exit ?_ | intro _ | refine And.intro (by omega) ?_) | simp (config := { maxSteps := 1000000 }) (disch := (first | omega | (simp only [go_sem]; try omega))) only [go_sem, Nat.reduceAdd, Nat.reduceEqDiff, Nat.reduceLeDiff, Nat.reduceMul, Nat.reduceLT, reduceIte, Int.reduceToNat, w64_id, cast_succ])
    refine SW.loopE (fun E0 H0 q E' H' => ∃ k : Nat, k ≤ L.length ∧ q = k ∧ E' = aput E0 5 (I k) ∧ H' = H0 ∧ ∀ b ∈ L.drop k, cmpL b y > 0) L.length ⟨L.length, by omega, rfl, rfl, rfl, by simp⟩ ?_
    rintro k E' H' ⟨_, hk, rfl, rfl, rfl, hd⟩
    simp (config := { maxSteps := 1000000 }) (disch := (first | omega | (simp only [go_sem]; try omega))) only [go_sem, Nat.reduceAdd, Nat.reduceEqDiff, Nat.reduceLeDiff, Nat.reduceMul, Nat.reduceLT, reduceIte, Int.reduceToNat, w64_id, cast_succ]
    by_cases hk0 : k = 0
    · have dd : decide ((0 : Int) < (k : Int)) = false := decide_eq_false (by omega)
      repeat (first | (with_reducible first | refine SW.seq ?_ | refine SW.block ?_ | refine SW.rowC ?_ | refine SW.skip ?_ | refine SW.exit ?_ | intro _ | refine And.intro (by omega) ?_) | simp (config := { maxSteps := 1000000 }) (disch := (first | omega | (simp only [go_sem]; try omega))) only [go_sem, Nat.reduceAdd, Nat.reduceEqDiff, Nat.reduceLeDiff, Nat.reduceMul, Nat.reduceLT, reduceIte, Int.reduceToNat, w64_id, cast_succ, ha, hav, dd])
      refine SW.condF rfl ?_
      repeat (first | (with_reducible first | refine SW.seq ?_ | refine SW.block ?_ | refine SW.rowC ?_ | refine SW.skip ?_ | refine SW.exit ?_ | intro _ | refine And.intro (by omega) ?_) | simp (config := { maxSteps := 1000000 }) (disch := (first | omega | (simp only [go_sem]; try omega))) only [go_sem, Nat.reduceAdd, Nat.reduceEqDiff, Nat.reduceLeDiff, Nat.reduceMul, Nat.reduceLT, reduceIte, Int.reduceToNat, w64_id, cast_succ, ha, hav])
      have hpl2 := insD_place cmpL_tot y hord hd (fun d h0 _ => absurd h0 (by omega)) hk
      have htk : (L.take k).length = k := by simp; omega
      have hdk : (L.drop k).length = L.length - k := by simp
      have htd : (L.drop k).take (L.length - k) = L.drop k := List.take_of_length_le (by simp)
      have htm : ((L.take k).map ilS).take k = (L.take k).map ilS := List.take_of_length_le (by simp; omega)
      have hlen : k + 1 + (L.length - k) = (L.take k ++ y :: L.drop k).length := by simp; omega
      repeat (first | (with_reducible first | refine SW.seq ?_ | refine SW.block ?_ | refine SW.rowC ?_ | refine SW.skip ?_ | refine SW.exit ?_ | refine PFn.use (l00OwnV_fn y hy) ?_ | refine PFn.useq (l00OwnV_fn y hy) ?_ | intro _ | refine And.intro (by omega) ?_) | simp (config := { maxSteps := 1000000 }) (disch := (first | omega | (simp only [go_sem]; try omega))) only [go_sem, Nat.reduceAdd, Nat.reduceEqDiff, Nat.reduceLeDiff, Nat.reduceMul, Nat.reduceLT, reduceIte, Int.reduceToNat, w64_id, cast_succ, ha, hav, hg, htk, hdk, htd, htm, Option.map_some, Option.map_none, slcRows, List.drop_zero, Int.toNat_natCast, Nat.sub_zero, Int.toNat_zero])
      have htn : (List.map ilS (L.take k ++ [y])).take (k + 1) = List.map ilS (L.take k ++ [y]) := List.take_of_length_le (by simp; omega)
      have hcells : (List.map ilS (L.take k ++ [y])).take (k + 1) ++ List.map ilS (L.drop k) = (L.take k ++ y :: L.drop k).map ilS := by rw [htn]; simp
      rw [hcells, hlen]
      refine SLoop.nextFz post.length [(0, a), (3, ilSS (L.take k ++ y :: L.drop k)), (4, I ((pre.length + 1 : Nat) : Int))] hB (by omega) (by simp) ?_ ⟨pre ++ [y], post, by simp [hpp], rfl, ?_, rfl⟩
      · simp only [go_sem, Nat.reduceEqDiff, reduceIte]
        refine .cons _ (.old _ (hab _ (Nat.le_refl _))) (.cons _ ?_ (.cons _ (ren_I _) .nil))
        rw [show (L.take k).length + ((L.drop k).length + 1) = (L.take k ++ y :: L.drop k).length by simp]
        exact ren_rowS (ver := 3) (ty := tyLL) (Nat.le_refl _) (by simp) (by simp)
      · rw [hsn, hpl2]; simp [go_sem]
    have dd : decide ((0 : Int) < (k : Int)) = true := decide_eq_true (by omega)
    have e1 : (k : Int) - 1 = ((k - 1 : Nat) : Int) := by omega
    by_cases hc : 0 < cmpL (L.getD (k - 1) []) y
    · have dc : decide (0 < cmpL (L.getD (k - 1) []) y) = true := decide_eq_true hc
      repeat (first | (with_reducible first | refine SW.seq ?_ | refine SW.block ?_ | refine SW.rowC ?_ | refine SW.skip ?_ | refine SW.exit ?_ | refine PFn.use (CompareLists_fn _ _) ?_ | refine PFn.useq (CompareLists_fn _ _) ?_ | intro _ | refine And.intro (by omega) ?_) | simp (config := { maxSteps := 1000000 }) (disch := (first | omega | (simp only [go_sem]; try omega))) only [go_sem, Nat.reduceAdd, Nat.reduceEqDiff, Nat.reduceLeDiff, Nat.reduceMul, Nat.reduceLT, reduceIte, Int.reduceToNat, w64_id, cast_succ, ha, hav, dd, e1, hg, dc])
      refine SW.condT rfl ?_
      repeat (first | (with_reducible first | refine SW.seq ?_ | refine SW.block ?_ | refine SW.rowC ?_ | refine SW.skip ?_ | refine SW.exit ?_ | intro _ | refine And.intro (by omega) ?_) | simp (config := { maxSteps := 1000000 }) (disch := (first | omega | (simp only [go_sem]; try omega))) only [go_sem, Nat.reduceAdd, Nat.reduceEqDiff, Nat.reduceLeDiff, Nat.reduceMul, Nat.reduceLT, reduceIte, Int.reduceToNat, w64_id, cast_succ, e1])
      refine SLoop.next (k - 1) (by omega) ⟨k - 1, by omega, rfl, ?_, rfl, ?_⟩
      · simp [go_sem]
      · have hlt : k - 1 < L.length := by omega
        rw [List.drop_eq_getElem_cons hlt]
        intro b hb
        rcases List.mem_cons.1 hb with rfl | hb
        · rw [List.getD_eq_getElem?_getD, List.getElem?_eq_getElem hlt] at hc; exact hc
        · rw [show k - 1 + 1 = k by omega] at hb; exact hd b hb
    · have dc : decide (0 < cmpL (L.getD (k - 1) []) y) = false := decide_eq_false hc
      repeat (first | (with_reducible first | refine SW.seq ?_ | refine SW.block ?_ | refine SW.rowC ?_ | refine SW.skip ?_ | refine SW.exit ?_ | refine PFn.use (CompareLists_fn _ _) ?_ | refine PFn.useq (CompareLists_fn _ _) ?_ | intro _ | refine And.intro (by omega) ?_) | simp (config := { maxSteps := 1000000 }) (disch := (first | omega | (simp only [go_sem]; try omega))) only [go_sem, Nat.reduceAdd, Nat.reduceEqDiff, Nat.reduceLeDiff, Nat.reduceMul, Nat.reduceLT, reduceIte, Int.reduceToNat, w64_id, cast_succ, ha, hav, dd, e1, hg, dc])
      refine SW.condF rfl ?_
      repeat (first | (with_reducible first | refine SW.seq ?_ | refine SW.block ?_ | refine SW.rowC ?_ | refine SW.skip ?_ | refine SW.exit ?_ | intro _ | refine And.intro (by omega) ?_) | simp (config := { maxSteps := 1000000 }) (disch := (first | omega | (simp only [go_sem]; try omega))) only [go_sem, Nat.reduceAdd, Nat.reduceEqDiff, Nat.reduceLeDiff, Nat.reduceMul, Nat.reduceLT, reduceIte, Int.reduceToNat, w64_id, cast_succ, ha, hav])
      have hpl2 := insD_place cmpL_tot y hord hd (fun d h0 _ => by rw [List.getD_eq_getElem?_getD] at hc ⊢; rw [List.getElem?_eq_getElem (by omega)] at hc ⊢; exact hc) hk
      have htk : (L.take k).length = k := by simp; omega
      have hdk : (L.drop k).length = L.length - k := by simp
      have htd : (L.drop k).take (L.length - k) = L.drop k := List.take_of_length_le (by simp)
      have htm : ((L.take k).map ilS).take k = (L.take k).map ilS := List.take_of_length_le (by simp; omega)
      have hlen : k + 1 + (L.length - k) = (L.take k ++ y :: L.drop k).length := by simp; omega
      repeat (first | (with_reducible first | refine SW.seq ?_ | refine SW.block ?_ | refine SW.rowC ?_ | refine SW.skip ?_ | refine SW.exit ?_ | refine PFn.use (l00OwnV_fn y hy) ?_ | refine PFn.useq (l00OwnV_fn y hy) ?_ | intro _ | refine And.intro (by omega) ?_) | simp (config := { maxSteps := 1000000 }) (disch := (first | omega | (simp only [go_sem]; try omega))) only [go_sem, Nat.reduceAdd, Nat.reduceEqDiff, Nat.reduceLeDiff, Nat.reduceMul, Nat.reduceLT, reduceIte, Int.reduceToNat, w64_id, cast_succ, ha, hav, hg, htk, hdk, htd, htm, Option.map_some, Option.map_none, slcRows, List.drop_zero, Int.toNat_natCast, Nat.sub_zero, Int.toNat_zero])
      have htn : (List.map ilS (L.take k ++ [y])).take (k + 1) = List.map ilS (L.take k ++ [y]) := List.take_of_length_le (by simp; omega)
      have hcells : (List.map ilS (L.take k ++ [y])).take (k + 1) ++ List.map ilS (L.drop k) = (L.take k ++ y :: L.drop k).map ilS := by rw [htn]; simp
      rw [hcells, hlen]
      refine SLoop.nextFz post.length [(0, a), (3, ilSS (L.take k ++ y :: L.drop k)), (4, I ((pre.length + 1 : Nat) : Int))] hB (by omega) (by simp) ?_ ⟨pre ++ [y], post, by simp [hpp], rfl, ?_, rfl⟩
      · simp only [go_sem, Nat.reduceEqDiff, reduceIte]
        refine .cons _ (.old _ (hab _ (Nat.le_refl _))) (.cons _ ?_ (.cons _ (ren_I _) .nil))
        rw [show (L.take k).length + ((L.drop k).length + 1) = (L.take k ++ y :: L.drop k).length by simp]
        exact ren_rowS (ver := 3) (ty := tyLL) (Nat.le_refl _) (by simp) (by simp)
      · rw [hsn, hpl2]; simp [go_sem]
  · obtain ⟨rfl, rfl⟩ := nilOf hpp (by omega)
    repeat (first | (with_reducible first | refine SW.seq ?_ | refine SW.block ?_ | refine SW.rowC ?_ | refine SW.skip ?_ | refine SW.exit ?_ | intro _ | refine And.intro (by omega) ?_) | simp (config := { maxSteps := 1000000 }) (disch := (first | omega | (simp only [go_sem]; try omega))) only [go_sem, Nat.reduceAdd, Nat.reduceEqDiff, Nat.reduceLeDiff, Nat.reduceMul, Nat.reduceLT, reduceIte, Int.reduceToNat, w64_id, cast_succ])
    refine SW.ret ?_; (try simp only [go_sem]); (first | refine FunPost.one ?_ | refine FunPost.two ?_ | refine FunPost.three ?_); (try simp (config := { maxSteps := 1000000 }) (disch := (first | omega | (simp only [go_sem]; try omega))) only [go_sem, Nat.reduceAdd, Nat.reduceEqDiff, Nat.reduceLeDiff, Nat.reduceMul, Nat.reduceLT, reduceIte, Int.reduceToNat, w64_id, cast_succ]); (first | (with_reducible refine GR.drop ?_ ?_; (simp only [go_sem, and_self, and_true, true_and, implies_true, List.take_succ_cons, List.take_zero])) | refine GR.of ?_); refine ⟨?_, rfl⟩; (try with_reducible rfl)
    rw [hL0]

theorem clone_fnX (x : List Int) (hl : x.length ≤ 2000000) : PFn Tryz.prog f_slices_Clone_Lint64_int64 [ilS x] (ilS x) := fun H =>
  (clone_ok H _ x (rd_ilS _ _) (by omega)).gr (by
    rintro r H' ⟨ver, rfl, rfl⟩
    exact GR.froz (froz_rowI (ver := ver) (ty := 2) (Nat.le_refl _) (by simp)) ⟨rfl, rfl⟩)

theorem copyLists_fz (H : List Blk) (a : AV) (xss : List (List Int)) (ha : aview H a = some (xss.length, xss.map ilS)) (hl : xss.length ≤ 1000000) (hr : ∀ x ∈ xss, x.length ≤ 2000000) : ACalls Tryz.prog f_impl_copyLists [a] H (fun r H' => ∃ ver, r = .nm H.length ver 0 xss.length ∧ H' = H ++ [⟨ver, tyLL, 1, xss.map ilS⟩]) := by
  have hav : ∀ ext, aview (H ++ ext) a = some (xss.length, xss.map ilS) := fun ext => aview_append ha ext
  refine ACalls.introB s_impl_copyLists (by simp) ?_; intro hB hA; unfold c_impl_copyLists; simp (config := { maxSteps := 1000000 }) (disch := (first | omega | (simp only [go_sem]; try omega))) only [go_sem, Nat.reduceAdd, Nat.reduceEqDiff, Nat.reduceLeDiff, Nat.reduceMul, Nat.reduceLT, reduceIte, Int.reduceToNat, w64_id, cast_succ]
  have hab : ∀ k, H.length ≤ k → Bel k a := fun k hk => (hA a (by simp)).mono hk
  have hab1 := hab (H.length + 1) (by omega)
  repeat (first | (with_reducible first | refine SW.seq ?_ | refine SW.block ?_ | refine SW.rowC ?_ | refine SW.skip ?_ | refine SW.exit ?_ | intro _ | refine And.intro (by omega) ?_) | simp (config := { maxSteps := 1000000 }) (disch := (first | omega | (simp only [go_sem]; try omega))) only [go_sem, Nat.reduceAdd, Nat.reduceEqDiff, Nat.reduceLeDiff, Nat.reduceMul, Nat.reduceLT, reduceIte, Int.reduceToNat, w64_id, cast_succ, ha, hav])
  refine SW.ghost (Gh.name 3 51 1 rfl) ?_
  simp (config := { maxSteps := 1000000 }) (disch := (first | omega | (simp only [go_sem]; try omega))) only [go_sem, Nat.reduceAdd, Nat.reduceEqDiff, Nat.reduceLeDiff, Nat.reduceMul, Nat.reduceLT, reduceIte, Int.reduceToNat, w64_id, cast_succ]
  refine SW.loopE (fun E0 H0 q E' H' => ∃ (pre post : List (List Int)) (ver : Nat), xss = pre ++ post ∧ q = post.length ∧ E' = aput (aput E0 8 (I pre.length)) 3 (.nm H.length ver 0 pre.length) ∧ H' = H ++ [⟨ver, tyLL, 1, pre.map ilS⟩]) xss.length ⟨[], xss, 0, rfl, rfl, rfl, rfl⟩ ?_
  rintro q E' H' ⟨pre, post, ver, hpp, rfl, rfl, rfl⟩
  have hpl : pre.length ≤ 1000000 := by rw [hpp] at hl; simp at hl; omega
  have htl : (pre.map ilS).take pre.length = pre.map ilS := List.take_of_length_le (by simp)
  simp (config := { maxSteps := 1000000 }) (disch := (first | omega | (simp only [go_sem]; try omega))) only [go_sem, Nat.reduceAdd, Nat.reduceEqDiff, Nat.reduceLeDiff, Nat.reduceMul, Nat.reduceLT, reduceIte, Int.reduceToNat, w64_id, cast_succ]
  repeat (first | (with_reducible first | refine SW.seq ?_ | refine SW.block ?_ | refine SW.rowC ?_ | refine SW.skip ?_ | refine SW.exit ?_ | intro _ | refine And.intro (by omega) ?_) | simp (config := { maxSteps := 1000000 }) (disch := (first | omega | (simp only [go_sem]; try omega))) only [go_sem, Nat.reduceAdd, Nat.reduceEqDiff, Nat.reduceLeDiff, Nat.reduceMul, Nat.reduceLT, reduceIte, Int.reduceToNat, w64_id, cast_succ, hav])
  (first | refine SW.condD rfl (fun h => ?_) (fun h => ?_) | refine SW.condN rfl (fun h => ?_) (fun h => ?_) | refine SW.condNB rfl (fun h => ?_) (fun h => ?_) | refine SW.condB rfl (fun h => ?_) (fun h => ?_))
  · obtain ⟨y, post, rfl, hg, -⟩ := consOf (d := []) hpp (by omega)
    repeat (first | (with_reducible first | refine SW.seq ?_ | refine SW.block ?_ | refine SW.rowC ?_ | refine SW.skip ?_ | refine SW.exit ?_ | refine PFn.use (clone_fnX y (hr y (by rw [hpp]; simp))) ?_ | refine PFn.useq (clone_fnX y (hr y (by rw [hpp]; simp))) ?_ | intro _ | refine And.intro (by omega) ?_) | simp (config := { maxSteps := 1000000 }) (disch := (first | omega | (simp only [go_sem]; try omega))) only [go_sem, Nat.reduceAdd, Nat.reduceEqDiff, Nat.reduceLeDiff, Nat.reduceMul, Nat.reduceLT, reduceIte, Int.reduceToNat, w64_id, cast_succ, hav, hg, htl])
    refine SLoop.nextT 1 post.length hB (by omega) (by simp) (by simp) ?_ ?_ ⟨pre ++ [y], post, ver + 1, by simp [hpp], rfl, ?_, ?_⟩
    · (simp only [go_sem, Nat.reduceAdd, Nat.reduceEqDiff, reduceIte, go_sem, and_self, and_true, true_and, implies_true, List.take_succ_cons, List.take_zero, and_true, true_and, hab1]; try omega)
    · (simp only [go_sem, Nat.reduceAdd, Nat.reduceEqDiff, reduceIte, go_sem, and_self, and_true, true_and, implies_true, List.take_succ_cons, List.take_zero, and_true, true_and, hab1]; try omega)
    · simp [go_sem]
    · simp
  · obtain ⟨rfl, rfl⟩ := nilOf hpp (by omega)
    repeat (first | (with_reducible first | refine SW.seq ?_ | refine SW.block ?_ | refine SW.rowC ?_ | refine SW.skip ?_ | refine SW.exit ?_ | intro _ | refine And.intro (by omega) ?_) | simp (config := { maxSteps := 1000000 }) (disch := (first | omega | (simp only [go_sem]; try omega))) only [go_sem, Nat.reduceAdd, Nat.reduceEqDiff, Nat.reduceLeDiff, Nat.reduceMul, Nat.reduceLT, reduceIte, Int.reduceToNat, w64_id, cast_succ])
    refine SW.ret ?_; (try simp only [go_sem]); (first | refine FunPost.one ?_ | refine FunPost.two ?_ | refine FunPost.three ?_); (try simp (config := { maxSteps := 1000000 }) (disch := (first | omega | (simp only [go_sem]; try omega))) only [go_sem, Nat.reduceAdd, Nat.reduceEqDiff, Nat.reduceLeDiff, Nat.reduceMul, Nat.reduceLT, reduceIte, Int.reduceToNat, w64_id, cast_succ])
    exact GR.of ⟨ver, rfl, rfl⟩

abbrev tyDX : Nat := 31
theorem sorted_ok (H : List Blk) (a : AV) (n : Int) (bs : List (List Int)) (ha : aview H a = some (bs.length, bs.map ilS)) (hl : bs.length ≤ 128) (hr : ∀ x ∈ bs, x.length ≤ 2000000) : ACalls Tryz.prog f_impl_sorted [I n, a] H (fun r H' => r = .tup [.agg [I n, ilSS (sortD cmpL bs)], I 0] ∧ H' = H) := by
  have dd : decide ((128 : Int) < (bs.length : Int)) = false := decide_eq_false (by omega)
  have hav : ∀ ext, aview (H ++ ext) a = some (bs.length, bs.map ilS) := fun ext => aview_append ha ext
  refine ACalls.introB s_impl_sorted (by simp) ?_; intro hB hA; unfold c_impl_sorted; simp (config := { maxSteps := 1000000 }) (disch := (first | omega | (simp only [go_sem]; try omega))) only [go_sem, Nat.reduceAdd, Nat.reduceEqDiff, Nat.reduceLeDiff, Nat.reduceMul, Nat.reduceLT, reduceIte, Int.reduceToNat, w64_id, cast_succ]
  repeat (first | (with_reducible first | refine SW.seq ?_ | refine SW.block ?_ | refine SW.rowC ?_ | refine SW.skip ?_ | refine SW.exit ?_ | intro _ | refine And.intro (by omega) ?_) | simp (config := { maxSteps := 1000000 }) (disch := (first | omega | (simp only [go_sem]; try omega))) only [go_sem, Nat.reduceAdd, Nat.reduceEqDiff, Nat.reduceLeDiff, Nat.reduceMul, Nat.reduceLT, reduceIte, Int.reduceToNat, w64_id, cast_succ, hav, dd])
  refine SW.condF rfl ?_
  repeat (first | (with_reducible first | refine SW.seq ?_ | refine SW.block ?_ | refine SW.rowC ?_ | refine SW.skip ?_ | refine SW.exit ?_ | intro _ | refine And.intro (by omega) ?_) | simp (config := { maxSteps := 1000000 }) (disch := (first | omega | (simp only [go_sem]; try omega))) only [go_sem, Nat.reduceAdd, Nat.reduceEqDiff, Nat.reduceLeDiff, Nat.reduceMul, Nat.reduceLT, reduceIte, Int.reduceToNat, w64_id, cast_succ])
  refine (copyLists_fz _ a bs (hav _) (by omega) hr).mono ?_
  rintro r H' ⟨ver, rfl, rfl⟩
  repeat (first | (with_reducible first | refine SW.seq ?_ | refine SW.block ?_ | refine SW.rowC ?_ | refine SW.skip ?_ | refine SW.exit ?_ | intro _ | refine And.intro (by omega) ?_) | simp (config := { maxSteps := 1000000 }) (disch := (first | omega | (simp only [go_sem]; try omega))) only [go_sem, Nat.reduceAdd, Nat.reduceEqDiff, Nat.reduceLeDiff, Nat.reduceMul, Nat.reduceLT, reduceIte, Int.reduceToNat, w64_id, cast_succ])
  refine (sortFz_ok _ (H.length + 1) ver tyLL bs (by simp) (by omega)).mono ?_
  rintro r H' ⟨rfl, yss, hpm, hsd, rfl⟩
  have hy : yss = sortD cmpL bs := sorted_isD cmpL_tot hpm hsd
  have hyl : yss.length = bs.length := hpm.length_eq
  rw [← hy]
  repeat (first | (with_reducible first | refine SW.seq ?_ | refine SW.block ?_ | refine SW.rowC ?_ | refine SW.skip ?_ | refine SW.exit ?_ | intro _ | refine And.intro (by omega) ?_) | simp (config := { maxSteps := 1000000 }) (disch := (first | omega | (simp only [go_sem]; try omega))) only [go_sem, Nat.reduceAdd, Nat.reduceEqDiff, Nat.reduceLeDiff, Nat.reduceMul, Nat.reduceLT, reduceIte, Int.reduceToNat, w64_id, cast_succ])
  refine SW.ret ?_
  refine FunPost.cell_tmp (cs := [I n, .nm (H.length + 1) ver 0 bs.length]) (by simp (config := { maxSteps := 1000000 }) (disch := (first | omega | (simp only [go_sem]; try omega))) only [go_sem, Nat.reduceAdd, Nat.reduceEqDiff, Nat.reduceLeDiff, Nat.reduceMul, Nat.reduceLT, reduceIte, Int.reduceToNat, w64_id, cast_succ]) ?_
  rw [← hyl]
  exact GR.froz (r' := .tup [.agg [I n, ilSS yss], I 0]) (froz_tup2 (froz_agg2 (froz_I' _) (froz_rowS (r := H.length + 1) (ver := ver) (ty := tyLL) (xs := yss) (by omega) (by simp))) (froz_I' _)) ⟨rfl, rfl⟩

def rdV (p : List Int) (bs : List (List Int)) : List (List Int) := sortD cmpL (bs.map (img p))
theorem img_len (p b : List Int) : (img p b).length ≤ b.length := by
  unfold img
  have := sortU_len (cf := cmpZ) (b.map (pa p))
  simpa using this
theorem relabeled_fn (n : Nat) (p : List Int) (bs : List (List Int)) (hn : n ≤ 32) (hp : permOk n p) (hb : ∀ b ∈ bs, asc 0 ((n : Int) - 1) b = true) (hl : bs.length ≤ 128) (hr : ∀ x ∈ bs, x.length ≤ 2000000) :
    PFn Tryz.prog f_impl_relabeled [.agg [I n, ilSS bs], ilS p] (.agg [I n, ilSS (rdV p bs)]) := by
  have hso := fun H a ha => sorted_ok H a n (bs.map (img p)) ha (by simpa using hl) (fun x hx => by obtain ⟨b, hb2, rfl⟩ := List.mem_map.1 hx; have := img_len p b; have := hr b hb2; omega)
  intro H; refine ACalls.introB s_impl_relabeled (by simp) ?_; intro hB hA; unfold c_impl_relabeled; simp (config := { maxSteps := 1000000 }) (disch := (first | omega | (simp only [go_sem]; try omega))) only [go_sem, Nat.reduceAdd, Nat.reduceEqDiff, Nat.reduceLeDiff, Nat.reduceMul, Nat.reduceLT, reduceIte, Int.reduceToNat, w64_id, cast_succ]
  repeat (first | (with_reducible first | refine SW.seq ?_ | refine SW.block ?_ | refine SW.rowC ?_ | refine SW.skip ?_ | refine SW.exit ?_ | intro _ | refine And.intro (by omega) ?_) | simp (config := { maxSteps := 1000000 }) (disch := (first | omega | (simp only [go_sem]; try omega))) only [go_sem, Nat.reduceAdd, Nat.reduceEqDiff, Nat.reduceLeDiff, Nat.reduceMul, Nat.reduceLT, reduceIte, Int.reduceToNat, w64_id, cast_succ])
  refine SW.ghost (Gh.name 5 51 1 rfl) ?_
  simp (config := { maxSteps := 1000000 }) (disch := (first | omega | (simp only [go_sem]; try omega))) only [go_sem, Nat.reduceAdd, Nat.reduceEqDiff, Nat.reduceLeDiff, Nat.reduceMul, Nat.reduceLT, reduceIte, Int.reduceToNat, w64_id, cast_succ]
  refine SW.loopE (fun E0 H0 q E' H' => ∃ (pre post : List (List Int)) (ver : Nat), bs = pre ++ post ∧ q = post.length ∧ E' = aput (aput E0 13 (I pre.length)) 5 (.nm (H.length + 2) ver 0 (pre.map (img p)).length) ∧ H' = H ++ [⟨0, tyDX, 1, [I n, ilSS bs]⟩, ⟨0, tyDX, 1, [I 0, nilS]⟩, ⟨ver, tyLL, 1, (pre.map (img p)).map ilS⟩]) bs.length ⟨[], bs, 0, rfl, rfl, rfl, rfl⟩ ?_
  rintro q E' H' ⟨pre, post, ver, hpp, rfl, rfl, rfl⟩
  have hpl : pre.length ≤ 128 := by rw [hpp] at hl; simp at hl; omega
  have hml : (pre.map (img p)).length = pre.length := by simp
  have hms : ∀ y, (pre ++ [y]).map (img p) = pre.map (img p) ++ [img p y] := fun y => by simp
  generalize hM : pre.map (img p) = M at *
  have htl : (M.map ilS).take M.length = M.map ilS := List.take_of_length_le (by simp)
  simp (config := { maxSteps := 1000000 }) (disch := (first | omega | (simp only [go_sem]; try omega))) only [go_sem, Nat.reduceAdd, Nat.reduceEqDiff, Nat.reduceLeDiff, Nat.reduceMul, Nat.reduceLT, reduceIte, Int.reduceToNat, w64_id, cast_succ]
  repeat (first | (with_reducible first | refine SW.seq ?_ | refine SW.block ?_ | refine SW.rowC ?_ | refine SW.skip ?_ | refine SW.exit ?_ | intro _ | refine And.intro (by omega) ?_) | simp (config := { maxSteps := 1000000 }) (disch := (first | omega | (simp only [go_sem]; try omega))) only [go_sem, Nat.reduceAdd, Nat.reduceEqDiff, Nat.reduceLeDiff, Nat.reduceMul, Nat.reduceLT, reduceIte, Int.reduceToNat, w64_id, cast_succ])
  (first | refine SW.condD rfl (fun h => ?_) (fun h => ?_) | refine SW.condN rfl (fun h => ?_) (fun h => ?_) | refine SW.condNB rfl (fun h => ?_) (fun h => ?_) | refine SW.condB rfl (fun h => ?_) (fun h => ?_))
  · obtain ⟨y, post, rfl, hg, -⟩ := consOf (d := []) hpp (by omega)
    repeat (first | (with_reducible first | refine SW.seq ?_ | refine SW.block ?_ | refine SW.rowC ?_ | refine SW.skip ?_ | refine SW.exit ?_ | refine PFn.use (image_fn n p y (by omega) hp (hb y (by rw [hpp]; simp))) ?_ | refine PFn.useq (image_fn n p y (by omega) hp (hb y (by rw [hpp]; simp))) ?_ | intro _ | refine And.intro (by omega) ?_) | simp (config := { maxSteps := 1000000 }) (disch := (first | omega | (simp only [go_sem]; try omega))) only [go_sem, Nat.reduceAdd, Nat.reduceEqDiff, Nat.reduceLeDiff, Nat.reduceMul, Nat.reduceLT, reduceIte, Int.reduceToNat, w64_id, cast_succ, hg, htl])
    refine SLoop.nextT 3 post.length hB (by omega) (by simp) (by simp) ?_ ?_ ⟨pre ++ [y], post, ver + 1, by simp [hpp], rfl, ?_, ?_⟩
    · (simp only [go_sem, Nat.reduceAdd, Nat.reduceEqDiff, reduceIte, go_sem, and_self, and_true, true_and, implies_true, List.take_succ_cons, List.take_zero, and_true, true_and]; try omega)
    · (simp only [go_sem, Nat.reduceAdd, Nat.reduceEqDiff, reduceIte, go_sem, and_self, and_true, true_and, implies_true, List.take_succ_cons, List.take_zero, and_true, true_and]; try omega)
    · simp [go_sem, hml]
    · rw [hms]; simp
  · obtain ⟨rfl, rfl⟩ := nilOf hpp (by omega)
    rw [hM] at hso
    repeat (first | (with_reducible first | refine SW.seq ?_ | refine SW.block ?_ | refine SW.rowC ?_ | refine SW.skip ?_ | refine SW.exit ?_ | intro _ | refine And.intro (by omega) ?_) | simp (config := { maxSteps := 1000000 }) (disch := (first | omega | (simp only [go_sem]; try omega))) only [go_sem, Nat.reduceAdd, Nat.reduceEqDiff, Nat.reduceLeDiff, Nat.reduceMul, Nat.reduceLT, reduceIte, Int.reduceToNat, w64_id, cast_succ])
    refine ACalls.fn (hso _ _ (view_nm (ver := ver) (ty := tyLL) (cells := M.map ilS) (by simp) (by simp))) ?_
    repeat (first | (with_reducible first | refine SW.seq ?_ | refine SW.block ?_ | refine SW.rowC ?_ | refine SW.skip ?_ | refine SW.exit ?_ | intro _ | refine And.intro (by omega) ?_) | simp (config := { maxSteps := 1000000 }) (disch := (first | omega | (simp only [go_sem]; try omega))) only [go_sem, Nat.reduceAdd, Nat.reduceEqDiff, Nat.reduceLeDiff, Nat.reduceMul, Nat.reduceLT, reduceIte, Int.reduceToNat, w64_id, cast_succ])
    refine SW.ret ?_
    refine FunPost.cell (cs := [I n, ilSS (sortD cmpL M)]) (by simp (config := { maxSteps := 1000000 }) (disch := (first | omega | (simp only [go_sem]; try omega))) only [go_sem, Nat.reduceAdd, Nat.reduceEqDiff, Nat.reduceLeDiff, Nat.reduceMul, Nat.reduceLT, reduceIte, Int.reduceToNat, w64_id, cast_succ]) ?_
    refine GR.drop ?_ ?_
    · (simp only [go_sem, Nat.reduceAdd, Nat.reduceEqDiff, reduceIte, go_sem, and_self, and_true, true_and, implies_true, List.take_succ_cons, List.take_zero, and_true, true_and]; try omega)
    · exact ⟨by unfold rdV; rw [hM], rfl⟩

theorem l10Image_ok (H : List Blk) (t : Nat) (n : Nat) (bs : List (List Int)) (p : List Int) (hn : n ≤ 32) (hp : permOk n p) (hb : ∀ b ∈ bs, asc 0 ((n : Int) - 1) b = true) (hl : bs.length ≤ 128) (hr : ∀ x ∈ bs, x.length ≤ 2000000) (ht : H[t]? = some ⟨0, tyDX, 1, [I n, ilSS bs]⟩) :
    ACalls Tryz.prog f_spec_l10Image [.pc t 0 0, ilS p] H (fun r H' => r = .agg [I n, ilSS (rdV p bs)] ∧ H' = H) := by
  have hpa := fun (ext : List Blk) (o : Nat) => pc_alive (off := o) (get_appB2 ht ext)
  have hpl := fun (ext : List Blk) (o : Nat) => pc_ld (off := o) (get_appB2 ht ext)
  have hso := fun H a ha => l10Sort_ok H a (bs.map (img p)) ha (by rw [List.length_map]; omega) (fun x hx => by obtain ⟨b, hb2, rfl⟩ := List.mem_map.1 hx; have := img_len p b; have := hr b hb2; omega)
  refine ACalls.introB s_spec_l10Image (by simp) ?_; intro hB hA; unfold c_spec_l10Image; simp (config := { maxSteps := 1000000 }) (disch := (first | omega | (simp only [go_sem]; try omega))) only [go_sem, Nat.reduceAdd, Nat.reduceEqDiff, Nat.reduceLeDiff, Nat.reduceMul, Nat.reduceLT, reduceIte, Int.reduceToNat, w64_id, cast_succ]
  repeat (first | (with_reducible first | refine SW.seq ?_ | refine SW.block ?_ | refine SW.rowC ?_ | refine SW.skip ?_ | refine SW.exit ?_ | intro _ | refine And.intro (by omega) ?_) | simp (config := { maxSteps := 1000000 }) (disch := (first | omega | (simp only [go_sem]; try omega))) only [go_sem, Nat.reduceAdd, Nat.reduceEqDiff, Nat.reduceLeDiff, Nat.reduceMul, Nat.reduceLT, reduceIte, Int.reduceToNat, w64_id, cast_succ, hpa, hpl])
  have htl := (List.getElem?_eq_some_iff.1 ht).1
  refine SW.loopE (fun E0 H0 q E' H' => ∃ (pre post : List (List Int)) (ver : Nat), bs = pre ++ post ∧ q = post.length ∧ E' = aput (aput E0 6 (I pre.length)) 5 (.nm (H.length + 1) ver 0 (pre.map (img p)).length) ∧ H' = H ++ [⟨0, tyDX, 1, [I 0, nilS]⟩, ⟨ver, tyLL, 1, (pre.map (img p)).map ilS⟩]) bs.length ⟨[], bs, 0, rfl, rfl, rfl, rfl⟩ ?_
  rintro q E' H' ⟨pre, post, ver, hpp, rfl, rfl, rfl⟩
  have hpl2 : pre.length ≤ 128 := by rw [hpp] at hl; simp at hl; omega
  have hml : (pre.map (img p)).length = pre.length := by simp
  have hms : ∀ y, (pre ++ [y]).map (img p) = pre.map (img p) ++ [img p y] := fun y => by simp
  generalize hM : pre.map (img p) = M at *
  simp (config := { maxSteps := 1000000 }) (disch := (first | omega | (simp only [go_sem]; try omega))) only [go_sem, Nat.reduceAdd, Nat.reduceEqDiff, Nat.reduceLeDiff, Nat.reduceMul, Nat.reduceLT, reduceIte, Int.reduceToNat, w64_id, cast_succ]
  repeat (first | (with_reducible first | refine SW.seq ?_ | refine SW.block ?_ | refine SW.rowC ?_ | refine SW.skip ?_ | refine SW.exit ?_ | intro _ | refine And.intro (by omega) ?_) | simp (config := { maxSteps := 1000000 }) (disch := (first | omega | (simp only [go_sem]; try omega))) only [go_sem, Nat.reduceAdd, Nat.reduceEqDiff, Nat.reduceLeDiff, Nat.reduceMul, Nat.reduceLT, reduceIte, Int.reduceToNat, w64_id, cast_succ, hpa, hpl])
  (first | refine SW.condD rfl (fun h2 => ?_) (fun h2 => ?_) | refine SW.condN rfl (fun h2 => ?_) (fun h2 => ?_) | refine SW.condNB rfl (fun h2 => ?_) (fun h2 => ?_) | refine SW.condB rfl (fun h2 => ?_) (fun h2 => ?_))
  · obtain ⟨y, post, rfl, hg, -⟩ := consOf (d := []) hpp (by omega)
    have htl2 : (M.map ilS).take M.length = M.map ilS := List.take_of_length_le (by simp)
    repeat (first | (with_reducible first | refine SW.seq ?_ | refine SW.block ?_ | refine SW.rowC ?_ | refine SW.skip ?_ | refine SW.exit ?_ | refine PFn.use (l04Image_fn n p y (by omega) hp (hb y (by rw [hpp]; simp))) ?_ | refine PFn.useq (l04Image_fn n p y (by omega) hp (hb y (by rw [hpp]; simp))) ?_ | intro _ | refine And.intro (by omega) ?_) | simp (config := { maxSteps := 1000000 }) (disch := (first | omega | (simp only [go_sem]; try omega))) only [go_sem, Nat.reduceAdd, Nat.reduceEqDiff, Nat.reduceLeDiff, Nat.reduceMul, Nat.reduceLT, reduceIte, Int.reduceToNat, w64_id, cast_succ, hpa, hpl, hg, htl2])
    refine SLoop.nextT 2 post.length hB (by omega) (by simp) (by simp) ?_ ?_ ⟨pre ++ [y], post, ver + 1, by simp [hpp], rfl, ?_, ?_⟩
    · (simp only [go_sem, Nat.reduceAdd, Nat.reduceEqDiff, reduceIte, go_sem, and_self, and_true, true_and, implies_true, List.take_succ_cons, List.take_zero, and_true, true_and]; try omega)
    · (simp only [go_sem, Nat.reduceAdd, Nat.reduceEqDiff, reduceIte, go_sem, and_self, and_true, true_and, implies_true, List.take_succ_cons, List.take_zero, and_true, true_and]; try omega)
    · simp [go_sem, hml]
    · rw [hms]; simp
  · obtain ⟨rfl, rfl⟩ := nilOf hpp (by omega)
    rw [hM] at hso
    repeat (first | (with_reducible first | refine SW.seq ?_ | refine SW.block ?_ | refine SW.rowC ?_ | refine SW.skip ?_ | refine SW.exit ?_ | intro _ | refine And.intro (by omega) ?_) | simp (config := { maxSteps := 1000000 }) (disch := (first | omega | (simp only [go_sem]; try omega))) only [go_sem, Nat.reduceAdd, Nat.reduceEqDiff, Nat.reduceLeDiff, Nat.reduceMul, Nat.reduceLT, reduceIte, Int.reduceToNat, w64_id, cast_succ, hpa, hpl])
    have hvw : aview (H ++ [⟨0, tyDX, 1, [I 0, nilS]⟩, ⟨ver, tyLL, 1, M.map ilS⟩]) (.nm (H.length + 1) ver 0 M.length) = some (M.length, M.map ilS) := view_nm (ty := tyLL) (by simp) (by simp)
    refine QcallW.of (fun ext => hso _ _ (aview_append hvw ext)) ?_
    repeat (first | (with_reducible first | refine SW.seq ?_ | refine SW.block ?_ | refine SW.rowC ?_ | refine SW.skip ?_ | refine SW.exit ?_ | intro _ | refine And.intro (by omega) ?_) | simp (config := { maxSteps := 1000000 }) (disch := (first | omega | (simp only [go_sem]; try omega))) only [go_sem, Nat.reduceAdd, Nat.reduceEqDiff, Nat.reduceLeDiff, Nat.reduceMul, Nat.reduceLT, reduceIte, Int.reduceToNat, w64_id, cast_succ, hpa, hpl])
    refine SW.ret ?_
    refine FunPost.cell (cs := [I n, ilSS (sortD cmpL M)]) (by simp (config := { maxSteps := 1000000 }) (disch := (first | omega | (simp only [go_sem]; try omega))) only [go_sem, Nat.reduceAdd, Nat.reduceEqDiff, Nat.reduceLeDiff, Nat.reduceMul, Nat.reduceLT, reduceIte, Int.reduceToNat, w64_id, cast_succ]) ?_
    refine GR.drop ?_ ?_
    · (simp only [go_sem, Nat.reduceAdd, Nat.reduceEqDiff, reduceIte, go_sem, and_self, and_true, true_and, implies_true, List.take_succ_cons, List.take_zero, and_true, true_and]; try omega)
    · exact ⟨by unfold rdV; rw [hM], rfl⟩

theorem implSameDesign_fn (n m : Int) (xs ys : List (List Int)) : PFn Tryz.prog f_impl_SameDesign [.agg [I n, ilSS xs], .agg [I m, ilSS ys]] (Bv (decide (n = m) && decide (xs = ys))) := by
  have ha : PFn Tryz.prog f_impl_areSame [ilSS xs, ilSS ys] (Bv (decide (xs = ys))) := fun H => areSame_ok H _ _ xs ys (rd_ilSS _ _) (rd_ilSS _ _)
  intro H; refine ACalls.introB s_impl_SameDesign (by simp) ?_; intro hB hA; unfold c_impl_SameDesign; simp (config := { maxSteps := 1000000 }) (disch := (first | omega | (simp only [go_sem]; try omega))) only [go_sem, Nat.reduceAdd, Nat.reduceEqDiff, Nat.reduceLeDiff, Nat.reduceMul, Nat.reduceLT, reduceIte, Int.reduceToNat, w64_id, cast_succ]
  repeat (first | (with_reducible first | refine SW.seq ?_ | refine SW.block ?_ | refine SW.rowC ?_ | refine SW.skip ?_ | refine SW.exit ?_ | intro _ | refine And.intro (by omega) ?_) | simp (config := { maxSteps := 1000000 }) (disch := (first | omega | (simp only [go_sem]; try omega))) only [go_sem, Nat.reduceAdd, Nat.reduceEqDiff, Nat.reduceLeDiff, Nat.reduceMul, Nat.reduceLT, reduceIte, Int.reduceToNat, w64_id, cast_succ])
  (first | refine GSplit.df (fun h => ?_) (fun h => ?_) | refine GSplit.dt (fun h => ?_) (fun h => ?_) | refine GSplit.ndf (fun h => ?_) (fun h => ?_) | refine GSplit.ndt (fun h => ?_) (fun h => ?_) | refine GSplit.nbf (fun h => ?_) (fun h => ?_) | refine GSplit.nbt (fun h => ?_) (fun h => ?_) | refine GSplit.bf (fun h => ?_) (fun h => ?_) | refine GSplit.bt (fun h => ?_) (fun h => ?_))
  · repeat (first | (with_reducible first | refine SW.seq ?_ | refine SW.block ?_ | refine SW.rowC ?_ | refine SW.skip ?_ | refine SW.exit ?_ | refine PFn.use (ha) ?_ | refine PFn.useq (ha) ?_ | intro _ | refine And.intro (by omega) ?_) | simp (config := { maxSteps := 1000000 }) (disch := (first | omega | (simp only [go_sem]; try omega))) only [go_sem, Nat.reduceAdd, Nat.reduceEqDiff, Nat.reduceLeDiff, Nat.reduceMul, Nat.reduceLT, reduceIte, Int.reduceToNat, w64_id, cast_succ])
    refine SW.ret ?_; (try simp only [go_sem]); (first | refine FunPost.one ?_ | refine FunPost.two ?_ | refine FunPost.three ?_); (try simp (config := { maxSteps := 1000000 }) (disch := (first | omega | (simp only [go_sem]; try omega))) only [go_sem, Nat.reduceAdd, Nat.reduceEqDiff, Nat.reduceLeDiff, Nat.reduceMul, Nat.reduceLT, reduceIte, Int.reduceToNat, w64_id, cast_succ]); (first | (with_reducible refine GR.drop ?_ ?_; (simp only [go_sem, and_self, and_true, true_and, implies_true, List.take_succ_cons, List.take_zero])) | refine GR.of ?_); refine ⟨?_, rfl⟩; (try with_reducible rfl)
    rw [decide_eq_true h, Bool.true_and]
  · repeat (first | (with_reducible first | refine SW.seq ?_ | refine SW.block ?_ | refine SW.rowC ?_ | refine SW.skip ?_ | refine SW.exit ?_ | intro _ | refine And.intro (by omega) ?_) | simp (config := { maxSteps := 1000000 }) (disch := (first | omega | (simp only [go_sem]; try omega))) only [go_sem, Nat.reduceAdd, Nat.reduceEqDiff, Nat.reduceLeDiff, Nat.reduceMul, Nat.reduceLT, reduceIte, Int.reduceToNat, w64_id, cast_succ])
    refine SW.ret ?_; (try simp only [go_sem]); (first | refine FunPost.one ?_ | refine FunPost.two ?_ | refine FunPost.three ?_); (try simp (config := { maxSteps := 1000000 }) (disch := (first | omega | (simp only [go_sem]; try omega))) only [go_sem, Nat.reduceAdd, Nat.reduceEqDiff, Nat.reduceLeDiff, Nat.reduceMul, Nat.reduceLT, reduceIte, Int.reduceToNat, w64_id, cast_succ]); (first | (with_reducible refine GR.drop ?_ ?_; (simp only [go_sem, and_self, and_true, true_and, implies_true, List.take_succ_cons, List.take_zero])) | refine GR.of ?_); refine ⟨?_, rfl⟩; (try with_reducible rfl)
    rw [decide_eq_false h, Bool.false_and]
theorem specSameDesign_fn (n m : Int) (xs ys : List (List Int)) : PFn Tryz.prog f_spec_SameDesign [.agg [I n, ilSS xs], .agg [I m, ilSS ys]] (Bv (decide (n = m) && decide (xs = ys))) := by
  have ha := l10SameV_fn xs ys
  intro H; refine ACalls.introB s_spec_SameDesign (by simp) ?_; intro hB hA; unfold c_spec_SameDesign; simp (config := { maxSteps := 1000000 }) (disch := (first | omega | (simp only [go_sem]; try omega))) only [go_sem, Nat.reduceAdd, Nat.reduceEqDiff, Nat.reduceLeDiff, Nat.reduceMul, Nat.reduceLT, reduceIte, Int.reduceToNat, w64_id, cast_succ]
  repeat (first | (with_reducible first | refine SW.seq ?_ | refine SW.block ?_ | refine SW.rowC ?_ | refine SW.skip ?_ | refine SW.exit ?_ | intro _ | refine And.intro (by omega) ?_) | simp (config := { maxSteps := 1000000 }) (disch := (first | omega | (simp only [go_sem]; try omega))) only [go_sem, Nat.reduceAdd, Nat.reduceEqDiff, Nat.reduceLeDiff, Nat.reduceMul, Nat.reduceLT, reduceIte, Int.reduceToNat, w64_id, cast_succ])
  (first | refine GSplit.df (fun h => ?_) (fun h => ?_) | refine GSplit.dt (fun h => ?_) (fun h => ?_) | refine GSplit.ndf (fun h => ?_) (fun h => ?_) | refine GSplit.ndt (fun h => ?_) (fun h => ?_) | refine GSplit.nbf (fun h => ?_) (fun h => ?_) | refine GSplit.nbt (fun h => ?_) (fun h => ?_) | refine GSplit.bf (fun h => ?_) (fun h => ?_) | refine GSplit.bt (fun h => ?_) (fun h => ?_))
  · repeat (first | (with_reducible first | refine SW.seq ?_ | refine SW.block ?_ | refine SW.rowC ?_ | refine SW.skip ?_ | refine SW.exit ?_ | refine PFn.use (ha) ?_ | refine PFn.useq (ha) ?_ | intro _ | refine And.intro (by omega) ?_) | simp (config := { maxSteps := 1000000 }) (disch := (first | omega | (simp only [go_sem]; try omega))) only [go_sem, Nat.reduceAdd, Nat.reduceEqDiff, Nat.reduceLeDiff, Nat.reduceMul, Nat.reduceLT, reduceIte, Int.reduceToNat, w64_id, cast_succ])
    refine SW.ret ?_; (try simp only [go_sem]); (first | refine FunPost.one ?_ | refine FunPost.two ?_ | refine FunPost.three ?_); (try simp (config := { maxSteps := 1000000 }) (disch := (first | omega | (simp only [go_sem]; try omega))) only [go_sem, Nat.reduceAdd, Nat.reduceEqDiff, Nat.reduceLeDiff, Nat.reduceMul, Nat.reduceLT, reduceIte, Int.reduceToNat, w64_id, cast_succ]); (first | (with_reducible refine GR.drop ?_ ?_; (simp only [go_sem, and_self, and_true, true_and, implies_true, List.take_succ_cons, List.take_zero])) | refine GR.of ?_); refine ⟨?_, rfl⟩; (try with_reducible rfl)
    rw [decide_eq_true h, Bool.true_and]
  · repeat (first | (with_reducible first | refine SW.seq ?_ | refine SW.block ?_ | refine SW.rowC ?_ | refine SW.skip ?_ | refine SW.exit ?_ | intro _ | refine And.intro (by omega) ?_) | simp (config := { maxSteps := 1000000 }) (disch := (first | omega | (simp only [go_sem]; try omega))) only [go_sem, Nat.reduceAdd, Nat.reduceEqDiff, Nat.reduceLeDiff, Nat.reduceMul, Nat.reduceLT, reduceIte, Int.reduceToNat, w64_id, cast_succ])
    refine SW.ret ?_; (try simp only [go_sem]); (first | refine FunPost.one ?_ | refine FunPost.two ?_ | refine FunPost.three ?_); (try simp (config := { maxSteps := 1000000 }) (disch := (first | omega | (simp only [go_sem]; try omega))) only [go_sem, Nat.reduceAdd, Nat.reduceEqDiff, Nat.reduceLeDiff, Nat.reduceMul, Nat.reduceLT, reduceIte, Int.reduceToNat, w64_id, cast_succ]); (first | (with_reducible refine GR.drop ?_ ?_; (simp only [go_sem, and_self, and_true, true_and, implies_true, List.take_succ_cons, List.take_zero])) | refine GR.of ?_); refine ⟨?_, rfl⟩; (try with_reducible rfl)
    rw [decide_eq_false h, Bool.false_and]
end Go.Proofs.YtkifdjjnbplghaaGreat
