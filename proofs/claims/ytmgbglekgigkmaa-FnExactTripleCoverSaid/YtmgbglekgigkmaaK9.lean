/- TripleCover. -/
import Derived.Test.YtmgbglekgigkmaaProg
import Derived.KernelRfl
import Derived.Test.YtmgbglekgigkmaaK8
import Derived.Test.YtmgbglekgigkmaaL6
import Derived.Test.YtmgbglekgigkmaaAv17
set_option linter.unusedSimpArgs false
set_option linter.unusedVariables false
set_option maxHeartbeats 4000000
namespace Go.Proofs.Ytmgbglekgigkmaa
open Go.Av

/-! The abstract code of functions, printed by program and tied to the program by the kernel. -/
/-- loop.example/g00920/laws.FnExactTripleCover -/
abbrev f_laws_FnExactTripleCover : Nat := 13
def c_laws_FnExactTripleCover : SC :=
 .seq (.reg [
     ⟨(some 2), .mv (.const (.bool false)), none⟩] [0])
 (.seq (.reg [
     ⟨(some 12), .mv (.tmp 0), none⟩,
     ⟨(some 13), .call 51 [(.tmp 12)], none⟩,
     ⟨(some 11), .mv (.tmp 13), none⟩,
     ⟨(some 14), .ext (.tmp 11) 0, none⟩,
     ⟨(some 15), .ext (.tmp 11) 1, none⟩,
     ⟨(some 3), .alloc 24 [(.int .i64 0), (.slice none 0 0)], none⟩,
     ⟨none, .store 2 (.tmp 3) (.tmp 14), none⟩,
     ⟨(some 4), .mv (.tmp 15), none⟩] [0, 3, 4])
 (.seq (.reg [
     ⟨(some 17), .mv (.tmp 0), none⟩,
     ⟨(some 18), .call 52 [(.tmp 17)], none⟩,
     ⟨(some 16), .mv (.tmp 18), none⟩,
     ⟨(some 19), .ext (.tmp 16) 0, none⟩,
     ⟨(some 20), .ext (.tmp 16) 1, none⟩,
     ⟨(some 5), .alloc 24 [(.int .i64 0), (.slice none 0 0)], none⟩,
     ⟨none, .store 2 (.tmp 5) (.tmp 19), none⟩,
     ⟨(some 6), .mv (.tmp 20), none⟩] [0, 3, 4, 5, 6])
 (.seq (.seq (.reg [
     ⟨(some 21), .load 2 true (.tmp 5), none⟩,
     ⟨(some 22), .load 2 true (.tmp 3), none⟩,
     ⟨(some 23), .call 17 [(.tmp 21), (.tmp 22)], none⟩,
     ⟨(some 24), .un .not (.tmp 23), none⟩,
     ⟨(some 25), .mv (.tmp 24), none⟩,
     ⟨(some 26), .mv (.tmp 6), (some (25, false))⟩,
     ⟨(some 27), .mv (.tmp 4), (some (25, false))⟩,
     ⟨(some 28), .bin .neq (.tmp 26) (.tmp 27), (some (25, false))⟩,
     ⟨(some 29), .pick (.tmp 25) (.const (.bool true)) (.tmp 28), none⟩] [0, 3, 4, 5, 29])
 (.cond (.tmp 29)
  (.seq (.reg [
      ⟨(some 2), .mv (.const (.bool false)), none⟩] [2])
  (.ret))
  (.skip)))
 (.seq (.reg [
     ⟨(some 7), .mv (.const (.int .i64 1)), none⟩] [0, 3, 4, 5, 7])
 (.seq (.reg [
     ⟨(some 30), .load 2 true (.tmp 5), none⟩,
     ⟨(some 31), .mv (.tmp 7), none⟩,
     ⟨(some 32), .call 18 [(.tmp 30), (.tmp 31)], none⟩,
     ⟨(some 7), .mv (.tmp 32), none⟩] [0, 3, 4, 5, 7])
 (.seq (.reg [
     ⟨(some 8), .mv (.const (.int .i64 1)), none⟩] [0, 3, 4, 5, 7, 8])
 (.seq (.reg [
     ⟨(some 33), .load 2 true (.tmp 5), none⟩,
     ⟨(some 34), .mv (.tmp 8), none⟩,
     ⟨(some 35), .call 19 [(.tmp 33), (.tmp 34)], none⟩,
     ⟨(some 8), .mv (.tmp 35), none⟩] [0, 3, 4, 5, 7, 8])
 (.seq (.seq (.reg [
     ⟨(some 36), .mv (.tmp 8), none⟩,
     ⟨(some 37), .bin .lss (.tmp 36) (.const (.int .i64 0)), none⟩] [0, 3, 4, 5, 7, 8, 37])
 (.cond (.tmp 37)
  (.seq (.reg [
      ⟨(some 2), .mv (.const (.bool false)), none⟩] [2])
  (.ret))
  (.skip)))
 (.seq (.seq (.reg [
     ⟨(some 38), .mv (.tmp 8), none⟩,
     ⟨(some 39), .mv (.tmp 7), none⟩,
     ⟨(some 40), .bin .neq (.tmp 38) (.tmp 39), none⟩] [0, 3, 4, 5, 7, 40])
 (.cond (.tmp 40)
  (.seq (.reg [
      ⟨(some 2), .mv (.const (.bool false)), none⟩] [2])
  (.ret))
  (.skip)))
 (.seq (.reg [
     ⟨(some 42), .mv (.tmp 0), none⟩,
     ⟨(some 43), .call 52 [(.tmp 42)], none⟩,
     ⟨(some 41), .mv (.tmp 43), none⟩,
     ⟨(some 44), .ext (.tmp 41) 0, none⟩,
     ⟨(some 45), .ext (.tmp 41) 1, none⟩,
     ⟨(some 9), .alloc 24 [(.int .i64 0), (.slice none 0 0)], none⟩,
     ⟨none, .store 2 (.tmp 9) (.tmp 44), none⟩,
     ⟨(some 10), .mv (.tmp 45), none⟩] [3, 4, 5, 7, 9, 10])
 (.seq (.seq (.reg [
     ⟨(some 46), .load 2 true (.tmp 9), none⟩,
     ⟨(some 47), .load 2 true (.tmp 3), none⟩,
     ⟨(some 48), .call 17 [(.tmp 46), (.tmp 47)], none⟩,
     ⟨(some 49), .un .not (.tmp 48), none⟩,
     ⟨(some 50), .mv (.tmp 49), none⟩,
     ⟨(some 51), .mv (.tmp 10), (some (50, false))⟩,
     ⟨(some 52), .mv (.tmp 4), (some (50, false))⟩,
     ⟨(some 53), .bin .neq (.tmp 51) (.tmp 52), (some (50, false))⟩,
     ⟨(some 54), .pick (.tmp 50) (.const (.bool true)) (.tmp 53), none⟩] [5, 7, 54])
 (.cond (.tmp 54)
  (.seq (.reg [
      ⟨(some 2), .mv (.const (.bool false)), none⟩] [2])
  (.ret))
  (.skip)))
 (.seq (.reg [
     ⟨(some 8), .mv (.const (.int .i64 1)), none⟩] [5, 7, 8])
 (.seq (.reg [
     ⟨(some 55), .load 2 true (.tmp 5), none⟩,
     ⟨(some 56), .mv (.tmp 8), none⟩,
     ⟨(some 57), .call 19 [(.tmp 55), (.tmp 56)], none⟩,
     ⟨(some 8), .mv (.tmp 57), none⟩] [7, 8])
 (.seq (.seq (.reg [
     ⟨(some 58), .mv (.tmp 8), none⟩,
     ⟨(some 59), .bin .lss (.tmp 58) (.const (.int .i64 0)), none⟩] [7, 8, 59])
 (.cond (.tmp 59)
  (.seq (.reg [
      ⟨(some 2), .mv (.const (.bool false)), none⟩] [2])
  (.ret))
  (.skip)))
 (.seq (.seq (.reg [
     ⟨(some 60), .mv (.tmp 8), none⟩,
     ⟨(some 61), .mv (.tmp 7), none⟩,
     ⟨(some 62), .bin .neq (.tmp 60) (.tmp 61), none⟩] [62])
 (.cond (.tmp 62)
  (.seq (.reg [
      ⟨(some 2), .mv (.const (.bool false)), none⟩] [2])
  (.ret))
  (.skip)))
 (.seq (.reg [
     ⟨(some 2), .mv (.const (.bool true)), none⟩] [2])
 (.ret)))))))))))))))))
theorem s_laws_FnExactTripleCover : stripF Try.prog 13 [[0], [0, 3, 4], [0, 3, 4, 5, 6], [0, 3, 4, 5, 29], [2], [0, 3, 4, 5, 7], [0, 3, 4, 5, 7], [0, 3, 4, 5, 7, 8], [0, 3, 4, 5, 7, 8], [0, 3, 4, 5, 7, 8, 37], [2], [0, 3, 4, 5, 7, 40], [2], [3, 4, 5, 7, 9, 10], [5, 7, 54], [2], [5, 7, 8], [7, 8], [7, 8, 59], [2], [62], [2], [2]] = some (c_laws_FnExactTripleCover, [.tmp 2], 63) := by kernel_rfl

/-- loop.example/g00920/spec.TripleCover -/
abbrev f_spec_TripleCover : Nat := 51
def c_spec_TripleCover : SC :=
 .seq (.reg [
     ⟨(some 2), .alloc 24 [(.int .i64 0), (.slice none 0 0)], none⟩,
     ⟨(some 3), .mv (.const (.int .i64 0)), none⟩] [0, 2])
 (.seq (.seq (.reg [
     ⟨(some 4), .mv (.tmp 0), none⟩,
     ⟨(some 5), .call 57 [(.tmp 4), (.const (.int .i64 3)), (.const (.int .i64 11))], none⟩,
     ⟨(some 6), .un .not (.tmp 5), none⟩] [0, 2, 6])
 (.cond (.tmp 6)
  (.seq (.reg [
      ⟨(some 7), .build [(.int .i64 0), (.slice none 0 0)] [], none⟩,
      ⟨none, .store 2 (.tmp 2) (.tmp 7), none⟩,
      ⟨(some 3), .mv (.const (.int .i64 2)), none⟩] [2, 3])
  (.ret))
  (.skip)))
 (.seq (.reg [
     ⟨(some 8), .mv (.tmp 0), none⟩,
     ⟨(some 9), .call 104 [(.tmp 8)], none⟩,
     ⟨none, .store 2 (.tmp 2) (.tmp 9), none⟩,
     ⟨(some 3), .mv (.const (.int .i64 0)), none⟩] [2, 3])
 (.ret)))
theorem s_spec_TripleCover : stripF Try.prog 51 [[0, 2], [0, 2, 6], [2, 3], [2, 3]] = some (c_spec_TripleCover, [.cell 2 2, .tmp 3], 10) := by kernel_rfl

/-- loop.example/g00920/impl.TripleCover -/
abbrev f_impl_TripleCover : Nat := 52
def c_impl_TripleCover : SC :=
 .seq (.reg [
     ⟨(some 1), .box 2 (.tmp 0), none⟩,
     ⟨(some 2), .alloc 24 [(.int .i64 0), (.slice none 0 0)], none⟩,
     ⟨(some 3), .mv (.const (.int .i64 0)), none⟩] [1, 2])
 (.seq (.seq (.reg [
     ⟨(some 8), .load 1 false (.tmp 1), none⟩,
     ⟨(some 9), .call 59 [(.tmp 8), (.const (.int .i64 3)), (.const (.int .i64 11))], none⟩,
     ⟨(some 10), .un .not (.tmp 9), none⟩] [1, 2, 10])
 (.cond (.tmp 10)
  (.seq (.reg [
      ⟨(some 11), .build [(.int .i64 0), (.slice none 0 0)] [], none⟩,
      ⟨none, .store 2 (.tmp 2) (.tmp 11), none⟩,
      ⟨(some 3), .mv (.const (.int .i64 2)), none⟩] [2, 3])
  (.ret))
  (.skip)))
 (.seq (.reg [
     ⟨(some 12), .mkf 105 [(.tmp 1)], none⟩,
     ⟨(some 4), .mv (.tmp 12), none⟩] [1, 2, 4])
 (.seq (.reg [
     ⟨(some 13), .load 1 false (.tmp 1), none⟩,
     ⟨(some 14), .call 107 [(.tmp 13), (.const (.int .i64 2))], none⟩,
     ⟨(some 15), .build [(.int .i64 0), (.slice none 0 0)] [(0, 1, (.tmp 14))], none⟩,
     ⟨(some 5), .alloc 24 [(.int .i64 0), (.slice none 0 0)], none⟩,
     ⟨none, .store 2 (.tmp 5) (.tmp 15), none⟩] [1, 2, 4, 5])
 (.seq (.seq (.reg [
     ⟨(some 16), .load 1 false (.tmp 1), none⟩,
     ⟨(some 17), .call 108 [(.tmp 16), (.const (.int .i64 3))], none⟩,
     ⟨(some 18), .len (.tmp 17), none⟩,
     ⟨(some 19), .mv (.const (.int .i64 0)), none⟩] [2, 4, 5, 17, 18, 19])
 (.block 0 (.loop [2, 4, 5, 17, 18, 19]
   (.seq (.reg [
       ⟨(some 20), .bin .lss (.tmp 19) (.tmp 18), none⟩] [2, 4, 5, 17, 18, 19, 20])
   (.seq (.cond (.tmp 20)
    (.skip)
    (.exit 0))
   (.seq (.block 1 (.seq (.reg [
        ⟨(some 21), .iaddr 1 (.tmp 17) (.tmp 19), none⟩,
        ⟨(some 22), .load 1 false (.tmp 21), none⟩,
        ⟨(some 7), .mv (.tmp 22), none⟩] [2, 4, 5, 7, 17, 18, 19])
    (.reg [
        ⟨(some 23), .faddr 1 (.tmp 5), none⟩,
        ⟨(some 24), .load 1 false (.tmp 23), none⟩,
        ⟨(some 25), .mv (.tmp 4), none⟩,
        ⟨(some 26), .mv (.tmp 7), none⟩,
        ⟨(some 27), .iaddr 1 (.tmp 26) (.const (.int .i64 0)), none⟩,
        ⟨(some 28), .load 1 false (.tmp 27), none⟩,
        ⟨(some 29), .mv (.tmp 7), none⟩,
        ⟨(some 30), .iaddr 1 (.tmp 29) (.const (.int .i64 1)), none⟩,
        ⟨(some 31), .load 1 false (.tmp 30), none⟩,
        ⟨(some 32), .qcallv (.tmp 25) [(.tmp 28), (.tmp 31)], none⟩,
        ⟨(some 33), .mv (.tmp 4), none⟩,
        ⟨(some 34), .mv (.tmp 7), none⟩,
        ⟨(some 35), .iaddr 1 (.tmp 34) (.const (.int .i64 0)), none⟩,
        ⟨(some 36), .load 1 false (.tmp 35), none⟩,
        ⟨(some 37), .mv (.tmp 7), none⟩,
        ⟨(some 38), .iaddr 1 (.tmp 37) (.const (.int .i64 2)), none⟩,
        ⟨(some 39), .load 1 false (.tmp 38), none⟩,
        ⟨(some 40), .qcallv (.tmp 33) [(.tmp 36), (.tmp 39)], none⟩,
        ⟨(some 41), .mv (.tmp 4), none⟩,
        ⟨(some 42), .mv (.tmp 7), none⟩,
        ⟨(some 43), .iaddr 1 (.tmp 42) (.const (.int .i64 1)), none⟩,
        ⟨(some 44), .load 1 false (.tmp 43), none⟩,
        ⟨(some 45), .mv (.tmp 7), none⟩,
        ⟨(some 46), .iaddr 1 (.tmp 45) (.const (.int .i64 2)), none⟩,
        ⟨(some 47), .load 1 false (.tmp 46), none⟩,
        ⟨(some 48), .qcallv (.tmp 41) [(.tmp 44), (.tmp 47)], none⟩,
        ⟨(some 49), .bslice 2 1 3 [(.int .i64 0), (.int .i64 0), (.int .i64 0)] [(0, (.tmp 32)), (1, (.tmp 40)), (2, (.tmp 48))], none⟩,
        ⟨(some 50), .bslice 42 1 1 [(.slice none 0 0)] [(0, (.tmp 49))], none⟩,
        ⟨(some 51), .app 42 1 24 (.tmp 24) (.tmp 50), none⟩,
        ⟨(some 52), .faddr 1 (.tmp 5), none⟩,
        ⟨none, .store 1 (.tmp 52) (.tmp 51), none⟩] [2, 4, 5, 17, 18, 19])))
   (.reg [
       ⟨(some 53), .bin .add (.tmp 19) (.const (.int .i64 1)), none⟩,
       ⟨(some 19), .mv (.tmp 53), none⟩] [2, 4, 5, 17, 18, 19])))))))
 (.seq (.reg [
     ⟨(some 54), .load 2 true (.tmp 5), none⟩,
     ⟨none, .store 2 (.tmp 2) (.tmp 54), none⟩,
     ⟨(some 3), .mv (.const (.int .i64 0)), none⟩] [2, 3])
 (.ret))))))
theorem s_impl_TripleCover : stripF Try.prog 52 [[1, 2], [1, 2, 10], [2, 3], [1, 2, 4], [1, 2, 4, 5], [2, 4, 5, 17, 18, 19], [2, 4, 5, 17, 18, 19], [2, 4, 5, 17, 18, 19, 20], [2, 4, 5, 7, 17, 18, 19], [2, 4, 5, 17, 18, 19], [2, 4, 5, 17, 18, 19], [2, 3]] = some (c_impl_TripleCover, [.cell 2 2, .tmp 3], 55) := by kernel_rfl

/-- loop.example/g00920/spec.l24Triples -/
abbrev f_spec_l24Triples : Nat := 104
def c_spec_l24Triples : SC :=
 .seq (.reg [
     ⟨(some 2), .alloc 24 [(.int .i64 0), (.slice none 0 0)], none⟩] [0, 2])
 (.seq (.reg [
     ⟨(some 7), .mv (.tmp 0), none⟩,
     ⟨(some 8), .mv (.tmp 0), none⟩,
     ⟨(some 9), .bin .sub (.tmp 8) (.const (.int .i64 1)), none⟩,
     ⟨(some 10), .bin .mul (.tmp 7) (.tmp 9), none⟩,
     ⟨(some 11), .bin .quo (.tmp 10) (.const (.int .i64 2)), none⟩,
     ⟨(some 12), .build [(.int .i64 0), (.slice none 0 0)] [(0, 1, (.tmp 11))], none⟩,
     ⟨(some 3), .alloc 24 [(.int .i64 0), (.slice none 0 0)], none⟩,
     ⟨none, .store 2 (.tmp 3) (.tmp 12), none⟩] [0, 2, 3])
 (.seq (.seq (.reg [
     ⟨(some 4), .mv (.const (.int .i64 0)), none⟩] [0, 2, 3, 4])
 (.block 0 (.loop [0, 2, 3, 4]
   (.seq (.seq (.reg [
       ⟨(some 13), .mv (.tmp 4), none⟩,
       ⟨(some 14), .mv (.tmp 0), none⟩,
       ⟨(some 15), .bin .lss (.tmp 13) (.tmp 14), none⟩] [0, 2, 3, 4, 15])
   (.cond (.tmp 15)
    (.skip)
    (.exit 0)))
   (.seq (.block 1 (.seq (.reg [
        ⟨(some 18), .mv (.tmp 4), none⟩,
        ⟨(some 19), .bin .add (.tmp 18) (.const (.int .i64 1)), none⟩,
        ⟨(some 5), .mv (.tmp 19), none⟩] [0, 2, 3, 4, 5])
    (.block 2 (.loop [0, 2, 3, 4, 5]
      (.seq (.seq (.reg [
          ⟨(some 20), .mv (.tmp 5), none⟩,
          ⟨(some 21), .mv (.tmp 0), none⟩,
          ⟨(some 22), .bin .lss (.tmp 20) (.tmp 21), none⟩] [0, 2, 3, 4, 5, 22])
      (.cond (.tmp 22)
       (.skip)
       (.exit 2)))
      (.seq (.block 3 (.seq (.reg [
           ⟨(some 25), .mv (.tmp 5), none⟩,
           ⟨(some 26), .bin .add (.tmp 25) (.const (.int .i64 1)), none⟩,
           ⟨(some 6), .mv (.tmp 26), none⟩] [0, 2, 3, 4, 5, 6])
       (.block 4 (.loop [0, 2, 3, 4, 5, 6]
         (.seq (.seq (.reg [
             ⟨(some 27), .mv (.tmp 6), none⟩,
             ⟨(some 28), .mv (.tmp 0), none⟩,
             ⟨(some 29), .bin .lss (.tmp 27) (.tmp 28), none⟩] [0, 2, 3, 4, 5, 6, 29])
         (.cond (.tmp 29)
          (.skip)
          (.exit 4)))
         (.seq (.block 5 (.reg [
              ⟨(some 32), .faddr 1 (.tmp 3), none⟩,
              ⟨(some 33), .load 1 false (.tmp 32), none⟩,
              ⟨(some 34), .mv (.tmp 0), none⟩,
              ⟨(some 35), .mv (.tmp 4), none⟩,
              ⟨(some 36), .mv (.tmp 5), none⟩,
              ⟨(some 37), .qcall 135 [(.tmp 34), (.tmp 35), (.tmp 36)], none⟩,
              ⟨(some 38), .mv (.tmp 0), none⟩,
              ⟨(some 39), .mv (.tmp 4), none⟩,
              ⟨(some 40), .mv (.tmp 6), none⟩,
              ⟨(some 41), .qcall 135 [(.tmp 38), (.tmp 39), (.tmp 40)], none⟩,
              ⟨(some 42), .mv (.tmp 0), none⟩,
              ⟨(some 43), .mv (.tmp 5), none⟩,
              ⟨(some 44), .mv (.tmp 6), none⟩,
              ⟨(some 45), .qcall 135 [(.tmp 42), (.tmp 43), (.tmp 44)], none⟩,
              ⟨(some 46), .bslice 2 1 3 [(.int .i64 0), (.int .i64 0), (.int .i64 0)] [(0, (.tmp 37)), (1, (.tmp 41)), (2, (.tmp 45))], none⟩,
              ⟨(some 47), .bslice 42 1 1 [(.slice none 0 0)] [(0, (.tmp 46))], none⟩,
              ⟨(some 48), .app 42 1 24 (.tmp 33) (.tmp 47), none⟩,
              ⟨(some 49), .faddr 1 (.tmp 3), none⟩,
              ⟨none, .store 1 (.tmp 49) (.tmp 48), none⟩] [0, 2, 3, 4, 5, 6]))
         (.reg [
             ⟨(some 30), .mv (.tmp 6), none⟩,
             ⟨(some 31), .bin .add (.tmp 30) (.const (.int .i64 1)), none⟩,
             ⟨(some 6), .mv (.tmp 31), none⟩] [0, 2, 3, 4, 5, 6])))))))
      (.reg [
          ⟨(some 23), .mv (.tmp 5), none⟩,
          ⟨(some 24), .bin .add (.tmp 23) (.const (.int .i64 1)), none⟩,
          ⟨(some 5), .mv (.tmp 24), none⟩] [0, 2, 3, 4, 5])))))))
   (.reg [
       ⟨(some 16), .mv (.tmp 4), none⟩,
       ⟨(some 17), .bin .add (.tmp 16) (.const (.int .i64 1)), none⟩,
       ⟨(some 4), .mv (.tmp 17), none⟩] [0, 2, 3, 4]))))))
 (.seq (.reg [
     ⟨(some 50), .load 2 true (.tmp 3), none⟩,
     ⟨none, .store 2 (.tmp 2) (.tmp 50), none⟩] [2])
 (.ret))))
theorem s_spec_l24Triples : stripF Try.prog 104 [[0, 2], [0, 2, 3], [0, 2, 3, 4], [0, 2, 3, 4], [0, 2, 3, 4, 15], [0, 2, 3, 4, 5], [0, 2, 3, 4, 5], [0, 2, 3, 4, 5, 22], [0, 2, 3, 4, 5, 6], [0, 2, 3, 4, 5, 6], [0, 2, 3, 4, 5, 6, 29], [0, 2, 3, 4, 5, 6], [0, 2, 3, 4, 5, 6], [0, 2, 3, 4, 5], [0, 2, 3, 4], [2]] = some (c_spec_l24Triples, [.cell 2 2], 51) := by kernel_rfl

/-- loop.example/g00920/impl.TripleCover$1 -/
abbrev f_impl_TripleCover_c1 : Nat := 105
def c_impl_TripleCover_c1 : SC :=
 .seq (.reg [
     ⟨(some 5), .mv (.const (.int .i64 0)), none⟩] [0, 1, 2])
 (.seq (.reg [
     ⟨(some 9), .load 1 false (.tmp 2), none⟩,
     ⟨(some 10), .mv (.tmp 0), none⟩,
     ⟨(some 11), .mv (.tmp 1), none⟩,
     ⟨(some 12), .bslice 2 1 2 [(.int .i64 0), (.int .i64 0)] [(0, (.tmp 10)), (1, (.tmp 11))], none⟩,
     ⟨(some 13), .call 106 [(.tmp 9), (.tmp 12)], none⟩,
     ⟨(some 8), .mv (.tmp 13), none⟩,
     ⟨(some 14), .ext (.tmp 8) 0, none⟩,
     ⟨(some 15), .ext (.tmp 8) 1, none⟩,
     ⟨(some 6), .mv (.tmp 14), none⟩,
     ⟨(some 7), .mv (.tmp 15), none⟩] [6])
 (.seq (.reg [
     ⟨(some 16), .mv (.tmp 6), none⟩,
     ⟨(some 5), .mv (.tmp 16), none⟩] [5])
 (.ret)))
theorem s_impl_TripleCover_c1 : stripF Try.prog 105 [[0, 1, 2], [6], [5]] = some (c_impl_TripleCover_c1, [.tmp 5], 17) := by kernel_rfl

/-- loop.example/g00920/spec.l24Pair -/
abbrev f_spec_l24Pair : Nat := 135
def c_spec_l24Pair : SC :=
 .seq (.reg [
     ⟨(some 6), .mv (.const (.int .i64 0)), none⟩] [0, 1, 2])
 (.seq (.reg [
     ⟨(some 7), .mv (.tmp 1), none⟩,
     ⟨(some 8), .mv (.tmp 0), none⟩,
     ⟨(some 9), .bin .mul (.const (.int .i64 2)) (.tmp 8), none⟩,
     ⟨(some 10), .mv (.tmp 1), none⟩,
     ⟨(some 11), .bin .sub (.tmp 9) (.tmp 10), none⟩,
     ⟨(some 12), .bin .sub (.tmp 11) (.const (.int .i64 1)), none⟩,
     ⟨(some 13), .bin .mul (.tmp 7) (.tmp 12), none⟩,
     ⟨(some 14), .bin .quo (.tmp 13) (.const (.int .i64 2)), none⟩,
     ⟨(some 15), .mv (.tmp 2), none⟩,
     ⟨(some 16), .bin .add (.tmp 14) (.tmp 15), none⟩,
     ⟨(some 17), .mv (.tmp 1), none⟩,
     ⟨(some 18), .bin .sub (.tmp 16) (.tmp 17), none⟩,
     ⟨(some 19), .bin .sub (.tmp 18) (.const (.int .i64 1)), none⟩,
     ⟨(some 6), .mv (.tmp 19), none⟩] [6])
 (.ret))
theorem s_spec_l24Pair : stripF Try.prog 135 [[0, 1, 2], [6]] = some (c_spec_l24Pair, [.tmp 6], 20) := by kernel_rfl


theorem get_appB {H : List Blk} {p : Nat} {b : Blk} (h : H[p]? = some b) (ext : List Blk) : (H ++ ext)[p]? = some b := by
  rw [List.getElem?_append_left (List.getElem?_eq_some_iff.1 h).1]; exact h

theorem TripleCover_c1_ok (H : List Blk) (p ty : Nat) (n a b : Int) (hn : 0 ≤ n ∧ n ≤ 32) (ha : 0 ≤ a) (hab : a < b) (hb : b < n) (hp : H[p]? = some ⟨0, ty, 1, [I n]⟩) :
    ACalls Try.prog f_impl_TripleCover_c1 [I a, I b, .pc p 0 0] H (fun r H' => r = I (rankI n [a, b]) ∧ H' = H) := by
  have hr := RankSubset_fn n [a, b] (by simp [asc]; omega) hn.1 hn.2
  refine ACalls.introB s_impl_TripleCover_c1 (by simp) ?_; intro hB hA; unfold c_impl_TripleCover_c1; simp (config := { maxSteps := 1000000 }) (disch := (first | omega | (simp only [go_sem]; try omega))) only [go_sem, ↓GSplit_t, ↓GSplit_f, ↓GSplit_tf, ↓GSplit_ft, Nat.reduceAdd, Nat.reduceEqDiff, Nat.reduceLeDiff, Nat.reduceMul, Nat.reduceLT, reduceIte, Int.reduceToNat, bne_self_eq_false, beq_self_eq_true, w64_id, cast_succ, Bool.false_eq_true, Bool.and_true, Bool.true_and, Bool.and_false, Bool.false_and, Bool.not_not]
  repeat (first | (with_reducible refine SW.seq ?_) | (with_reducible refine SW.block ?_) | (with_reducible refine SW.rowC ?_) | (with_reducible refine SW.skip ?_) | (with_reducible refine SW.exit ?_) | (with_reducible intro _) | (with_reducible refine And.intro (by omega) ?_) | (simp (config := { maxSteps := 1000000 }) (disch := (first | omega | (simp only [go_sem]; try omega))) only [go_sem, ↓GSplit_t, ↓GSplit_f, ↓GSplit_tf, ↓GSplit_ft, Nat.reduceAdd, Nat.reduceEqDiff, Nat.reduceLeDiff, Nat.reduceMul, Nat.reduceLT, reduceIte, Int.reduceToNat, bne_self_eq_false, beq_self_eq_true, w64_id, cast_succ, Bool.false_eq_true, Bool.and_true, Bool.true_and, Bool.and_false, Bool.false_and, Bool.not_not, pc_ld hp]))
  refine ACalls.fn (hr.lendv (.tup2 (.I _) (.I _)) (sh_II _ _ _) (.cons (.I _) (.cons (froz_rowI (xs := [a, b]) (ver := 0) (ty := 2) (Nat.zero_le _) (by simp)) .nil))) ?_
  repeat (first | (with_reducible refine SW.seq ?_) | (with_reducible refine SW.block ?_) | (with_reducible refine SW.rowC ?_) | (with_reducible refine SW.skip ?_) | (with_reducible refine SW.exit ?_) | (with_reducible intro _) | (with_reducible refine And.intro (by omega) ?_) | (simp (config := { maxSteps := 1000000 }) (disch := (first | omega | (simp only [go_sem]; try omega))) only [go_sem, ↓GSplit_t, ↓GSplit_f, ↓GSplit_tf, ↓GSplit_ft, Nat.reduceAdd, Nat.reduceEqDiff, Nat.reduceLeDiff, Nat.reduceMul, Nat.reduceLT, reduceIte, Int.reduceToNat, bne_self_eq_false, beq_self_eq_true, w64_id, cast_succ, Bool.false_eq_true, Bool.and_true, Bool.true_and, Bool.and_false, Bool.false_and, Bool.not_not]))
  refine SW.ret ?_; (try simp only [go_sem]); (first | refine FunPost.one ?_ | refine FunPost.two ?_ | refine FunPost.three ?_); (try simp (config := { maxSteps := 1000000 }) (disch := (first | omega | (simp only [go_sem]; try omega))) only [go_sem, ↓GSplit_t, ↓GSplit_f, ↓GSplit_tf, ↓GSplit_ft, Nat.reduceAdd, Nat.reduceEqDiff, Nat.reduceLeDiff, Nat.reduceMul, Nat.reduceLT, reduceIte, Int.reduceToNat, bne_self_eq_false, beq_self_eq_true, w64_id, cast_succ, Bool.false_eq_true, Bool.and_true, Bool.true_and, Bool.and_false, Bool.false_and, Bool.not_not]); (first | (with_reducible refine GR.drop ?_ ?_; (simp only [and_self, and_true, true_and, implies_true, Bel_lit, Bel_I, Bel_Bv, Bel_nil, Bel_junk, Bel_nm, Bel_pc, Bel_il, Bel_agg, Bel_tup, Bel_fn, Bel_el, all_mapI, all_mapB, all_mapS, all_nilB, all_consB, EB_nil, EB_cons, BB_nil, BB_cons, Bel_ilS, Bel_ilSS, Bel_ilB, List.getElem?_cons_zero, List.take_succ_cons, List.take_zero, keep_nil, keep_cons])) | refine GR.of ?_); refine ⟨?_, rfl⟩; (try with_reducible rfl)

theorem GrowSS.appX {H : List Blk} {base ty rty : Nat} {v : AV} {xss : List (List Int)} {xs : List Int} (h : GrowSS H base ty v xss) (hb : base ≤ H.length) (hl : (xss.length + 1) * 24 ≤ 140737488355328)
    {K : AV → List Blk → Prop} (hk : ∀ v' H', GrowSS H' base ty v' (xss ++ [xs]) → H.length ≤ H'.length → (∀ j, j < base → H'[j]? = H[j]?) → K v' H') :
    AppX ty 1 24 (H ++ [⟨0, rty, 1, xs.map I⟩, ⟨0, ty, 1, [.nm H.length 0 0 xs.length]⟩]) v K (some (1, [.nm H.length 0 0 xs.length])) := by
  have h2 := h.app (rty := rty) hb hl hk
  rw [swpApp_eq] at h2
  have e : aview (H ++ [⟨0, rty, 1, xs.map I⟩, ⟨0, ty, 1, [.nm H.length 0 0 xs.length]⟩]) (.nm (H.length + 1) 0 0 1) = some (1, [.nm H.length 0 0 xs.length]) := by
    simp only [aview_own]; rfl
  rw [e] at h2
  exact h2

/-- A row of the program. -/
def triI (n : Int) (t : List Int) : List Int := [rankI n [t.getD 0 0, t.getD 1 0], rankI n [t.getD 0 0, t.getD 2 0], rankI n [t.getD 1 0, t.getD 2 0]]

abbrev tyI : Nat := 2

theorem implTri_in (H : List Blk) (n : Nat) (L : List (List Int)) (h0 : 3 ≤ n ∧ n ≤ 11) (hL : L.length ≤ 1000) (hr : ∃ r, L = idL 3 :: r) (hc : chainS n L) (h3 : ∀ t ∈ L, t.length = 3 ∧ 0 ≤ t.getD 0 0 ∧ t.getD 0 0 < t.getD 1 0 ∧ t.getD 1 0 < t.getD 2 0 ∧ t.getD 2 0 < n) :
    ACalls Try.prog f_impl_TripleCover [I n] H (fun r H' => ∃ ext v, H' = H ++ ext ∧ r = .tup [.agg [I (chooseI n 2), v], I 0] ∧ OwnSS H' (Btw H.length H'.length) v (L.map (triI n))) := by
  have hall := allSubsets_fn n 3 L (by omega) (by omega) (by omega) (fun _ => hr) (fun h => by omega) (by omega) hc
  refine ACalls.introB s_impl_TripleCover (by simp) ?_; intro hB hA; unfold c_impl_TripleCover; simp (config := { maxSteps := 1000000 }) (disch := (first | omega | (simp only [go_sem]; try omega))) only [go_sem, ↓GSplit_t, ↓GSplit_f, ↓GSplit_tf, ↓GSplit_ft, Nat.reduceAdd, Nat.reduceEqDiff, Nat.reduceLeDiff, Nat.reduceMul, Nat.reduceLT, reduceIte, Int.reduceToNat, bne_self_eq_false, beq_self_eq_true, w64_id, cast_succ, Bool.false_eq_true, Bool.and_true, Bool.true_and, Bool.and_false, Bool.false_and, Bool.not_not]
  repeat (first | (with_reducible refine SW.seq ?_) | (with_reducible refine SW.block ?_) | (with_reducible refine SW.rowC ?_) | (with_reducible refine SW.skip ?_) | (with_reducible refine SW.exit ?_) | (with_reducible refine PFn.use (within_fn _ _ _) ?_) | (with_reducible refine PFn.useq (within_fn _ _ _) ?_) | (with_reducible intro _) | (with_reducible refine And.intro (by omega) ?_) | (simp (config := { maxSteps := 1000000 }) (disch := (first | omega | (simp only [go_sem]; try omega))) only [go_sem, ↓GSplit_t, ↓GSplit_f, ↓GSplit_tf, ↓GSplit_ft, Nat.reduceAdd, Nat.reduceEqDiff, Nat.reduceLeDiff, Nat.reduceMul, Nat.reduceLT, reduceIte, Int.reduceToNat, bne_self_eq_false, beq_self_eq_true, w64_id, cast_succ, Bool.false_eq_true, Bool.and_true, Bool.true_and, Bool.and_false, Bool.false_and, Bool.not_not]))
  (first | refine SW.condD rfl (fun h => ?_) (fun h => ?_) | refine SW.condN rfl (fun h => ?_) (fun h => ?_) | refine SW.condNB rfl (fun h => ?_) (fun h => ?_) | refine SW.condB rfl (fun h => ?_) (fun h => ?_))
  · exfalso; simp at h; omega
  repeat (first | (with_reducible refine SW.seq ?_) | (with_reducible refine SW.block ?_) | (with_reducible refine SW.rowC ?_) | (with_reducible refine SW.skip ?_) | (with_reducible refine SW.exit ?_) | (with_reducible refine PFn.use (implChoose_fn _ _) ?_) | (with_reducible refine PFn.useq (implChoose_fn _ _) ?_) | (with_reducible refine PFn.use (hall) ?_) | (with_reducible refine PFn.useq (hall) ?_) | (with_reducible intro _) | (with_reducible refine And.intro (by omega) ?_) | (simp (config := { maxSteps := 1000000 }) (disch := (first | omega | (simp only [go_sem]; try omega))) only [go_sem, ↓GSplit_t, ↓GSplit_f, ↓GSplit_tf, ↓GSplit_ft, Nat.reduceAdd, Nat.reduceEqDiff, Nat.reduceLeDiff, Nat.reduceMul, Nat.reduceLT, reduceIte, Int.reduceToNat, bne_self_eq_false, beq_self_eq_true, w64_id, cast_succ, Bool.false_eq_true, Bool.and_true, Bool.true_and, Bool.and_false, Bool.false_and, Bool.not_not]))
  generalize hit : chooseI n 2 = items
  refine SW.loopE (fun E0 H0 q E' H' => ∃ (pre post : List (List Int)), L = pre ++ post ∧ q = post.length ∧ E' = aput E0 19 (I pre.length) ∧
    Bx (H ++ [⟨0, 2, 1, [I n]⟩, ⟨0, tyCover, 1, [I 0, nilS]⟩]) (H.length + 2) (I items) (pre.map (triI n)) H') L.length ⟨[], L, rfl, rfl, rfl, nilS, by simp, .inl ⟨rfl, rfl⟩, by simp, fun j hj => ?_⟩ ?_
  · rw [show H ++ [(⟨0, 2, 1, [I n]⟩ : Blk), ⟨0, tyCover, 1, [I 0, nilS]⟩, ⟨0, tyCover, 1, [I items, nilS]⟩] = (H ++ [⟨0, 2, 1, [I n]⟩, ⟨0, tyCover, 1, [I 0, nilS]⟩]) ++ [(⟨0, tyCover, 1, [I items, nilS]⟩ : Blk)] by simp]
    rw [List.getElem?_append_left (by simp; omega)]
  rintro q E' H1 ⟨pre, post, hp, rfl, rfl, v, b1, b2, b3, b4⟩
  have hbox : H1[H.length]? = some ⟨0, 2, 1, [I n]⟩ := by rw [b4 _ (by omega)]; simp
  have hcb : callable Try.prog f_impl_TripleCover_c1 = true := by kernel_rfl
  simp (config := { maxSteps := 1000000 }) (disch := (first | omega | (simp only [go_sem]; try omega))) only [go_sem, ↓GSplit_t, ↓GSplit_f, ↓GSplit_tf, ↓GSplit_ft, Nat.reduceAdd, Nat.reduceEqDiff, Nat.reduceLeDiff, Nat.reduceMul, Nat.reduceLT, reduceIte, Int.reduceToNat, bne_self_eq_false, beq_self_eq_true, w64_id, cast_succ, Bool.false_eq_true, Bool.and_true, Bool.true_and, Bool.and_false, Bool.false_and, Bool.not_not]
  repeat (first | (with_reducible refine SW.seq ?_) | (with_reducible refine SW.block ?_) | (with_reducible refine SW.rowC ?_) | (with_reducible refine SW.skip ?_) | (with_reducible refine SW.exit ?_) | (with_reducible intro _) | (with_reducible refine And.intro (by omega) ?_) | (simp (config := { maxSteps := 1000000 }) (disch := (first | omega | (simp only [go_sem]; try omega))) only [go_sem, ↓GSplit_t, ↓GSplit_f, ↓GSplit_tf, ↓GSplit_ft, Nat.reduceAdd, Nat.reduceEqDiff, Nat.reduceLeDiff, Nat.reduceMul, Nat.reduceLT, reduceIte, Int.reduceToNat, bne_self_eq_false, beq_self_eq_true, w64_id, cast_succ, Bool.false_eq_true, Bool.and_true, Bool.true_and, Bool.and_false, Bool.false_and, Bool.not_not]))
  (first | refine SW.condD rfl (fun h => ?_) (fun h => ?_) | refine SW.condN rfl (fun h => ?_) (fun h => ?_) | refine SW.condNB rfl (fun h => ?_) (fun h => ?_) | refine SW.condB rfl (fun h => ?_) (fun h => ?_))
  · cases post with
    | nil => exfalso; simp at hp; subst hp; omega
    | cons t post =>
      have hg : L.getD pre.length [] = t := by subst hp; simp
      obtain ⟨t1, t2, t3, t4, t5⟩ := h3 t (by subst hp; simp)
      have hlen : pre.length + 1 ≤ 1000 := by rw [hp] at hL; simp at hL; omega
      repeat (first | (with_reducible refine SW.seq ?_) | (with_reducible refine SW.block ?_) | (with_reducible refine SW.rowC ?_) | (with_reducible refine SW.skip ?_) | (with_reducible refine SW.exit ?_) | (with_reducible intro _) | (with_reducible refine And.intro (by omega) ?_) | (simp (config := { maxSteps := 1000000 }) (disch := (first | omega | (simp only [go_sem]; try omega))) only [go_sem, ↓GSplit_t, ↓GSplit_f, ↓GSplit_tf, ↓GSplit_ft, Nat.reduceAdd, Nat.reduceEqDiff, Nat.reduceLeDiff, Nat.reduceMul, Nat.reduceLT, reduceIte, Int.reduceToNat, bne_self_eq_false, beq_self_eq_true, w64_id, cast_succ, Bool.false_eq_true, Bool.and_true, Bool.true_and, Bool.and_false, Bool.false_and, Bool.not_not, hg, pc_alive b1, pc_ld b1, hcb]))
      refine QcallW.of (fun ext => TripleCover_c1_ok _ _ _ n _ _ (by omega) (by omega) (by omega) (by omega) (get_appB hbox ext)) ?_
      repeat (first | (with_reducible refine SW.seq ?_) | (with_reducible refine SW.block ?_) | (with_reducible refine SW.rowC ?_) | (with_reducible refine SW.skip ?_) | (with_reducible refine SW.exit ?_) | (with_reducible intro _) | (with_reducible refine And.intro (by omega) ?_) | (simp (config := { maxSteps := 1000000 }) (disch := (first | omega | (simp only [go_sem]; try omega))) only [go_sem, ↓GSplit_t, ↓GSplit_f, ↓GSplit_tf, ↓GSplit_ft, Nat.reduceAdd, Nat.reduceEqDiff, Nat.reduceLeDiff, Nat.reduceMul, Nat.reduceLT, reduceIte, Int.reduceToNat, bne_self_eq_false, beq_self_eq_true, w64_id, cast_succ, Bool.false_eq_true, Bool.and_true, Bool.true_and, Bool.and_false, Bool.false_and, Bool.not_not, hcb]))
      refine QcallW.of (fun ext => TripleCover_c1_ok _ _ _ n _ _ (by omega) (by omega) (by omega) (by omega) (get_appB hbox ext)) ?_
      repeat (first | (with_reducible refine SW.seq ?_) | (with_reducible refine SW.block ?_) | (with_reducible refine SW.rowC ?_) | (with_reducible refine SW.skip ?_) | (with_reducible refine SW.exit ?_) | (with_reducible intro _) | (with_reducible refine And.intro (by omega) ?_) | (simp (config := { maxSteps := 1000000 }) (disch := (first | omega | (simp only [go_sem]; try omega))) only [go_sem, ↓GSplit_t, ↓GSplit_f, ↓GSplit_tf, ↓GSplit_ft, Nat.reduceAdd, Nat.reduceEqDiff, Nat.reduceLeDiff, Nat.reduceMul, Nat.reduceLT, reduceIte, Int.reduceToNat, bne_self_eq_false, beq_self_eq_true, w64_id, cast_succ, Bool.false_eq_true, Bool.and_true, Bool.true_and, Bool.and_false, Bool.false_and, Bool.not_not, hcb]))
      refine QcallW.of (fun ext => TripleCover_c1_ok _ _ _ n _ _ (by omega) (by omega) (by omega) (by omega) (get_appB hbox ext)) ?_
      repeat (first | (with_reducible refine SW.seq ?_) | (with_reducible refine SW.block ?_) | (with_reducible refine SW.rowC ?_) | (with_reducible refine SW.skip ?_) | (with_reducible refine SW.exit ?_) | (with_reducible intro _) | (with_reducible refine And.intro (by omega) ?_) | (simp (config := { maxSteps := 1000000 }) (disch := (first | omega | (simp only [go_sem]; try omega))) only [go_sem, ↓GSplit_t, ↓GSplit_f, ↓GSplit_tf, ↓GSplit_ft, Nat.reduceAdd, Nat.reduceEqDiff, Nat.reduceLeDiff, Nat.reduceMul, Nat.reduceLT, reduceIte, Int.reduceToNat, bne_self_eq_false, beq_self_eq_true, w64_id, cast_succ, Bool.false_eq_true, Bool.and_true, Bool.true_and, Bool.and_false, Bool.false_and, Bool.not_not]))
      refine GrowSS.appX (xs := triI n t) b2 b3 ?_ ?_
      · rw [List.length_map]; omega
      intro v3 H3 d1 d2 d3
      have e1 : H3[H.length + 2]? = some ⟨0, tyCover, 1, [I items, v]⟩ := by rw [d3 _ (by omega)]; exact b1
      repeat (first | (with_reducible refine SW.seq ?_) | (with_reducible refine SW.block ?_) | (with_reducible refine SW.rowC ?_) | (with_reducible refine SW.skip ?_) | (with_reducible refine SW.exit ?_) | (with_reducible intro _) | (with_reducible refine And.intro (by omega) ?_) | (simp (config := { maxSteps := 1000000 }) (disch := (first | omega | (simp only [go_sem]; try omega))) only [go_sem, ↓GSplit_t, ↓GSplit_f, ↓GSplit_tf, ↓GSplit_ft, Nat.reduceAdd, Nat.reduceEqDiff, Nat.reduceLeDiff, Nat.reduceMul, Nat.reduceLT, reduceIte, Int.reduceToNat, bne_self_eq_false, beq_self_eq_true, w64_id, cast_succ, Bool.false_eq_true, Bool.and_true, Bool.true_and, Bool.and_false, Bool.false_and, Bool.not_not, pc_alive e1, pc_ld e1, d1.parts, d1.cell1]))
      rw [pc_st e1 (by simp)]
      repeat (first | (with_reducible refine SW.seq ?_) | (with_reducible refine SW.block ?_) | (with_reducible refine SW.rowC ?_) | (with_reducible refine SW.skip ?_) | (with_reducible refine SW.exit ?_) | (with_reducible intro _) | (with_reducible refine And.intro (by omega) ?_) | (simp (config := { maxSteps := 1000000 }) (disch := (first | omega | (simp only [go_sem]; try omega))) only [go_sem, ↓GSplit_t, ↓GSplit_f, ↓GSplit_tf, ↓GSplit_ft, Nat.reduceAdd, Nat.reduceEqDiff, Nat.reduceLeDiff, Nat.reduceMul, Nat.reduceLT, reduceIte, Int.reduceToNat, bne_self_eq_false, beq_self_eq_true, w64_id, cast_succ, Bool.false_eq_true, Bool.and_true, Bool.true_and, Bool.and_false, Bool.false_and, Bool.not_not]))
      refine SLoop.next post.length (by simp) ⟨pre ++ [t], post, by simp [hp], rfl, ?_, ?_⟩
      · simp [go_sem]
      · rw [List.map_append]
        exact Bx.put (v2 := v) d1 (by omega) (fun j hj => by rw [d3 j (by omega)]; exact b4 j hj)
  · have : post = [] := by cases post with
      | nil => rfl
      | cons x post => exfalso; subst hp; simp at h; omega
    subst this
    rw [List.append_nil] at hp
    subst hp
    have b5 : H1[H.length + 1]? = some ⟨0, tyCover, 1, [I 0, nilS]⟩ := by rw [b4 _ (by omega)]; simp
    repeat (first | (with_reducible refine SW.seq ?_) | (with_reducible refine SW.block ?_) | (with_reducible refine SW.rowC ?_) | (with_reducible refine SW.skip ?_) | (with_reducible refine SW.exit ?_) | (with_reducible intro _) | (with_reducible refine And.intro (by omega) ?_) | (simp (config := { maxSteps := 1000000 }) (disch := (first | omega | (simp only [go_sem]; try omega))) only [go_sem, ↓GSplit_t, ↓GSplit_f, ↓GSplit_tf, ↓GSplit_ft, Nat.reduceAdd, Nat.reduceEqDiff, Nat.reduceLeDiff, Nat.reduceMul, Nat.reduceLT, reduceIte, Int.reduceToNat, bne_self_eq_false, beq_self_eq_true, w64_id, cast_succ, Bool.false_eq_true, Bool.and_true, Bool.true_and, Bool.and_false, Bool.false_and, Bool.not_not, pc_alive b1, pc_lds b1, b2.cell1]))
    rw [pc_st b5 (by simp)]
    repeat (first | (with_reducible refine SW.seq ?_) | (with_reducible refine SW.block ?_) | (with_reducible refine SW.rowC ?_) | (with_reducible refine SW.skip ?_) | (with_reducible refine SW.exit ?_) | (with_reducible intro _) | (with_reducible refine And.intro (by omega) ?_) | (simp (config := { maxSteps := 1000000 }) (disch := (first | omega | (simp only [go_sem]; try omega))) only [go_sem, ↓GSplit_t, ↓GSplit_f, ↓GSplit_tf, ↓GSplit_ft, Nat.reduceAdd, Nat.reduceEqDiff, Nat.reduceLeDiff, Nat.reduceMul, Nat.reduceLT, reduceIte, Int.reduceToNat, bne_self_eq_false, beq_self_eq_true, w64_id, cast_succ, Bool.false_eq_true, Bool.and_true, Bool.true_and, Bool.and_false, Bool.false_and, Bool.not_not]))
    refine SW.ret ?_
    refine FunPost.cell_tmp (cs := [I items, v]) ?_ (GR.of ?_)
    · simp (config := { maxSteps := 1000000 }) (disch := (first | omega | (simp only [go_sem]; try omega))) only [go_sem, ↓GSplit_t, ↓GSplit_f, ↓GSplit_tf, ↓GSplit_ft, Nat.reduceAdd, Nat.reduceEqDiff, Nat.reduceLeDiff, Nat.reduceMul, Nat.reduceLT, reduceIte, Int.reduceToNat, bne_self_eq_false, beq_self_eq_true, w64_id, cast_succ, Bool.false_eq_true, Bool.and_true, Bool.true_and, Bool.and_false, Bool.false_and, Bool.not_not]
      rw [pc_lds (List.getElem?_set_self (List.getElem?_eq_some_iff.1 b5).1) (by simp)]
      rfl
    · have hlt : ∀ j, j < H.length → (H1.set (H.length + 1) ⟨0, tyCover, 1, [I items, v]⟩)[j]? = H[j]? := fun j hj => by
        rw [List.getElem?_set_ne (by omega), b4 j (by omega), List.getElem?_append_left hj]
      obtain ⟨ext, he⟩ := prefix_of (H := H) (H' := H1.set (H.length + 1) ⟨0, tyCover, 1, [I items, v]⟩) (by simp; omega) hlt
      refine ⟨ext, v, he, rfl, ?_⟩
      refine GrowSS.own (b2.same (fun j b h1 h2 => ?_)) (by omega)
      rw [List.getElem?_set_ne (by omega)]; exact h2

def pairS (n a b : Int) : Int := w64 (w64 (w64 (w64 ((w64 (a * (2 * n - a - 1))).tdiv 2) + b) - a) - 1)
theorem l24Pair_fn (n a b : Int) (hn : 0 ≤ n ∧ n ≤ 32) (ha : 0 ≤ a ∧ a < n) (hb : 0 ≤ b ∧ b < n) : PFn Try.prog f_spec_l24Pair [I n, I a, I b] (I (pairS n a b)) := by
  intro H; refine ACalls.introB s_spec_l24Pair (by simp) ?_; intro hB hA; unfold c_spec_l24Pair; simp (config := { maxSteps := 1000000 }) (disch := (first | omega | (simp only [go_sem]; try omega))) only [go_sem, ↓GSplit_t, ↓GSplit_f, ↓GSplit_tf, ↓GSplit_ft, Nat.reduceAdd, Nat.reduceEqDiff, Nat.reduceLeDiff, Nat.reduceMul, Nat.reduceLT, reduceIte, Int.reduceToNat, bne_self_eq_false, beq_self_eq_true, w64_id, cast_succ, Bool.false_eq_true, Bool.and_true, Bool.true_and, Bool.and_false, Bool.false_and, Bool.not_not]
  repeat (first | (with_reducible refine SW.seq ?_) | (with_reducible refine SW.block ?_) | (with_reducible refine SW.rowC ?_) | (with_reducible refine SW.skip ?_) | (with_reducible refine SW.exit ?_) | (with_reducible intro _) | (with_reducible refine And.intro (by omega) ?_) | (simp (config := { maxSteps := 1000000 }) (disch := (first | omega | (simp only [go_sem]; try omega))) only [go_sem, ↓GSplit_t, ↓GSplit_f, ↓GSplit_tf, ↓GSplit_ft, Nat.reduceAdd, Nat.reduceEqDiff, Nat.reduceLeDiff, Nat.reduceMul, Nat.reduceLT, reduceIte, Int.reduceToNat, bne_self_eq_false, beq_self_eq_true, w64_id, cast_succ, Bool.false_eq_true, Bool.and_true, Bool.true_and, Bool.and_false, Bool.false_and, Bool.not_not]))
  refine SW.ret ?_; (try simp only [go_sem]); (first | refine FunPost.one ?_ | refine FunPost.two ?_ | refine FunPost.three ?_); (try simp (config := { maxSteps := 1000000 }) (disch := (first | omega | (simp only [go_sem]; try omega))) only [go_sem, ↓GSplit_t, ↓GSplit_f, ↓GSplit_tf, ↓GSplit_ft, Nat.reduceAdd, Nat.reduceEqDiff, Nat.reduceLeDiff, Nat.reduceMul, Nat.reduceLT, reduceIte, Int.reduceToNat, bne_self_eq_false, beq_self_eq_true, w64_id, cast_succ, Bool.false_eq_true, Bool.and_true, Bool.true_and, Bool.and_false, Bool.false_and, Bool.not_not]); (first | (with_reducible refine GR.drop ?_ ?_; (simp only [and_self, and_true, true_and, implies_true, Bel_lit, Bel_I, Bel_Bv, Bel_nil, Bel_junk, Bel_nm, Bel_pc, Bel_il, Bel_agg, Bel_tup, Bel_fn, Bel_el, all_mapI, all_mapB, all_mapS, all_nilB, all_consB, EB_nil, EB_cons, BB_nil, BB_cons, Bel_ilS, Bel_ilSS, Bel_ilB, List.getElem?_cons_zero, List.take_succ_cons, List.take_zero, keep_nil, keep_cons])) | refine GR.of ?_); refine ⟨?_, rfl⟩; (try with_reducible rfl)
  rfl

def triS (n a b c : Nat) : List Int := [pairS n a b, pairS n a c, pairS n b c]
def tc (n a b c : Nat) : List (List Int) := ((List.range c).filter fun c => decide (b < c)).map fun c => triS n a b c
def tb (n a b : Nat) : List (List Int) := ((List.range b).filter fun b => decide (a < b)).flatMap fun b => tc n a b n
def ta (n a : Nat) : List (List Int) := (List.range a).flatMap fun a => tb n a n
theorem tc_zero (n a b : Nat) : tc n a b (b + 1) = [] := by
  unfold tc
  rw [List.filter_eq_nil_iff.2]
  · rfl
  · intro c hc; simp at hc ⊢; omega
theorem tc_succ (n a b c : Nat) (h : b < c) : tc n a b (c + 1) = tc n a b c ++ [triS n a b c] := by
  unfold tc; rw [List.range_succ, List.filter_append]; simp [h]
theorem tb_zero (n a : Nat) : tb n a (a + 1) = [] := by
  unfold tb
  rw [List.filter_eq_nil_iff.2]
  · rfl
  · intro c hc; simp at hc ⊢; omega
theorem tb_succ (n a b : Nat) (h : a < b) : tb n a (b + 1) = tb n a b ++ tc n a b n := by
  unfold tb; rw [List.range_succ, List.filter_append]; simp [h]
theorem ta_succ (n a : Nat) : ta n (a + 1) = ta n a ++ tb n a n := by
  unfold ta; rw [List.range_succ, List.flatMap_append]; simp
theorem tc_len (n a b c : Nat) : (tc n a b c).length ≤ c := by
  unfold tc; rw [List.length_map]; exact Nat.le_trans (List.length_filter_le _ _) (by simp)
theorem flen {α : Type} (l : List α) (f : α → List (List Int)) (m : Nat) (h : ∀ x ∈ l, (f x).length ≤ m) : (l.flatMap f).length ≤ l.length * m := by
  induction l with
  | nil => simp
  | cons x l ih =>
    simp only [List.flatMap_cons, List.length_append, List.length_cons, Nat.succ_mul]
    have := h x (by simp)
    have := ih (fun y hy => h y (by simp [hy]))
    omega
theorem tb_len (n a b : Nat) : (tb n a b).length ≤ b * n := by
  unfold tb
  refine Nat.le_trans (flen _ _ n (fun x _ => tc_len n a x n)) ?_
  exact Nat.mul_le_mul_right _ (Nat.le_trans (List.length_filter_le _ _) (by simp))
theorem ta_len (n a : Nat) : (ta n a).length ≤ a * (n * n) := by
  unfold ta
  refine Nat.le_trans (flen _ _ (n * n) (fun x _ => tb_len n x n)) ?_
  simp

theorem Bx.of {Hb H' : List Blk} {p : Nat} {hd : AV} {xss yss : List (List Int)} (h : Bx Hb p hd xss H') (e : xss = yss) : Bx Hb p hd yss H' := e ▸ h

theorem l24Triples_ok (H : List Blk) (n : Nat) (h0 : 3 ≤ n ∧ n ≤ 11) : ACalls Try.prog f_spec_l24Triples [I n] H (fun r H' => r = .agg [I (w64 ((w64 (n * (n - 1) : Int)).tdiv 2)), ilSS (ta n n)] ∧ H' = H) := by
  refine ACalls.introB s_spec_l24Triples (by simp) ?_; intro hB hA; unfold c_spec_l24Triples; simp (config := { maxSteps := 1000000 }) (disch := (first | omega | (simp only [go_sem]; try omega))) only [go_sem, ↓GSplit_t, ↓GSplit_f, ↓GSplit_tf, ↓GSplit_ft, Nat.reduceAdd, Nat.reduceEqDiff, Nat.reduceLeDiff, Nat.reduceMul, Nat.reduceLT, reduceIte, Int.reduceToNat, bne_self_eq_false, beq_self_eq_true, w64_id, cast_succ, Bool.false_eq_true, Bool.and_true, Bool.true_and, Bool.and_false, Bool.false_and, Bool.not_not]
  repeat (first | (with_reducible refine SW.seq ?_) | (with_reducible refine SW.block ?_) | (with_reducible refine SW.rowC ?_) | (with_reducible refine SW.skip ?_) | (with_reducible refine SW.exit ?_) | (with_reducible intro _) | (with_reducible refine And.intro (by omega) ?_) | (simp (config := { maxSteps := 1000000 }) (disch := (first | omega | (simp only [go_sem]; try omega))) only [go_sem, ↓GSplit_t, ↓GSplit_f, ↓GSplit_tf, ↓GSplit_ft, Nat.reduceAdd, Nat.reduceEqDiff, Nat.reduceLeDiff, Nat.reduceMul, Nat.reduceLT, reduceIte, Int.reduceToNat, bne_self_eq_false, beq_self_eq_true, w64_id, cast_succ, Bool.false_eq_true, Bool.and_true, Bool.true_and, Bool.and_false, Bool.false_and, Bool.not_not]))
  generalize hit : w64 ((w64 (n * (n - 1) : Int)).tdiv 2) = items
  refine SW.loopE (fun E0 H0 q E' H' => ∃ a : Nat, a ≤ n ∧ q = n - a ∧ E' = aput E0 4 (I a) ∧
    Bx (H ++ [⟨0, tyCover, 1, [I 0, nilS]⟩]) (H.length + 1) (I items) (ta n a) H') n ⟨0, by omega, by omega, rfl, nilS, by simp, .inl ⟨rfl, rfl⟩, by simp, fun j hj => ?_⟩ ?_
  · rw [show H ++ [(⟨0, tyCover, 1, [I 0, nilS]⟩ : Blk), ⟨0, tyCover, 1, [I items, nilS]⟩] = (H ++ [⟨0, tyCover, 1, [I 0, nilS]⟩]) ++ [(⟨0, tyCover, 1, [I items, nilS]⟩ : Blk)] by simp]
    rw [List.getElem?_append_left (by simp; omega)]
  rintro q E' H1 ⟨a, ha, rfl, rfl, hbx⟩
  simp (config := { maxSteps := 1000000 }) (disch := (first | omega | (simp only [go_sem]; try omega))) only [go_sem, ↓GSplit_t, ↓GSplit_f, ↓GSplit_tf, ↓GSplit_ft, Nat.reduceAdd, Nat.reduceEqDiff, Nat.reduceLeDiff, Nat.reduceMul, Nat.reduceLT, reduceIte, Int.reduceToNat, bne_self_eq_false, beq_self_eq_true, w64_id, cast_succ, Bool.false_eq_true, Bool.and_true, Bool.true_and, Bool.and_false, Bool.false_and, Bool.not_not]
  repeat (first | (with_reducible refine SW.seq ?_) | (with_reducible refine SW.block ?_) | (with_reducible refine SW.rowC ?_) | (with_reducible refine SW.skip ?_) | (with_reducible refine SW.exit ?_) | (with_reducible intro _) | (with_reducible refine And.intro (by omega) ?_) | (simp (config := { maxSteps := 1000000 }) (disch := (first | omega | (simp only [go_sem]; try omega))) only [go_sem, ↓GSplit_t, ↓GSplit_f, ↓GSplit_tf, ↓GSplit_ft, Nat.reduceAdd, Nat.reduceEqDiff, Nat.reduceLeDiff, Nat.reduceMul, Nat.reduceLT, reduceIte, Int.reduceToNat, bne_self_eq_false, beq_self_eq_true, w64_id, cast_succ, Bool.false_eq_true, Bool.and_true, Bool.true_and, Bool.and_false, Bool.false_and, Bool.not_not]))
  (first | refine SW.condD rfl (fun h => ?_) (fun h => ?_) | refine SW.condN rfl (fun h => ?_) (fun h => ?_) | refine SW.condNB rfl (fun h => ?_) (fun h => ?_) | refine SW.condB rfl (fun h => ?_) (fun h => ?_))
  · repeat (first | (with_reducible refine SW.seq ?_) | (with_reducible refine SW.block ?_) | (with_reducible refine SW.rowC ?_) | (with_reducible refine SW.skip ?_) | (with_reducible refine SW.exit ?_) | (with_reducible intro _) | (with_reducible refine And.intro (by omega) ?_) | (simp (config := { maxSteps := 1000000 }) (disch := (first | omega | (simp only [go_sem]; try omega))) only [go_sem, ↓GSplit_t, ↓GSplit_f, ↓GSplit_tf, ↓GSplit_ft, Nat.reduceAdd, Nat.reduceEqDiff, Nat.reduceLeDiff, Nat.reduceMul, Nat.reduceLT, reduceIte, Int.reduceToNat, bne_self_eq_false, beq_self_eq_true, w64_id, cast_succ, Bool.false_eq_true, Bool.and_true, Bool.true_and, Bool.and_false, Bool.false_and, Bool.not_not]))
    refine SW.loopE (fun E0 H0 q E' H' => ∃ b : Nat, a < b ∧ b ≤ n ∧ q = n - b ∧ E' = aput E0 5 (I b) ∧
      Bx (H ++ [⟨0, tyCover, 1, [I 0, nilS]⟩]) (H.length + 1) (I items) (ta n a ++ tb n a b) H') (n - (a + 1)) ⟨a + 1, by omega, by omega, rfl, rfl, hbx.of (by rw [tb_zero, List.append_nil])⟩ ?_
    rintro q E' H2 ⟨b, hab, hb, rfl, rfl, hbx2⟩
    simp (config := { maxSteps := 1000000 }) (disch := (first | omega | (simp only [go_sem]; try omega))) only [go_sem, ↓GSplit_t, ↓GSplit_f, ↓GSplit_tf, ↓GSplit_ft, Nat.reduceAdd, Nat.reduceEqDiff, Nat.reduceLeDiff, Nat.reduceMul, Nat.reduceLT, reduceIte, Int.reduceToNat, bne_self_eq_false, beq_self_eq_true, w64_id, cast_succ, Bool.false_eq_true, Bool.and_true, Bool.true_and, Bool.and_false, Bool.false_and, Bool.not_not]
    repeat (first | (with_reducible refine SW.seq ?_) | (with_reducible refine SW.block ?_) | (with_reducible refine SW.rowC ?_) | (with_reducible refine SW.skip ?_) | (with_reducible refine SW.exit ?_) | (with_reducible intro _) | (with_reducible refine And.intro (by omega) ?_) | (simp (config := { maxSteps := 1000000 }) (disch := (first | omega | (simp only [go_sem]; try omega))) only [go_sem, ↓GSplit_t, ↓GSplit_f, ↓GSplit_tf, ↓GSplit_ft, Nat.reduceAdd, Nat.reduceEqDiff, Nat.reduceLeDiff, Nat.reduceMul, Nat.reduceLT, reduceIte, Int.reduceToNat, bne_self_eq_false, beq_self_eq_true, w64_id, cast_succ, Bool.false_eq_true, Bool.and_true, Bool.true_and, Bool.and_false, Bool.false_and, Bool.not_not]))
    (first | refine SW.condD rfl (fun h2 => ?_) (fun h2 => ?_) | refine SW.condN rfl (fun h2 => ?_) (fun h2 => ?_) | refine SW.condNB rfl (fun h2 => ?_) (fun h2 => ?_) | refine SW.condB rfl (fun h2 => ?_) (fun h2 => ?_))
    · repeat (first | (with_reducible refine SW.seq ?_) | (with_reducible refine SW.block ?_) | (with_reducible refine SW.rowC ?_) | (with_reducible refine SW.skip ?_) | (with_reducible refine SW.exit ?_) | (with_reducible intro _) | (with_reducible refine And.intro (by omega) ?_) | (simp (config := { maxSteps := 1000000 }) (disch := (first | omega | (simp only [go_sem]; try omega))) only [go_sem, ↓GSplit_t, ↓GSplit_f, ↓GSplit_tf, ↓GSplit_ft, Nat.reduceAdd, Nat.reduceEqDiff, Nat.reduceLeDiff, Nat.reduceMul, Nat.reduceLT, reduceIte, Int.reduceToNat, bne_self_eq_false, beq_self_eq_true, w64_id, cast_succ, Bool.false_eq_true, Bool.and_true, Bool.true_and, Bool.and_false, Bool.false_and, Bool.not_not]))
      refine SW.loopE (fun E0 H0 q E' H' => ∃ c : Nat, b < c ∧ c ≤ n ∧ q = n - c ∧ E' = aput E0 6 (I c) ∧
        Bx (H ++ [⟨0, tyCover, 1, [I 0, nilS]⟩]) (H.length + 1) (I items) (ta n a ++ tb n a b ++ tc n a b c) H') (n - (b + 1)) ⟨b + 1, by omega, by omega, rfl, rfl, hbx2.of (by rw [tc_zero, List.append_nil])⟩ ?_
      rintro q E' H3 ⟨c, hbc, hc, rfl, rfl, v, b1, b2, b3, b4⟩
      simp (config := { maxSteps := 1000000 }) (disch := (first | omega | (simp only [go_sem]; try omega))) only [go_sem, ↓GSplit_t, ↓GSplit_f, ↓GSplit_tf, ↓GSplit_ft, Nat.reduceAdd, Nat.reduceEqDiff, Nat.reduceLeDiff, Nat.reduceMul, Nat.reduceLT, reduceIte, Int.reduceToNat, bne_self_eq_false, beq_self_eq_true, w64_id, cast_succ, Bool.false_eq_true, Bool.and_true, Bool.true_and, Bool.and_false, Bool.false_and, Bool.not_not]
      repeat (first | (with_reducible refine SW.seq ?_) | (with_reducible refine SW.block ?_) | (with_reducible refine SW.rowC ?_) | (with_reducible refine SW.skip ?_) | (with_reducible refine SW.exit ?_) | (with_reducible intro _) | (with_reducible refine And.intro (by omega) ?_) | (simp (config := { maxSteps := 1000000 }) (disch := (first | omega | (simp only [go_sem]; try omega))) only [go_sem, ↓GSplit_t, ↓GSplit_f, ↓GSplit_tf, ↓GSplit_ft, Nat.reduceAdd, Nat.reduceEqDiff, Nat.reduceLeDiff, Nat.reduceMul, Nat.reduceLT, reduceIte, Int.reduceToNat, bne_self_eq_false, beq_self_eq_true, w64_id, cast_succ, Bool.false_eq_true, Bool.and_true, Bool.true_and, Bool.and_false, Bool.false_and, Bool.not_not]))
      (first | refine SW.condD rfl (fun h3 => ?_) (fun h3 => ?_) | refine SW.condN rfl (fun h3 => ?_) (fun h3 => ?_) | refine SW.condNB rfl (fun h3 => ?_) (fun h3 => ?_) | refine SW.condB rfl (fun h3 => ?_) (fun h3 => ?_))
      · repeat (first | (with_reducible refine SW.seq ?_) | (with_reducible refine SW.block ?_) | (with_reducible refine SW.rowC ?_) | (with_reducible refine SW.skip ?_) | (with_reducible refine SW.exit ?_) | (with_reducible refine PFn.use (l24Pair_fn n a b (by omega) (by omega) (by omega)) ?_) | (with_reducible refine PFn.useq (l24Pair_fn n a b (by omega) (by omega) (by omega)) ?_) | (with_reducible refine PFn.use (l24Pair_fn n a c (by omega) (by omega) (by omega)) ?_) | (with_reducible refine PFn.useq (l24Pair_fn n a c (by omega) (by omega) (by omega)) ?_) | (with_reducible refine PFn.use (l24Pair_fn n b c (by omega) (by omega) (by omega)) ?_) | (with_reducible refine PFn.useq (l24Pair_fn n b c (by omega) (by omega) (by omega)) ?_) | (with_reducible intro _) | (with_reducible refine And.intro (by omega) ?_) | (simp (config := { maxSteps := 1000000 }) (disch := (first | omega | (simp only [go_sem]; try omega))) only [go_sem, ↓GSplit_t, ↓GSplit_f, ↓GSplit_tf, ↓GSplit_ft, Nat.reduceAdd, Nat.reduceEqDiff, Nat.reduceLeDiff, Nat.reduceMul, Nat.reduceLT, reduceIte, Int.reduceToNat, bne_self_eq_false, beq_self_eq_true, w64_id, cast_succ, Bool.false_eq_true, Bool.and_true, Bool.true_and, Bool.and_false, Bool.false_and, Bool.not_not, pc_alive b1, pc_ld b1]))
        refine GrowSS.appX (xs := triS n a b c) b2 b3 ?_ ?_
        · have g1 := ta_len n a
          have g2 := tb_len n a b
          have g3 := tc_len n a b c
          have g4 : a * (n * n) ≤ 11 * (11 * 11) := Nat.mul_le_mul (by omega) (Nat.mul_le_mul h0.2 h0.2)
          have g5 : b * n ≤ 11 * 11 := Nat.mul_le_mul (by omega) h0.2
          rw [List.length_append, List.length_append]; omega
        intro v3 H4 d1 d2 d3
        have e1 : H4[H.length + 1]? = some ⟨0, tyCover, 1, [I items, v]⟩ := by rw [d3 _ (by omega)]; exact b1
        repeat (first | (with_reducible refine SW.seq ?_) | (with_reducible refine SW.block ?_) | (with_reducible refine SW.rowC ?_) | (with_reducible refine SW.skip ?_) | (with_reducible refine SW.exit ?_) | (with_reducible intro _) | (with_reducible refine And.intro (by omega) ?_) | (simp (config := { maxSteps := 1000000 }) (disch := (first | omega | (simp only [go_sem]; try omega))) only [go_sem, ↓GSplit_t, ↓GSplit_f, ↓GSplit_tf, ↓GSplit_ft, Nat.reduceAdd, Nat.reduceEqDiff, Nat.reduceLeDiff, Nat.reduceMul, Nat.reduceLT, reduceIte, Int.reduceToNat, bne_self_eq_false, beq_self_eq_true, w64_id, cast_succ, Bool.false_eq_true, Bool.and_true, Bool.true_and, Bool.and_false, Bool.false_and, Bool.not_not, pc_alive e1, pc_ld e1, d1.parts, d1.cell1]))
        rw [pc_st e1 (by simp)]
        repeat (first | (with_reducible refine SW.seq ?_) | (with_reducible refine SW.block ?_) | (with_reducible refine SW.rowC ?_) | (with_reducible refine SW.skip ?_) | (with_reducible refine SW.exit ?_) | (with_reducible intro _) | (with_reducible refine And.intro (by omega) ?_) | (simp (config := { maxSteps := 1000000 }) (disch := (first | omega | (simp only [go_sem]; try omega))) only [go_sem, ↓GSplit_t, ↓GSplit_f, ↓GSplit_tf, ↓GSplit_ft, Nat.reduceAdd, Nat.reduceEqDiff, Nat.reduceLeDiff, Nat.reduceMul, Nat.reduceLT, reduceIte, Int.reduceToNat, bne_self_eq_false, beq_self_eq_true, w64_id, cast_succ, Bool.false_eq_true, Bool.and_true, Bool.true_and, Bool.and_false, Bool.false_and, Bool.not_not]))
        refine SLoop.next (n - (c + 1)) (by omega) ⟨c + 1, by omega, by omega, rfl, ?_, ?_⟩
        · simp [go_sem]
        · rw [tc_succ _ _ _ _ hbc]
          simp only [List.append_assoc] at d1 ⊢
          exact Bx.put (v2 := v) d1 (by omega) (fun j hj => by rw [d3 j (by omega)]; exact b4 j hj)
      · have : c = n := by omega
        subst this
        repeat (first | (with_reducible refine SW.seq ?_) | (with_reducible refine SW.block ?_) | (with_reducible refine SW.rowC ?_) | (with_reducible refine SW.skip ?_) | (with_reducible refine SW.exit ?_) | (with_reducible intro _) | (with_reducible refine And.intro (by omega) ?_) | (simp (config := { maxSteps := 1000000 }) (disch := (first | omega | (simp only [go_sem]; try omega))) only [go_sem, ↓GSplit_t, ↓GSplit_f, ↓GSplit_tf, ↓GSplit_ft, Nat.reduceAdd, Nat.reduceEqDiff, Nat.reduceLeDiff, Nat.reduceMul, Nat.reduceLT, reduceIte, Int.reduceToNat, bne_self_eq_false, beq_self_eq_true, w64_id, cast_succ, Bool.false_eq_true, Bool.and_true, Bool.true_and, Bool.and_false, Bool.false_and, Bool.not_not]))
        refine SLoop.next (c - (b + 1)) (by omega) ⟨b + 1, by omega, by omega, rfl, ?_, ?_⟩
        · simp [go_sem]
        · rw [tb_succ _ _ _ hab]; simp only [List.append_assoc] at b2 ⊢; exact ⟨v, b1, b2, b3, b4⟩
    · have : b = n := by omega
      subst this
      repeat (first | (with_reducible refine SW.seq ?_) | (with_reducible refine SW.block ?_) | (with_reducible refine SW.rowC ?_) | (with_reducible refine SW.skip ?_) | (with_reducible refine SW.exit ?_) | (with_reducible intro _) | (with_reducible refine And.intro (by omega) ?_) | (simp (config := { maxSteps := 1000000 }) (disch := (first | omega | (simp only [go_sem]; try omega))) only [go_sem, ↓GSplit_t, ↓GSplit_f, ↓GSplit_tf, ↓GSplit_ft, Nat.reduceAdd, Nat.reduceEqDiff, Nat.reduceLeDiff, Nat.reduceMul, Nat.reduceLT, reduceIte, Int.reduceToNat, bne_self_eq_false, beq_self_eq_true, w64_id, cast_succ, Bool.false_eq_true, Bool.and_true, Bool.true_and, Bool.and_false, Bool.false_and, Bool.not_not]))
      refine SLoop.next (b - (a + 1)) (by omega) ⟨a + 1, by omega, rfl, ?_, ?_⟩
      · simp [go_sem]
      · rw [ta_succ]; exact hbx2
  · have : a = n := by omega
    subst this
    obtain ⟨v, b1, b2, b3, b4⟩ := hbx
    have b5 : H1[H.length]? = some ⟨0, tyCover, 1, [I 0, nilS]⟩ := by rw [b4 _ (by omega)]; simp
    repeat (first | (with_reducible refine SW.seq ?_) | (with_reducible refine SW.block ?_) | (with_reducible refine SW.rowC ?_) | (with_reducible refine SW.skip ?_) | (with_reducible refine SW.exit ?_) | (with_reducible intro _) | (with_reducible refine And.intro (by omega) ?_) | (simp (config := { maxSteps := 1000000 }) (disch := (first | omega | (simp only [go_sem]; try omega))) only [go_sem, ↓GSplit_t, ↓GSplit_f, ↓GSplit_tf, ↓GSplit_ft, Nat.reduceAdd, Nat.reduceEqDiff, Nat.reduceLeDiff, Nat.reduceMul, Nat.reduceLT, reduceIte, Int.reduceToNat, bne_self_eq_false, beq_self_eq_true, w64_id, cast_succ, Bool.false_eq_true, Bool.and_true, Bool.true_and, Bool.and_false, Bool.false_and, Bool.not_not, pc_alive b1, pc_lds b1, b2.cell1]))
    rw [pc_st b5 (by simp)]
    repeat (first | (with_reducible refine SW.seq ?_) | (with_reducible refine SW.block ?_) | (with_reducible refine SW.rowC ?_) | (with_reducible refine SW.skip ?_) | (with_reducible refine SW.exit ?_) | (with_reducible intro _) | (with_reducible refine And.intro (by omega) ?_) | (simp (config := { maxSteps := 1000000 }) (disch := (first | omega | (simp only [go_sem]; try omega))) only [go_sem, ↓GSplit_t, ↓GSplit_f, ↓GSplit_tf, ↓GSplit_ft, Nat.reduceAdd, Nat.reduceEqDiff, Nat.reduceLeDiff, Nat.reduceMul, Nat.reduceLT, reduceIte, Int.reduceToNat, bne_self_eq_false, beq_self_eq_true, w64_id, cast_succ, Bool.false_eq_true, Bool.and_true, Bool.true_and, Bool.and_false, Bool.false_and, Bool.not_not]))
    refine SW.ret ?_
    refine FunPost.cell (cs := [I items, v]) ?_ ?_
    · simp (config := { maxSteps := 1000000 }) (disch := (first | omega | (simp only [go_sem]; try omega))) only [go_sem, ↓GSplit_t, ↓GSplit_f, ↓GSplit_tf, ↓GSplit_ft, Nat.reduceAdd, Nat.reduceEqDiff, Nat.reduceLeDiff, Nat.reduceMul, Nat.reduceLT, reduceIte, Int.reduceToNat, bne_self_eq_false, beq_self_eq_true, w64_id, cast_succ, Bool.false_eq_true, Bool.and_true, Bool.true_and, Bool.and_false, Bool.false_and, Bool.not_not]
      rw [pc_lds (List.getElem?_set_self (List.getElem?_eq_some_iff.1 b5).1) (by simp)]
      rfl
    · obtain ⟨ext, he⟩ := prefix_of (H := H) (H' := H1.set H.length ⟨0, tyCover, 1, [I items, v]⟩) (by simp; omega) (fun j hj => by
        rw [List.getElem?_set_ne (by omega), b4 j (by omega), List.getElem?_append_left hj])
      have own : OwnSS (H1.set H.length ⟨0, tyCover, 1, [I items, v]⟩) (Btw H.length (H1.set H.length ⟨0, tyCover, 1, [I items, v]⟩).length) v (ta a a) := by
        refine GrowSS.own (b2.same (fun j b h1 h2 => ?_)) (by omega)
        rw [List.getElem?_set_ne (by omega)]; exact h2
      have fz := own.froz (base := H.length) (fun r hr => hr.1)
      revert fz
      show _ → GR H _ _ (H1.set H.length ⟨0, tyCover, 1, [I items, v]⟩)
      rw [he]
      intro fz
      exact GR.froz (froz_agg2 (froz_I' _) fz) ⟨rfl, rfl⟩

/-- All sets of three, each behind the one before. -/
def nextsS (n : Int) : Nat → List Int → List (List Int)
  | 0, _ => []
  | f + 1, s => s :: match nextSub n s with
    | some t => nextsS n f t
    | none => []
def chainB (n : Int) : List (List Int) → Bool
  | [] => true
  | [s] => asc 0 (n - 1) s && (nextSub n s).isNone
  | s :: t :: r => asc 0 (n - 1) s && decide (nextSub n s = some t) && chainB n (t :: r)
theorem chainB_ok (n : Int) : ∀ L : List (List Int), chainB n L = true → chainS n L
  | [], _ => trivial
  | [s], h => by
    simp only [chainB, Bool.and_eq_true, Option.isNone_iff_eq_none] at h
    exact h
  | s :: t :: r, h => by
    simp only [chainB, Bool.and_eq_true, decide_eq_true_eq] at h
    exact ⟨h.1.1, h.1.2, chainB_ok n (t :: r) h.2⟩
def triL (n : Nat) : List (List Int) := nextsS n 200 (idL 3)
def triChk (n : Nat) : Bool := chainB n (triL n) && (triL n).all (fun t => decide (t.length = 3) && decide (0 ≤ t.getD 0 0) && decide (t.getD 0 0 < t.getD 1 0) && decide (t.getD 1 0 < t.getD 2 0) && decide (t.getD 2 0 < n)) && decide ((triL n).length ≤ 1000) && decide ((triL n).map (triI n) = ta n n) && decide (chooseI n 2 = w64 ((w64 (n * (n - 1) : Int)).tdiv 2)) && decide (total (ta n n) ≤ 1000)
theorem triChk_ok {n : Nat} (h : 3 ≤ n ∧ n ≤ 11) : triChk n = true := by
  have : n = 3 ∨ n = 4 ∨ n = 5 ∨ n = 6 ∨ n = 7 ∨ n = 8 ∨ n = 9 ∨ n = 10 ∨ n = 11 := by omega
  rcases this with rfl | rfl | rfl | rfl | rfl | rfl | rfl | rfl | rfl <;> decide +kernel

theorem implTri_out (H : List Blk) (n : Int) (h : ¬ (3 ≤ n ∧ n ≤ 11)) : ACalls Try.prog f_impl_TripleCover [I n] H (fun r H' => r = .tup [.agg [I 0, nilS], I 2] ∧ H' = H) := by
  refine ACalls.introB s_impl_TripleCover (by simp) ?_; intro hB hA; unfold c_impl_TripleCover; simp (config := { maxSteps := 1000000 }) (disch := (first | omega | (simp only [go_sem]; try omega))) only [go_sem, ↓GSplit_t, ↓GSplit_f, ↓GSplit_tf, ↓GSplit_ft, Nat.reduceAdd, Nat.reduceEqDiff, Nat.reduceLeDiff, Nat.reduceMul, Nat.reduceLT, reduceIte, Int.reduceToNat, bne_self_eq_false, beq_self_eq_true, w64_id, cast_succ, Bool.false_eq_true, Bool.and_true, Bool.true_and, Bool.and_false, Bool.false_and, Bool.not_not]
  repeat (first | (with_reducible refine SW.seq ?_) | (with_reducible refine SW.block ?_) | (with_reducible refine SW.rowC ?_) | (with_reducible refine SW.skip ?_) | (with_reducible refine SW.exit ?_) | (with_reducible refine PFn.use (within_fn _ _ _) ?_) | (with_reducible refine PFn.useq (within_fn _ _ _) ?_) | (with_reducible intro _) | (with_reducible refine And.intro (by omega) ?_) | (simp (config := { maxSteps := 1000000 }) (disch := (first | omega | (simp only [go_sem]; try omega))) only [go_sem, ↓GSplit_t, ↓GSplit_f, ↓GSplit_tf, ↓GSplit_ft, Nat.reduceAdd, Nat.reduceEqDiff, Nat.reduceLeDiff, Nat.reduceMul, Nat.reduceLT, reduceIte, Int.reduceToNat, bne_self_eq_false, beq_self_eq_true, w64_id, cast_succ, Bool.false_eq_true, Bool.and_true, Bool.true_and, Bool.and_false, Bool.false_and, Bool.not_not]))
  (first | refine SW.condD rfl (fun h2 => ?_) (fun h2 => ?_) | refine SW.condN rfl (fun h2 => ?_) (fun h2 => ?_) | refine SW.condNB rfl (fun h2 => ?_) (fun h2 => ?_) | refine SW.condB rfl (fun h2 => ?_) (fun h2 => ?_))
  · repeat (first | (with_reducible refine SW.seq ?_) | (with_reducible refine SW.block ?_) | (with_reducible refine SW.rowC ?_) | (with_reducible refine SW.skip ?_) | (with_reducible refine SW.exit ?_) | (with_reducible intro _) | (with_reducible refine And.intro (by omega) ?_) | (simp (config := { maxSteps := 1000000 }) (disch := (first | omega | (simp only [go_sem]; try omega))) only [go_sem, ↓GSplit_t, ↓GSplit_f, ↓GSplit_tf, ↓GSplit_ft, Nat.reduceAdd, Nat.reduceEqDiff, Nat.reduceLeDiff, Nat.reduceMul, Nat.reduceLT, reduceIte, Int.reduceToNat, bne_self_eq_false, beq_self_eq_true, w64_id, cast_succ, Bool.false_eq_true, Bool.and_true, Bool.true_and, Bool.and_false, Bool.false_and, Bool.not_not]))
    refine SW.ret ?_
    refine FunPost.cell_tmp (cs := [I 0, nilS]) (by simp (config := { maxSteps := 1000000 }) (disch := (first | omega | (simp only [go_sem]; try omega))) only [go_sem, ↓GSplit_t, ↓GSplit_f, ↓GSplit_tf, ↓GSplit_ft, Nat.reduceAdd, Nat.reduceEqDiff, Nat.reduceLeDiff, Nat.reduceMul, Nat.reduceLT, reduceIte, Int.reduceToNat, bne_self_eq_false, beq_self_eq_true, w64_id, cast_succ, Bool.false_eq_true, Bool.and_true, Bool.true_and, Bool.and_false, Bool.false_and, Bool.not_not]) (GR.drop (ext := [_, _]) ?_ ?_)
    · simp (config := { maxSteps := 1000000 }) (disch := (first | omega | (simp only [go_sem]; try omega))) only [go_sem, ↓GSplit_t, ↓GSplit_f, ↓GSplit_tf, ↓GSplit_ft, Nat.reduceAdd, Nat.reduceEqDiff, Nat.reduceLeDiff, Nat.reduceMul, Nat.reduceLT, reduceIte, Int.reduceToNat, bne_self_eq_false, beq_self_eq_true, w64_id, cast_succ, Bool.false_eq_true, Bool.and_true, Bool.true_and, Bool.and_false, Bool.false_and, Bool.not_not]
      (simp only [go_sem, Nat.reduceAdd, Nat.reduceEqDiff, reduceIte, and_self, and_true, true_and, implies_true, Bel_lit, Bel_I, Bel_Bv, Bel_nil, Bel_junk, Bel_nm, Bel_pc, Bel_il, Bel_agg, Bel_tup, Bel_fn, Bel_el, all_mapI, all_mapB, all_mapS, all_nilB, all_consB, EB_nil, EB_cons, BB_nil, BB_cons, Bel_ilS, Bel_ilSS, Bel_ilB, List.getElem?_cons_zero, List.take_succ_cons, List.take_zero, keep_nil, keep_cons, and_true, true_and]; try omega)
    · exact ⟨rfl, rfl⟩
  · exfalso; simp at h2; omega

theorem specTri_out (H : List Blk) (n : Int) (h : ¬ (3 ≤ n ∧ n ≤ 11)) : ACalls Try.prog f_spec_TripleCover [I n] H (fun r H' => r = .tup [.agg [I 0, nilS], I 2] ∧ H' = H) := by
  refine ACalls.introB s_spec_TripleCover (by simp) ?_; intro hB hA; unfold c_spec_TripleCover; simp (config := { maxSteps := 1000000 }) (disch := (first | omega | (simp only [go_sem]; try omega))) only [go_sem, ↓GSplit_t, ↓GSplit_f, ↓GSplit_tf, ↓GSplit_ft, Nat.reduceAdd, Nat.reduceEqDiff, Nat.reduceLeDiff, Nat.reduceMul, Nat.reduceLT, reduceIte, Int.reduceToNat, bne_self_eq_false, beq_self_eq_true, w64_id, cast_succ, Bool.false_eq_true, Bool.and_true, Bool.true_and, Bool.and_false, Bool.false_and, Bool.not_not]
  repeat (first | (with_reducible refine SW.seq ?_) | (with_reducible refine SW.block ?_) | (with_reducible refine SW.rowC ?_) | (with_reducible refine SW.skip ?_) | (with_reducible refine SW.exit ?_) | (with_reducible refine PFn.use (l00In_fn _ _ _) ?_) | (with_reducible refine PFn.useq (l00In_fn _ _ _) ?_) | (with_reducible intro _) | (with_reducible refine And.intro (by omega) ?_) | (simp (config := { maxSteps := 1000000 }) (disch := (first | omega | (simp only [go_sem]; try omega))) only [go_sem, ↓GSplit_t, ↓GSplit_f, ↓GSplit_tf, ↓GSplit_ft, Nat.reduceAdd, Nat.reduceEqDiff, Nat.reduceLeDiff, Nat.reduceMul, Nat.reduceLT, reduceIte, Int.reduceToNat, bne_self_eq_false, beq_self_eq_true, w64_id, cast_succ, Bool.false_eq_true, Bool.and_true, Bool.true_and, Bool.and_false, Bool.false_and, Bool.not_not]))
  (first | refine SW.condD rfl (fun h2 => ?_) (fun h2 => ?_) | refine SW.condN rfl (fun h2 => ?_) (fun h2 => ?_) | refine SW.condNB rfl (fun h2 => ?_) (fun h2 => ?_) | refine SW.condB rfl (fun h2 => ?_) (fun h2 => ?_))
  · repeat (first | (with_reducible refine SW.seq ?_) | (with_reducible refine SW.block ?_) | (with_reducible refine SW.rowC ?_) | (with_reducible refine SW.skip ?_) | (with_reducible refine SW.exit ?_) | (with_reducible intro _) | (with_reducible refine And.intro (by omega) ?_) | (simp (config := { maxSteps := 1000000 }) (disch := (first | omega | (simp only [go_sem]; try omega))) only [go_sem, ↓GSplit_t, ↓GSplit_f, ↓GSplit_tf, ↓GSplit_ft, Nat.reduceAdd, Nat.reduceEqDiff, Nat.reduceLeDiff, Nat.reduceMul, Nat.reduceLT, reduceIte, Int.reduceToNat, bne_self_eq_false, beq_self_eq_true, w64_id, cast_succ, Bool.false_eq_true, Bool.and_true, Bool.true_and, Bool.and_false, Bool.false_and, Bool.not_not]))
    refine SW.ret ?_
    refine FunPost.cell_tmp (cs := [I 0, nilS]) (by simp (config := { maxSteps := 1000000 }) (disch := (first | omega | (simp only [go_sem]; try omega))) only [go_sem, ↓GSplit_t, ↓GSplit_f, ↓GSplit_tf, ↓GSplit_ft, Nat.reduceAdd, Nat.reduceEqDiff, Nat.reduceLeDiff, Nat.reduceMul, Nat.reduceLT, reduceIte, Int.reduceToNat, bne_self_eq_false, beq_self_eq_true, w64_id, cast_succ, Bool.false_eq_true, Bool.and_true, Bool.true_and, Bool.and_false, Bool.false_and, Bool.not_not]) (GR.drop (ext := [_]) ?_ ?_)
    · simp (config := { maxSteps := 1000000 }) (disch := (first | omega | (simp only [go_sem]; try omega))) only [go_sem, ↓GSplit_t, ↓GSplit_f, ↓GSplit_tf, ↓GSplit_ft, Nat.reduceAdd, Nat.reduceEqDiff, Nat.reduceLeDiff, Nat.reduceMul, Nat.reduceLT, reduceIte, Int.reduceToNat, bne_self_eq_false, beq_self_eq_true, w64_id, cast_succ, Bool.false_eq_true, Bool.and_true, Bool.true_and, Bool.and_false, Bool.false_and, Bool.not_not]
      (simp only [go_sem, Nat.reduceAdd, Nat.reduceEqDiff, reduceIte, and_self, and_true, true_and, implies_true, Bel_lit, Bel_I, Bel_Bv, Bel_nil, Bel_junk, Bel_nm, Bel_pc, Bel_il, Bel_agg, Bel_tup, Bel_fn, Bel_el, all_mapI, all_mapB, all_mapS, all_nilB, all_consB, EB_nil, EB_cons, BB_nil, BB_cons, Bel_ilS, Bel_ilSS, Bel_ilB, List.getElem?_cons_zero, List.take_succ_cons, List.take_zero, keep_nil, keep_cons, and_true, true_and]; try omega)
    · exact ⟨rfl, rfl⟩
  · exfalso; simp at h2; omega

theorem specTri_in (H : List Blk) (n : Nat) (h0 : 3 ≤ n ∧ n ≤ 11) : ACalls Try.prog f_spec_TripleCover [I n] H (fun r H' => r = .tup [.agg [I (w64 ((w64 (n * (n - 1) : Int)).tdiv 2)), ilSS (ta n n)], I 0] ∧ H' = H) := by
  refine ACalls.introB s_spec_TripleCover (by simp) ?_; intro hB hA; unfold c_spec_TripleCover; simp (config := { maxSteps := 1000000 }) (disch := (first | omega | (simp only [go_sem]; try omega))) only [go_sem, ↓GSplit_t, ↓GSplit_f, ↓GSplit_tf, ↓GSplit_ft, Nat.reduceAdd, Nat.reduceEqDiff, Nat.reduceLeDiff, Nat.reduceMul, Nat.reduceLT, reduceIte, Int.reduceToNat, bne_self_eq_false, beq_self_eq_true, w64_id, cast_succ, Bool.false_eq_true, Bool.and_true, Bool.true_and, Bool.and_false, Bool.false_and, Bool.not_not]
  repeat (first | (with_reducible refine SW.seq ?_) | (with_reducible refine SW.block ?_) | (with_reducible refine SW.rowC ?_) | (with_reducible refine SW.skip ?_) | (with_reducible refine SW.exit ?_) | (with_reducible refine PFn.use (l00In_fn _ _ _) ?_) | (with_reducible refine PFn.useq (l00In_fn _ _ _) ?_) | (with_reducible intro _) | (with_reducible refine And.intro (by omega) ?_) | (simp (config := { maxSteps := 1000000 }) (disch := (first | omega | (simp only [go_sem]; try omega))) only [go_sem, ↓GSplit_t, ↓GSplit_f, ↓GSplit_tf, ↓GSplit_ft, Nat.reduceAdd, Nat.reduceEqDiff, Nat.reduceLeDiff, Nat.reduceMul, Nat.reduceLT, reduceIte, Int.reduceToNat, bne_self_eq_false, beq_self_eq_true, w64_id, cast_succ, Bool.false_eq_true, Bool.and_true, Bool.true_and, Bool.and_false, Bool.false_and, Bool.not_not]))
  (first | refine SW.condD rfl (fun h2 => ?_) (fun h2 => ?_) | refine SW.condN rfl (fun h2 => ?_) (fun h2 => ?_) | refine SW.condNB rfl (fun h2 => ?_) (fun h2 => ?_) | refine SW.condB rfl (fun h2 => ?_) (fun h2 => ?_))
  · exfalso; simp at h2; omega
  repeat (first | (with_reducible refine SW.seq ?_) | (with_reducible refine SW.block ?_) | (with_reducible refine SW.rowC ?_) | (with_reducible refine SW.skip ?_) | (with_reducible refine SW.exit ?_) | (with_reducible intro _) | (with_reducible refine And.intro (by omega) ?_) | (simp (config := { maxSteps := 1000000 }) (disch := (first | omega | (simp only [go_sem]; try omega))) only [go_sem, ↓GSplit_t, ↓GSplit_f, ↓GSplit_tf, ↓GSplit_ft, Nat.reduceAdd, Nat.reduceEqDiff, Nat.reduceLeDiff, Nat.reduceMul, Nat.reduceLT, reduceIte, Int.reduceToNat, bne_self_eq_false, beq_self_eq_true, w64_id, cast_succ, Bool.false_eq_true, Bool.and_true, Bool.true_and, Bool.and_false, Bool.false_and, Bool.not_not]))
  refine ACalls.fn (l24Triples_ok _ n h0) ?_
  repeat (first | (with_reducible refine SW.seq ?_) | (with_reducible refine SW.block ?_) | (with_reducible refine SW.rowC ?_) | (with_reducible refine SW.skip ?_) | (with_reducible refine SW.exit ?_) | (with_reducible intro _) | (with_reducible refine And.intro (by omega) ?_) | (simp (config := { maxSteps := 1000000 }) (disch := (first | omega | (simp only [go_sem]; try omega))) only [go_sem, ↓GSplit_t, ↓GSplit_f, ↓GSplit_tf, ↓GSplit_ft, Nat.reduceAdd, Nat.reduceEqDiff, Nat.reduceLeDiff, Nat.reduceMul, Nat.reduceLT, reduceIte, Int.reduceToNat, bne_self_eq_false, beq_self_eq_true, w64_id, cast_succ, Bool.false_eq_true, Bool.and_true, Bool.true_and, Bool.and_false, Bool.false_and, Bool.not_not]))
  refine SW.ret ?_
  refine FunPost.cell_tmp (cs := [I (w64 ((w64 (n * (n - 1) : Int)).tdiv 2)), ilSS (ta n n)]) (by simp (config := { maxSteps := 1000000 }) (disch := (first | omega | (simp only [go_sem]; try omega))) only [go_sem, ↓GSplit_t, ↓GSplit_f, ↓GSplit_tf, ↓GSplit_ft, Nat.reduceAdd, Nat.reduceEqDiff, Nat.reduceLeDiff, Nat.reduceMul, Nat.reduceLT, reduceIte, Int.reduceToNat, bne_self_eq_false, beq_self_eq_true, w64_id, cast_succ, Bool.false_eq_true, Bool.and_true, Bool.true_and, Bool.and_false, Bool.false_and, Bool.not_not]) (GR.drop (ext := [_]) ?_ ?_)
  · simp (config := { maxSteps := 1000000 }) (disch := (first | omega | (simp only [go_sem]; try omega))) only [go_sem, ↓GSplit_t, ↓GSplit_f, ↓GSplit_tf, ↓GSplit_ft, Nat.reduceAdd, Nat.reduceEqDiff, Nat.reduceLeDiff, Nat.reduceMul, Nat.reduceLT, reduceIte, Int.reduceToNat, bne_self_eq_false, beq_self_eq_true, w64_id, cast_succ, Bool.false_eq_true, Bool.and_true, Bool.true_and, Bool.and_false, Bool.false_and, Bool.not_not]
    (simp only [go_sem, Nat.reduceAdd, Nat.reduceEqDiff, reduceIte, and_self, and_true, true_and, implies_true, Bel_lit, Bel_I, Bel_Bv, Bel_nil, Bel_junk, Bel_nm, Bel_pc, Bel_il, Bel_agg, Bel_tup, Bel_fn, Bel_el, all_mapI, all_mapB, all_mapS, all_nilB, all_consB, EB_nil, EB_cons, BB_nil, BB_cons, Bel_ilS, Bel_ilSS, Bel_ilB, List.getElem?_cons_zero, List.take_succ_cons, List.take_zero, keep_nil, keep_cons, and_true, true_and]; try omega)
  · exact ⟨rfl, rfl⟩

theorem implTriA (n : Int) : ∃ (items code : Int) (xss : List (List Int)), total xss ≤ 1000 ∧ (∀ H, ACalls Try.prog f_spec_TripleCover [I n] H (fun r H' => (∃ w, r = .tup [.agg [I items, w], I code] ∧ w.cell1 = true ∧ partsOf w = [w] ∧ ∀ H, RdSS H w xss) ∧ H' = H)) ∧
    ∀ H, ACalls Try.prog f_impl_TripleCover [I n] H (fun r H' => ∃ ext v, H' = H ++ ext ∧ r = .tup [.agg [I items, v], I code] ∧ OwnSS H' (Btw H.length H'.length) v xss) := by
  by_cases h : 3 ≤ n ∧ n ≤ 11
  · obtain ⟨k, rfl⟩ := Int.eq_ofNat_of_zero_le (show 0 ≤ n by omega)
    have hk : 3 ≤ k ∧ k ≤ 11 := by omega
    have hc := triChk_ok hk
    simp only [triChk, Bool.and_eq_true, decide_eq_true_eq, List.all_eq_true] at hc
    obtain ⟨⟨⟨⟨⟨c1, c2⟩, c3⟩, c4⟩, c5⟩, c6⟩ := hc
    refine ⟨w64 ((w64 (k * (k - 1) : Int)).tdiv 2), 0, _, c6, fun H => ?_, fun H => ?_⟩
    · refine (specTri_in H k hk).mono ?_
      rintro r H' ⟨rfl, rfl⟩
      exact ⟨⟨_, rfl, rfl, rfl, fun H => rd_ilSS H _⟩, rfl⟩
    · have := implTri_in H k (triL k) hk c3 ⟨_, rfl⟩ (chainB_ok _ _ c1) (fun t ht => by have := c2 t ht; exact ⟨this.1.1.1.1, this.1.1.1.2, this.1.1.2, this.1.2, this.2⟩)
      rw [c4, c5] at this
      exact this
  · refine ⟨0, 2, [], by simp [total], fun H => ?_, fun H => ?_⟩
    · refine (specTri_out H n h).mono ?_
      rintro r H' ⟨rfl, rfl⟩
      exact ⟨⟨_, rfl, rfl, rfl, fun H => ⟨[], rfl, rfl, fun j c xs h => by simp at h⟩⟩, rfl⟩
    · refine (implTri_out H n h).mono ?_
      rintro r H' ⟨rfl, rfl⟩
      exact ⟨[], nilS, by simp, rfl, .inr ⟨rfl, .inl rfl⟩⟩

theorem lawTri_ok (H : List Blk) (n : Int) : ACalls Try.prog f_laws_FnExactTripleCover [I n] H (fun r _ => r = Bv true) := by
  obtain ⟨items, code, xss, hsmall, hspec, himpl⟩ := implTriA n
  refine ACalls.intro s_laws_FnExactTripleCover (by simp) ?_
  refine SW.seq ?_; refine SW.row ?_; simp only [go_sem, Nat.reduceAdd, Nat.reduceEqDiff, Nat.reduceLeDiff, Nat.reduceMul, reduceIte, Nat.zero_ne_one, Nat.one_ne_zero, Nat.zero_add, Nat.add_zero, List.map_cons, List.map_nil, List.length_cons, List.length_nil, decide_true, decide_false, Bool.not_true, Bool.not_false, true_and, and_true, ne_eq, not_true_eq_false, not_false_eq_true, forall_const, List.getElem?_cons_zero, List.getElem?_cons_succ]
  refine SW.seq ?_; refine SW.row ?_; simp only [go_sem, Nat.reduceAdd, Nat.reduceEqDiff, Nat.reduceLeDiff, Nat.reduceMul, reduceIte, Nat.zero_ne_one, Nat.one_ne_zero, Nat.zero_add, Nat.add_zero, List.map_cons, List.map_nil, List.length_cons, List.length_nil, decide_true, decide_false, Bool.not_true, Bool.not_false, true_and, and_true, ne_eq, not_true_eq_false, not_false_eq_true, forall_const, List.getElem?_cons_zero, List.getElem?_cons_succ]
  refine (hspec _).mono ?_
  rintro r H' ⟨⟨w, rfl, w1, w2, w3⟩, rfl⟩
  simp only [go_sem, Nat.reduceAdd, Nat.reduceEqDiff, Nat.reduceLeDiff, Nat.reduceMul, reduceIte, Nat.zero_ne_one, Nat.one_ne_zero, Nat.zero_add, Nat.add_zero, List.map_cons, List.map_nil, List.length_cons, List.length_nil, decide_true, decide_false, Bool.not_true, Bool.not_false, true_and, and_true, ne_eq, not_true_eq_false, not_false_eq_true, forall_const, List.getElem?_cons_zero, List.getElem?_cons_succ, List.all_nil, List.all_cons, List.length_set, List.append_assoc, List.cons_append, List.nil_append, List.length_append, List.length_set, List.set_cons_zero, List.set_cons_succ, acell1_own, acell1_own0, alive_own, alive_own0, acells_own, acells_own0, astore_own, astore_own0, aview_own, aview_own0, PcL_some, PcV_some, PcG_some, PcS_some, NmV_some, setMany_nil, setMany_cons, partsOf_agg, cell1_nm, cell1_nil, cell1_il, cell1_Bv, cell1_pc, partsOf_nm, partsOf_il, partsOf_nil, partsOf_Bv, afill_nil, afill_cons, List.drop_zero, List.drop_succ_cons, List.take_succ_cons, List.take_zero, List.take_nil, and_self, Nat.le_refl, w1]
  refine SW.seq ?_; refine SW.row ?_; simp only [go_sem, Nat.reduceAdd, Nat.reduceEqDiff, Nat.reduceLeDiff, Nat.reduceMul, reduceIte, Nat.zero_ne_one, Nat.one_ne_zero, Nat.zero_add, Nat.add_zero, List.map_cons, List.map_nil, List.length_cons, List.length_nil, decide_true, decide_false, Bool.not_true, Bool.not_false, true_and, and_true, ne_eq, not_true_eq_false, not_false_eq_true, forall_const, List.getElem?_cons_zero, List.getElem?_cons_succ, List.all_nil, List.all_cons, List.length_set, List.append_assoc, List.cons_append, List.nil_append, List.length_append, List.length_set, List.set_cons_zero, List.set_cons_succ, acell1_own, acell1_own0, alive_own, alive_own0, acells_own, acells_own0, astore_own, astore_own0, aview_own, aview_own0, PcL_some, PcV_some, PcG_some, PcS_some, NmV_some, setMany_nil, setMany_cons, partsOf_agg, cell1_nm, cell1_nil, cell1_il, cell1_Bv, cell1_pc, partsOf_nm, partsOf_il, partsOf_nil, partsOf_Bv, afill_nil, afill_cons, List.drop_zero, List.drop_succ_cons, List.take_succ_cons, List.take_zero, List.take_nil, and_self, Nat.le_refl]
  refine (himpl _).mono ?_
  rintro r H1 ⟨ext, v, hH1, rfl, own⟩
  have pw := get_app (show (H' ++ [⟨0, tyCover, 1, [I items, w]⟩])[H'.length]? = some ⟨0, tyCover, 1, [I items, w]⟩ by simp) ext
  rw [← hH1] at pw
  simp only [go_sem, Nat.reduceAdd, Nat.reduceEqDiff, Nat.reduceLeDiff, Nat.reduceMul, reduceIte, Nat.zero_ne_one, Nat.one_ne_zero, Nat.zero_add, Nat.add_zero, List.map_cons, List.map_nil, List.length_cons, List.length_nil, decide_true, decide_false, Bool.not_true, Bool.not_false, true_and, and_true, ne_eq, not_true_eq_false, not_false_eq_true, forall_const, List.getElem?_cons_zero, List.getElem?_cons_succ, List.all_nil, List.all_cons, List.length_set, List.append_assoc, List.cons_append, List.nil_append, List.length_append, List.length_set, List.set_cons_zero, List.set_cons_succ, acell1_own, acell1_own0, alive_own, alive_own0, acells_own, acells_own0, astore_own, astore_own0, aview_own, aview_own0, PcL_some, PcV_some, PcG_some, PcS_some, NmV_some, setMany_nil, setMany_cons, partsOf_agg, cell1_nm, cell1_nil, cell1_il, cell1_Bv, cell1_pc, partsOf_nm, partsOf_il, partsOf_nil, partsOf_Bv, afill_nil, afill_cons, List.drop_zero, List.drop_succ_cons, List.take_succ_cons, List.take_zero, List.take_nil, and_self, Nat.le_refl, own.cell1]
  have pg : (H1 ++ [⟨0, tyCover, 1, [I items, v]⟩])[H1.length]? = some ⟨0, tyCover, 1, [I items, v]⟩ := by simp
  replace pw := get_app pw [⟨0, tyCover, 1, [I items, v]⟩]
  replace own := own.append [⟨0, tyCover, 1, [I items, v]⟩]
  have hlt : H'.length < H1.length := by rw [hH1]; simp
  clear hH1
  generalize hg : H1.length = g at *
  generalize hH2 : H1 ++ [⟨0, tyCover, 1, [I items, v]⟩] = H2 at *
  have hg2 := (List.getElem?_eq_some_iff.1 pg).1
  have hb : (H' ++ [(⟨0, 24, 1, [I items, w]⟩ : Blk)]).length = H'.length + 1 := by simp
  rw [hb] at own
  clear hH2 hg hb
  -- the first comparison
  refine SW.seq ?_; refine SW.seq ?_; refine SW.row ?_; simp only [go_sem, Nat.reduceAdd, Nat.reduceEqDiff, Nat.reduceLeDiff, Nat.reduceMul, reduceIte, Nat.zero_ne_one, Nat.one_ne_zero, Nat.zero_add, Nat.add_zero, List.map_cons, List.map_nil, List.length_cons, List.length_nil, decide_true, decide_false, Bool.not_true, Bool.not_false, true_and, and_true, ne_eq, not_true_eq_false, not_false_eq_true, forall_const, List.getElem?_cons_zero, List.getElem?_cons_succ, List.all_nil, List.all_cons, List.length_set, List.append_assoc, List.cons_append, List.nil_append, List.length_append, List.length_set, List.set_cons_zero, List.set_cons_succ, acell1_own, acell1_own0, alive_own, alive_own0, acells_own, acells_own0, astore_own, astore_own0, aview_own, aview_own0, PcL_some, PcV_some, PcG_some, PcS_some, NmV_some, setMany_nil, setMany_cons, partsOf_agg, cell1_nm, cell1_nil, cell1_il, cell1_Bv, cell1_pc, partsOf_nm, partsOf_il, partsOf_nil, partsOf_Bv, afill_nil, afill_cons, List.drop_zero, List.drop_succ_cons, List.take_succ_cons, List.take_zero, List.take_nil, and_self, Nat.le_refl, pc_lds pg, pc_lds pw]
  refine ACalls.fn (eqCover_ok _ items items v w xss xss own.cell1.1 w1 own.rd (w3 _)) ?_
  simp only [go_sem, Nat.reduceAdd, Nat.reduceEqDiff, Nat.reduceLeDiff, Nat.reduceMul, reduceIte, Nat.zero_ne_one, Nat.one_ne_zero, Nat.zero_add, Nat.add_zero, List.map_cons, List.map_nil, List.length_cons, List.length_nil, decide_true, decide_false, Bool.not_true, Bool.not_false, true_and, and_true, ne_eq, not_true_eq_false, not_false_eq_true, forall_const, List.getElem?_cons_zero, List.getElem?_cons_succ, Bool.and_self]
  refine SW.cond rfl (fun h => ?_) (fun h => ?_)
  · exact absurd h (by simp)
  clear h
  refine SW.skip ?_; simp only [go_sem, Nat.reduceAdd, Nat.reduceEqDiff, Nat.reduceLeDiff, Nat.reduceMul, reduceIte, Nat.zero_ne_one, Nat.one_ne_zero, Nat.zero_add, Nat.add_zero, List.map_cons, List.map_nil, List.length_cons, List.length_nil, decide_true, decide_false, Bool.not_true, Bool.not_false, true_and, and_true, ne_eq, not_true_eq_false, not_false_eq_true, forall_const, List.getElem?_cons_zero, List.getElem?_cons_succ]
  refine SW.seq ?_; refine SW.row ?_; simp only [go_sem, Nat.reduceAdd, Nat.reduceEqDiff, Nat.reduceLeDiff, Nat.reduceMul, reduceIte, Nat.zero_ne_one, Nat.one_ne_zero, Nat.zero_add, Nat.add_zero, List.map_cons, List.map_nil, List.length_cons, List.length_nil, decide_true, decide_false, Bool.not_true, Bool.not_false, true_and, and_true, ne_eq, not_true_eq_false, not_false_eq_true, forall_const, List.getElem?_cons_zero, List.getElem?_cons_succ]
  -- marked
  refine SW.seq ?_; refine SW.row ?_; simp only [go_sem, Nat.reduceAdd, Nat.reduceEqDiff, Nat.reduceLeDiff, Nat.reduceMul, reduceIte, Nat.zero_ne_one, Nat.one_ne_zero, Nat.zero_add, Nat.add_zero, List.map_cons, List.map_nil, List.length_cons, List.length_nil, decide_true, decide_false, Bool.not_true, Bool.not_false, true_and, and_true, ne_eq, not_true_eq_false, not_false_eq_true, forall_const, List.getElem?_cons_zero, List.getElem?_cons_succ, List.all_nil, List.all_cons, List.length_set, List.append_assoc, List.cons_append, List.nil_append, List.length_append, List.length_set, List.set_cons_zero, List.set_cons_succ, acell1_own, acell1_own0, alive_own, alive_own0, acells_own, acells_own0, astore_own, astore_own0, aview_own, aview_own0, PcL_some, PcV_some, PcG_some, PcS_some, NmV_some, setMany_nil, setMany_cons, partsOf_agg, cell1_nm, cell1_nil, cell1_il, cell1_Bv, cell1_pc, partsOf_nm, partsOf_il, partsOf_nil, partsOf_Bv, afill_nil, afill_cons, List.drop_zero, List.drop_succ_cons, List.take_succ_cons, List.take_zero, List.take_nil, and_self, Nat.le_refl, pc_lds pg]
  refine (markCover_ok _ _ items 1 v xss own.cell1.1 own (by omega) (by omega)).mono ?_
  rintro r H3 ⟨rfl, own3, g1, g2⟩
  simp only [go_sem, Nat.reduceAdd, Nat.reduceEqDiff, Nat.reduceLeDiff, Nat.reduceMul, reduceIte, Nat.zero_ne_one, Nat.one_ne_zero, Nat.zero_add, Nat.add_zero, List.map_cons, List.map_nil, List.length_cons, List.length_nil, decide_true, decide_false, Bool.not_true, Bool.not_false, true_and, and_true, ne_eq, not_true_eq_false, not_false_eq_true, forall_const, List.getElem?_cons_zero, List.getElem?_cons_succ]
  replace pw : H3[H'.length]? = _ := (g2 _ (by unfold Btw; omega) (by omega)).trans pw
  replace pg : H3[g]? = _ := (g2 _ (by unfold Btw; omega) (by omega)).trans pg
  have hg3 := (List.getElem?_eq_some_iff.1 pg).1
  clear own g1 g2 hg2
  refine SW.seq ?_; refine SW.row ?_; simp only [go_sem, Nat.reduceAdd, Nat.reduceEqDiff, Nat.reduceLeDiff, Nat.reduceMul, reduceIte, Nat.zero_ne_one, Nat.one_ne_zero, Nat.zero_add, Nat.add_zero, List.map_cons, List.map_nil, List.length_cons, List.length_nil, decide_true, decide_false, Bool.not_true, Bool.not_false, true_and, and_true, ne_eq, not_true_eq_false, not_false_eq_true, forall_const, List.getElem?_cons_zero, List.getElem?_cons_succ]
  -- held
  refine SW.seq ?_; refine SW.row ?_; simp only [go_sem, Nat.reduceAdd, Nat.reduceEqDiff, Nat.reduceLeDiff, Nat.reduceMul, reduceIte, Nat.zero_ne_one, Nat.one_ne_zero, Nat.zero_add, Nat.add_zero, List.map_cons, List.map_nil, List.length_cons, List.length_nil, decide_true, decide_false, Bool.not_true, Bool.not_false, true_and, and_true, ne_eq, not_true_eq_false, not_false_eq_true, forall_const, List.getElem?_cons_zero, List.getElem?_cons_succ, List.all_nil, List.all_cons, List.length_set, List.append_assoc, List.cons_append, List.nil_append, List.length_append, List.length_set, List.set_cons_zero, List.set_cons_succ, acell1_own, acell1_own0, alive_own, alive_own0, acells_own, acells_own0, astore_own, astore_own0, aview_own, aview_own0, PcL_some, PcV_some, PcG_some, PcS_some, NmV_some, setMany_nil, setMany_cons, partsOf_agg, cell1_nm, cell1_nil, cell1_il, cell1_Bv, cell1_pc, partsOf_nm, partsOf_il, partsOf_nil, partsOf_Bv, afill_nil, afill_cons, List.drop_zero, List.drop_succ_cons, List.take_succ_cons, List.take_zero, List.take_nil, and_self, Nat.le_refl, pc_lds pg]
  refine ACalls.fn (heldCover_ok _ items 1 v xss own3.cell1.1 own3.rd (by omega) (by omega)) ?_
  simp only [go_sem, Nat.reduceAdd, Nat.reduceEqDiff, Nat.reduceLeDiff, Nat.reduceMul, reduceIte, Nat.zero_ne_one, Nat.one_ne_zero, Nat.zero_add, Nat.add_zero, List.map_cons, List.map_nil, List.length_cons, List.length_nil, decide_true, decide_false, Bool.not_true, Bool.not_false, true_and, and_true, ne_eq, not_true_eq_false, not_false_eq_true, forall_const, List.getElem?_cons_zero, List.getElem?_cons_succ]
  refine SW.seq ?_; refine SW.seq ?_; refine SW.row ?_; simp only [go_sem, Nat.reduceAdd, Nat.reduceEqDiff, Nat.reduceLeDiff, Nat.reduceMul, reduceIte, Nat.zero_ne_one, Nat.one_ne_zero, Nat.zero_add, Nat.add_zero, List.map_cons, List.map_nil, List.length_cons, List.length_nil, decide_true, decide_false, Bool.not_true, Bool.not_false, true_and, and_true, ne_eq, not_true_eq_false, not_false_eq_true, forall_const, List.getElem?_cons_zero, List.getElem?_cons_succ]; (first | refine SW.cond rfl (fun h => ?_) (fun h => ?_) | (intro _; refine SW.cond rfl (fun h => ?_) (fun h => ?_)) | (intro _ _; refine SW.cond rfl (fun h => ?_) (fun h => ?_)))
  · exfalso
    have := of_decide_eq_true h
    omega
  clear h
  refine SW.skip ?_; simp only [go_sem, Nat.reduceAdd, Nat.reduceEqDiff, Nat.reduceLeDiff, Nat.reduceMul, reduceIte, Nat.zero_ne_one, Nat.one_ne_zero, Nat.zero_add, Nat.add_zero, List.map_cons, List.map_nil, List.length_cons, List.length_nil, decide_true, decide_false, Bool.not_true, Bool.not_false, true_and, and_true, ne_eq, not_true_eq_false, not_false_eq_true, forall_const, List.getElem?_cons_zero, List.getElem?_cons_succ]
  refine SW.seq ?_; refine SW.seq ?_; refine SW.row ?_; simp only [go_sem, Nat.reduceAdd, Nat.reduceEqDiff, Nat.reduceLeDiff, Nat.reduceMul, reduceIte, Nat.zero_ne_one, Nat.one_ne_zero, Nat.zero_add, Nat.add_zero, List.map_cons, List.map_nil, List.length_cons, List.length_nil, decide_true, decide_false, Bool.not_true, Bool.not_false, true_and, and_true, ne_eq, not_true_eq_false, not_false_eq_true, forall_const, List.getElem?_cons_zero, List.getElem?_cons_succ]; (first | refine SW.cond rfl (fun h => ?_) (fun h => ?_) | (intro _; refine SW.cond rfl (fun h => ?_) (fun h => ?_)) | (intro _ _; refine SW.cond rfl (fun h => ?_) (fun h => ?_)))
  · exact absurd h (by simp)
  clear h
  refine SW.skip ?_; simp only [go_sem, Nat.reduceAdd, Nat.reduceEqDiff, Nat.reduceLeDiff, Nat.reduceMul, reduceIte, Nat.zero_ne_one, Nat.one_ne_zero, Nat.zero_add, Nat.add_zero, List.map_cons, List.map_nil, List.length_cons, List.length_nil, decide_true, decide_false, Bool.not_true, Bool.not_false, true_and, and_true, ne_eq, not_true_eq_false, not_false_eq_true, forall_const, List.getElem?_cons_zero, List.getElem?_cons_succ]
  -- called again
  refine SW.seq ?_; refine SW.row ?_; simp only [go_sem, Nat.reduceAdd, Nat.reduceEqDiff, Nat.reduceLeDiff, Nat.reduceMul, reduceIte, Nat.zero_ne_one, Nat.one_ne_zero, Nat.zero_add, Nat.add_zero, List.map_cons, List.map_nil, List.length_cons, List.length_nil, decide_true, decide_false, Bool.not_true, Bool.not_false, true_and, and_true, ne_eq, not_true_eq_false, not_false_eq_true, forall_const, List.getElem?_cons_zero, List.getElem?_cons_succ, List.all_nil, List.all_cons, List.length_set, List.append_assoc, List.cons_append, List.nil_append, List.length_append, List.length_set, List.set_cons_zero, List.set_cons_succ, acell1_own, acell1_own0, alive_own, alive_own0, acells_own, acells_own0, astore_own, astore_own0, aview_own, aview_own0, PcL_some, PcV_some, PcG_some, PcS_some, NmV_some, setMany_nil, setMany_cons, partsOf_agg, cell1_nm, cell1_nil, cell1_il, cell1_Bv, cell1_pc, partsOf_nm, partsOf_il, partsOf_nil, partsOf_Bv, afill_nil, afill_cons, List.drop_zero, List.drop_succ_cons, List.take_succ_cons, List.take_zero, List.take_nil, and_self, Nat.le_refl]
  refine (himpl _).mono ?_
  rintro r H4 ⟨ext2, v', hH4, rfl, own4⟩
  simp only [go_sem, Nat.reduceAdd, Nat.reduceEqDiff, Nat.reduceLeDiff, Nat.reduceMul, reduceIte, Nat.zero_ne_one, Nat.one_ne_zero, Nat.zero_add, Nat.add_zero, List.map_cons, List.map_nil, List.length_cons, List.length_nil, decide_true, decide_false, Bool.not_true, Bool.not_false, true_and, and_true, ne_eq, not_true_eq_false, not_false_eq_true, forall_const, List.getElem?_cons_zero, List.getElem?_cons_succ, List.all_nil, List.all_cons, List.length_set, List.append_assoc, List.cons_append, List.nil_append, List.length_append, List.length_set, List.set_cons_zero, List.set_cons_succ, acell1_own, acell1_own0, alive_own, alive_own0, acells_own, acells_own0, astore_own, astore_own0, aview_own, aview_own0, PcL_some, PcV_some, PcG_some, PcS_some, NmV_some, setMany_nil, setMany_cons, partsOf_agg, cell1_nm, cell1_nil, cell1_il, cell1_Bv, cell1_pc, partsOf_nm, partsOf_il, partsOf_nil, partsOf_Bv, afill_nil, afill_cons, List.drop_zero, List.drop_succ_cons, List.take_succ_cons, List.take_zero, List.take_nil, and_self, Nat.le_refl, own4.cell1]
  replace pw := get_app pw ext2
  replace pg := get_app pg ext2
  replace own3 := own3.append ext2
  rw [← hH4] at pw pg own3
  have ph : (H4 ++ [⟨0, tyCover, 1, [I items, v']⟩])[H4.length]? = some ⟨0, tyCover, 1, [I items, v']⟩ := by simp
  replace pw := get_app pw [⟨0, tyCover, 1, [I items, v']⟩]
  replace pg := get_app pg [⟨0, tyCover, 1, [I items, v']⟩]
  replace own3 := own3.append [⟨0, tyCover, 1, [I items, v']⟩]
  replace own4 := own4.append [⟨0, tyCover, 1, [I items, v']⟩]
  generalize H4.length = q at *
  generalize H4 ++ [⟨0, tyCover, 1, [I items, v']⟩] = H5 at *
  refine SW.seq ?_; refine SW.seq ?_; refine SW.row ?_; simp only [go_sem, Nat.reduceAdd, Nat.reduceEqDiff, Nat.reduceLeDiff, Nat.reduceMul, reduceIte, Nat.zero_ne_one, Nat.one_ne_zero, Nat.zero_add, Nat.add_zero, List.map_cons, List.map_nil, List.length_cons, List.length_nil, decide_true, decide_false, Bool.not_true, Bool.not_false, true_and, and_true, ne_eq, not_true_eq_false, not_false_eq_true, forall_const, List.getElem?_cons_zero, List.getElem?_cons_succ, List.all_nil, List.all_cons, List.length_set, List.append_assoc, List.cons_append, List.nil_append, List.length_append, List.length_set, List.set_cons_zero, List.set_cons_succ, acell1_own, acell1_own0, alive_own, alive_own0, acells_own, acells_own0, astore_own, astore_own0, aview_own, aview_own0, PcL_some, PcV_some, PcG_some, PcS_some, NmV_some, setMany_nil, setMany_cons, partsOf_agg, cell1_nm, cell1_nil, cell1_il, cell1_Bv, cell1_pc, partsOf_nm, partsOf_il, partsOf_nil, partsOf_Bv, afill_nil, afill_cons, List.drop_zero, List.drop_succ_cons, List.take_succ_cons, List.take_zero, List.take_nil, and_self, Nat.le_refl, pc_lds ph, pc_lds pw]
  refine ACalls.fn (eqCover_ok _ items items v' w xss xss own4.cell1.1 w1 own4.rd (w3 _)) ?_
  simp only [go_sem, Nat.reduceAdd, Nat.reduceEqDiff, Nat.reduceLeDiff, Nat.reduceMul, reduceIte, Nat.zero_ne_one, Nat.one_ne_zero, Nat.zero_add, Nat.add_zero, List.map_cons, List.map_nil, List.length_cons, List.length_nil, decide_true, decide_false, Bool.not_true, Bool.not_false, true_and, and_true, ne_eq, not_true_eq_false, not_false_eq_true, forall_const, List.getElem?_cons_zero, List.getElem?_cons_succ, Bool.and_self]
  refine SW.cond rfl (fun h => ?_) (fun h => ?_)
  · exact absurd h (by simp)
  clear h
  refine SW.skip ?_; simp only [go_sem, Nat.reduceAdd, Nat.reduceEqDiff, Nat.reduceLeDiff, Nat.reduceMul, reduceIte, Nat.zero_ne_one, Nat.one_ne_zero, Nat.zero_add, Nat.add_zero, List.map_cons, List.map_nil, List.length_cons, List.length_nil, decide_true, decide_false, Bool.not_true, Bool.not_false, true_and, and_true, ne_eq, not_true_eq_false, not_false_eq_true, forall_const, List.getElem?_cons_zero, List.getElem?_cons_succ]
  refine SW.seq ?_; refine SW.row ?_; simp only [go_sem, Nat.reduceAdd, Nat.reduceEqDiff, Nat.reduceLeDiff, Nat.reduceMul, reduceIte, Nat.zero_ne_one, Nat.one_ne_zero, Nat.zero_add, Nat.add_zero, List.map_cons, List.map_nil, List.length_cons, List.length_nil, decide_true, decide_false, Bool.not_true, Bool.not_false, true_and, and_true, ne_eq, not_true_eq_false, not_false_eq_true, forall_const, List.getElem?_cons_zero, List.getElem?_cons_succ]
  refine SW.seq ?_; refine SW.row ?_; simp only [go_sem, Nat.reduceAdd, Nat.reduceEqDiff, Nat.reduceLeDiff, Nat.reduceMul, reduceIte, Nat.zero_ne_one, Nat.one_ne_zero, Nat.zero_add, Nat.add_zero, List.map_cons, List.map_nil, List.length_cons, List.length_nil, decide_true, decide_false, Bool.not_true, Bool.not_false, true_and, and_true, ne_eq, not_true_eq_false, not_false_eq_true, forall_const, List.getElem?_cons_zero, List.getElem?_cons_succ, List.all_nil, List.all_cons, List.length_set, List.append_assoc, List.cons_append, List.nil_append, List.length_append, List.length_set, List.set_cons_zero, List.set_cons_succ, acell1_own, acell1_own0, alive_own, alive_own0, acells_own, acells_own0, astore_own, astore_own0, aview_own, aview_own0, PcL_some, PcV_some, PcG_some, PcS_some, NmV_some, setMany_nil, setMany_cons, partsOf_agg, cell1_nm, cell1_nil, cell1_il, cell1_Bv, cell1_pc, partsOf_nm, partsOf_il, partsOf_nil, partsOf_Bv, afill_nil, afill_cons, List.drop_zero, List.drop_succ_cons, List.take_succ_cons, List.take_zero, List.take_nil, and_self, Nat.le_refl, pc_lds pg]
  refine ACalls.fn (heldCover_ok _ items 1 v xss own3.cell1.1 own3.rd (by omega) (by omega)) ?_
  simp only [go_sem, Nat.reduceAdd, Nat.reduceEqDiff, Nat.reduceLeDiff, Nat.reduceMul, reduceIte, Nat.zero_ne_one, Nat.one_ne_zero, Nat.zero_add, Nat.add_zero, List.map_cons, List.map_nil, List.length_cons, List.length_nil, decide_true, decide_false, Bool.not_true, Bool.not_false, true_and, and_true, ne_eq, not_true_eq_false, not_false_eq_true, forall_const, List.getElem?_cons_zero, List.getElem?_cons_succ]
  refine SW.seq ?_; refine SW.seq ?_; refine SW.row ?_; simp only [go_sem, Nat.reduceAdd, Nat.reduceEqDiff, Nat.reduceLeDiff, Nat.reduceMul, reduceIte, Nat.zero_ne_one, Nat.one_ne_zero, Nat.zero_add, Nat.add_zero, List.map_cons, List.map_nil, List.length_cons, List.length_nil, decide_true, decide_false, Bool.not_true, Bool.not_false, true_and, and_true, ne_eq, not_true_eq_false, not_false_eq_true, forall_const, List.getElem?_cons_zero, List.getElem?_cons_succ]; (first | refine SW.cond rfl (fun h => ?_) (fun h => ?_) | (intro _; refine SW.cond rfl (fun h => ?_) (fun h => ?_)) | (intro _ _; refine SW.cond rfl (fun h => ?_) (fun h => ?_)))
  · exfalso
    have := of_decide_eq_true h
    omega
  clear h
  refine SW.skip ?_; simp only [go_sem, Nat.reduceAdd, Nat.reduceEqDiff, Nat.reduceLeDiff, Nat.reduceMul, reduceIte, Nat.zero_ne_one, Nat.one_ne_zero, Nat.zero_add, Nat.add_zero, List.map_cons, List.map_nil, List.length_cons, List.length_nil, decide_true, decide_false, Bool.not_true, Bool.not_false, true_and, and_true, ne_eq, not_true_eq_false, not_false_eq_true, forall_const, List.getElem?_cons_zero, List.getElem?_cons_succ]
  refine SW.seq ?_; refine SW.seq ?_; refine SW.row ?_; simp only [go_sem, Nat.reduceAdd, Nat.reduceEqDiff, Nat.reduceLeDiff, Nat.reduceMul, reduceIte, Nat.zero_ne_one, Nat.one_ne_zero, Nat.zero_add, Nat.add_zero, List.map_cons, List.map_nil, List.length_cons, List.length_nil, decide_true, decide_false, Bool.not_true, Bool.not_false, true_and, and_true, ne_eq, not_true_eq_false, not_false_eq_true, forall_const, List.getElem?_cons_zero, List.getElem?_cons_succ]; (first | refine SW.cond rfl (fun h => ?_) (fun h => ?_) | (intro _; refine SW.cond rfl (fun h => ?_) (fun h => ?_)) | (intro _ _; refine SW.cond rfl (fun h => ?_) (fun h => ?_)))
  · exact absurd h (by simp)
  clear h
  refine SW.skip ?_; simp only [go_sem, Nat.reduceAdd, Nat.reduceEqDiff, Nat.reduceLeDiff, Nat.reduceMul, reduceIte, Nat.zero_ne_one, Nat.one_ne_zero, Nat.zero_add, Nat.add_zero, List.map_cons, List.map_nil, List.length_cons, List.length_nil, decide_true, decide_false, Bool.not_true, Bool.not_false, true_and, and_true, ne_eq, not_true_eq_false, not_false_eq_true, forall_const, List.getElem?_cons_zero, List.getElem?_cons_succ]
  refine SW.seq ?_; refine SW.row ?_; simp only [go_sem, Nat.reduceAdd, Nat.reduceEqDiff, Nat.reduceLeDiff, Nat.reduceMul, reduceIte, Nat.zero_ne_one, Nat.one_ne_zero, Nat.zero_add, Nat.add_zero, List.map_cons, List.map_nil, List.length_cons, List.length_nil, decide_true, decide_false, Bool.not_true, Bool.not_false, true_and, and_true, ne_eq, not_true_eq_false, not_false_eq_true, forall_const, List.getElem?_cons_zero, List.getElem?_cons_succ]
  refine SW.ret ?_; (try simp only [go_sem]); refine FunPost.one (GR.of ?_); (try simp only [go_sem, Nat.reduceAdd, Nat.reduceEqDiff, Nat.reduceLeDiff, Nat.reduceMul, reduceIte, Nat.zero_ne_one, Nat.one_ne_zero, Nat.zero_add, Nat.add_zero, List.map_cons, List.map_nil, List.length_cons, List.length_nil, decide_true, decide_false, Bool.not_true, Bool.not_false, true_and, and_true, ne_eq, not_true_eq_false, not_false_eq_true, forall_const, List.getElem?_cons_zero, List.getElem?_cons_succ])
end Go.Proofs.Ytmgbglekgigkmaa
