/- Generated packings and their labelings: the law. -/
import Derived.Test.YthogadbnddmkdaaGreatProg
import Derived.KernelRfl
import Derived.Test.YthogadbnddmkdaaGreatzSE
import Derived.Test.YthogadbnddmkdaaGreatzSP
import Derived.Test.YthogadbnddmkdaaGreatzSN
import Derived.Test.YthogadbnddmkdaaGreatzSH
import Derived.Test.YthogadbnddmkdaaGreatzZ6
set_option linter.unusedSimpArgs false
set_option linter.unusedVariables false
set_option maxHeartbeats 4000000
set_option maxRecDepth 100000
namespace Go.Proofs.YthogadbnddmkdaaGreat
open Go.Av
abbrev f_laws_FnGenerated : Nat := 3
def c_laws_FnGenerated : SC :=
 .seq (.reg [
     ⟨(some 4), .mv (.const (.bool false)), none⟩] [0, 1])
 (.seq (.seq (.reg [
     ⟨(some 25), .mv (.tmp 0), none⟩,
     ⟨(some 26), .call 7 [(.tmp 25)], none⟩,
     ⟨(some 27), .mv (.tmp 26), none⟩,
     ⟨(some 28), .mv (.tmp 1), (some (27, false))⟩,
     ⟨(some 29), .call 7 [(.tmp 28)], (some (27, false))⟩,
     ⟨(some 30), .pick (.tmp 27) (.const (.bool true)) (.tmp 29), none⟩] [0, 30])
 (.cond (.tmp 30)
  (.seq (.reg [
      ⟨(some 4), .mv (.const (.bool true)), none⟩] [4])
  (.ret))
  (.skip)))
 (.seq (.reg [
     ⟨(some 32), .mv (.tmp 0), none⟩,
     ⟨(some 33), .call 8 [(.tmp 32)], none⟩,
     ⟨(some 31), .mv (.tmp 33), none⟩,
     ⟨(some 34), .ext (.tmp 31) 0, none⟩,
     ⟨(some 35), .ext (.tmp 31) 1, none⟩,
     ⟨(some 36), .ext (.tmp 31) 2, none⟩,
     ⟨(some 37), .ext (.tmp 31) 3, none⟩,
     ⟨(some 38), .ext (.tmp 31) 4, none⟩,
     ⟨(some 5), .mv (.tmp 34), none⟩,
     ⟨(some 6), .mv (.tmp 35), none⟩,
     ⟨(some 7), .mv (.tmp 36), none⟩,
     ⟨(some 8), .mv (.tmp 37), none⟩,
     ⟨(some 9), .mv (.tmp 38), none⟩] [5, 6, 7, 8, 9])
 (.seq (.reg [
     ⟨(some 40), .mv (.tmp 5), none⟩,
     ⟨(some 41), .mv (.tmp 6), none⟩,
     ⟨(some 42), .mv (.tmp 7), none⟩,
     ⟨(some 43), .mv (.tmp 8), none⟩,
     ⟨(some 44), .call 9 [(.tmp 40), (.tmp 41), (.tmp 42), (.tmp 43)], none⟩,
     ⟨(some 39), .mv (.tmp 44), none⟩,
     ⟨(some 45), .ext (.tmp 39) 0, none⟩,
     ⟨(some 46), .ext (.tmp 39) 1, none⟩,
     ⟨(some 10), .mv (.tmp 45), none⟩,
     ⟨(some 11), .mv (.tmp 46), none⟩] [5, 6, 7, 8, 9, 10, 11])
 (.seq (.reg [
     ⟨(some 48), .mv (.tmp 5), none⟩,
     ⟨(some 49), .mv (.tmp 6), none⟩,
     ⟨(some 50), .mv (.tmp 7), none⟩,
     ⟨(some 51), .mv (.tmp 8), none⟩,
     ⟨(some 52), .mv (.tmp 9), none⟩,
     ⟨(some 53), .call 10 [(.tmp 48), (.tmp 49), (.tmp 50), (.tmp 51), (.tmp 52)], none⟩,
     ⟨(some 47), .mv (.tmp 53), none⟩,
     ⟨(some 54), .ext (.tmp 47) 0, none⟩,
     ⟨(some 55), .ext (.tmp 47) 1, none⟩,
     ⟨(some 12), .mv (.tmp 54), none⟩,
     ⟨(some 13), .mv (.tmp 55), none⟩] [5, 6, 7, 8, 10, 11, 12, 13])
 (.seq (.seq (.reg [
     ⟨(some 56), .mv (.tmp 11), none⟩,
     ⟨(some 57), .bin .neq (.tmp 56) (.const (.int .i64 0)), none⟩] [5, 6, 7, 8, 10, 12, 13, 57])
 (.cond (.tmp 57)
  (.seq (.reg [
      ⟨(some 58), .mv (.tmp 10), none⟩,
      ⟨(some 59), .len (.tmp 58), none⟩,
      ⟨(some 60), .bin .eql (.tmp 59) (.const (.int .i64 0)), none⟩,
      ⟨(some 61), .mv (.tmp 60), none⟩,
      ⟨(some 62), .mv (.tmp 13), (some (61, true))⟩,
      ⟨(some 63), .bin .eql (.tmp 62) (.const (.int .i64 2)), (some (61, true))⟩,
      ⟨(some 64), .pick (.tmp 61) (.tmp 63) (.const (.bool false)), none⟩,
      ⟨(some 4), .mv (.tmp 64), none⟩] [4])
  (.ret))
  (.skip)))
 (.seq (.reg [
     ⟨(some 66), .mv (.tmp 5), none⟩,
     ⟨(some 67), .mv (.tmp 6), none⟩,
     ⟨(some 68), .mv (.tmp 7), none⟩,
     ⟨(some 69), .mv (.tmp 8), none⟩,
     ⟨(some 70), .call 11 [(.tmp 66), (.tmp 67), (.tmp 68), (.tmp 69)], none⟩,
     ⟨(some 65), .mv (.tmp 70), none⟩,
     ⟨(some 71), .ext (.tmp 65) 0, none⟩,
     ⟨(some 72), .ext (.tmp 65) 1, none⟩,
     ⟨(some 14), .mv (.tmp 71), none⟩,
     ⟨(some 15), .mv (.tmp 72), none⟩] [5, 7, 10, 12, 13, 14, 15])
 (.seq (.seq (.reg [
     ⟨(some 73), .mv (.tmp 15), none⟩,
     ⟨(some 74), .bin .eql (.tmp 73) (.const (.int .i64 0)), none⟩,
     ⟨(some 75), .mv (.tmp 74), none⟩,
     ⟨(some 76), .mv (.tmp 14), (some (75, true))⟩,
     ⟨(some 77), .len (.tmp 76), (some (75, true))⟩,
     ⟨(some 78), .mv (.tmp 10), (some (75, true))⟩,
     ⟨(some 79), .len (.tmp 78), (some (75, true))⟩,
     ⟨(some 80), .bin .neq (.tmp 77) (.tmp 79), (some (75, true))⟩,
     ⟨(some 81), .pick (.tmp 75) (.tmp 80) (.const (.bool false)), none⟩] [5, 7, 10, 12, 13, 81])
 (.cond (.tmp 81)
  (.seq (.reg [
      ⟨(some 4), .mv (.const (.bool false)), none⟩] [4])
  (.ret))
  (.skip)))
 (.seq (.reg [
     ⟨(some 16), .mv (.const (.int .i64 1)), none⟩] [5, 7, 10, 12, 13, 16])
 (.seq (.seq (.reg [
     ⟨(some 17), .mv (.const (.int .i64 2)), none⟩] [5, 7, 10, 12, 13, 16, 17])
 (.block 0 (.loop [5, 7, 10, 12, 13, 16, 17]
   (.seq (.seq (.reg [
       ⟨(some 82), .mv (.tmp 17), none⟩,
       ⟨(some 83), .mv (.tmp 5), none⟩,
       ⟨(some 84), .bin .leq (.tmp 82) (.tmp 83), none⟩] [5, 7, 10, 12, 13, 16, 17, 84])
   (.cond (.tmp 84)
    (.skip)
    (.exit 0)))
   (.seq (.block 1 (.reg [
        ⟨(some 87), .mv (.tmp 16), none⟩,
        ⟨(some 88), .mv (.tmp 17), none⟩,
        ⟨(some 89), .bin .mul (.tmp 87) (.tmp 88), none⟩,
        ⟨(some 16), .mv (.tmp 89), none⟩] [5, 7, 10, 12, 13, 16, 17]))
   (.reg [
       ⟨(some 85), .mv (.tmp 17), none⟩,
       ⟨(some 86), .bin .add (.tmp 85) (.const (.int .i64 1)), none⟩,
       ⟨(some 17), .mv (.tmp 86), none⟩] [5, 7, 10, 12, 13, 16, 17]))))))
 (.seq (.reg [
     ⟨(some 18), .mv (.const (.int .i64 0)), none⟩] [5, 7, 10, 12, 13, 16, 18])
 (.seq (.seq (.reg [
     ⟨(some 19), .mv (.const (.int .i64 0)), none⟩] [5, 7, 10, 12, 13, 16, 18, 19])
 (.block 2 (.loop [5, 7, 10, 12, 13, 16, 18, 19]
   (.seq (.seq (.reg [
       ⟨(some 90), .mv (.tmp 19), none⟩,
       ⟨(some 91), .mv (.tmp 10), none⟩,
       ⟨(some 92), .len (.tmp 91), none⟩,
       ⟨(some 93), .bin .lss (.tmp 90) (.tmp 92), none⟩] [5, 7, 10, 12, 13, 16, 18, 19, 93])
   (.cond (.tmp 93)
    (.skip)
    (.exit 2)))
   (.seq (.block 3 (.seq (.reg [
        ⟨(some 97), .mv (.tmp 5), none⟩,
        ⟨(some 98), .mv (.tmp 10), none⟩,
        ⟨(some 99), .mv (.tmp 19), none⟩,
        ⟨(some 100), .iaddr 1 (.tmp 98) (.tmp 99), none⟩,
        ⟨(some 101), .load 1 false (.tmp 100), none⟩,
        ⟨(some 102), .call 12 [(.tmp 97), (.tmp 101)], none⟩,
        ⟨(some 96), .mv (.tmp 102), none⟩,
        ⟨(some 103), .ext (.tmp 96) 0, none⟩,
        ⟨(some 104), .ext (.tmp 96) 1, none⟩,
        ⟨(some 20), .mv (.tmp 103), none⟩,
        ⟨(some 21), .mv (.tmp 104), none⟩] [5, 7, 10, 12, 13, 16, 18, 19, 20, 21])
    (.seq (.reg [
        ⟨(some 106), .mv (.tmp 5), none⟩,
        ⟨(some 107), .mv (.tmp 10), none⟩,
        ⟨(some 108), .mv (.tmp 19), none⟩,
        ⟨(some 109), .iaddr 1 (.tmp 107) (.tmp 108), none⟩,
        ⟨(some 110), .load 1 false (.tmp 109), none⟩,
        ⟨(some 111), .call 13 [(.tmp 106), (.tmp 110)], none⟩,
        ⟨(some 105), .mv (.tmp 111), none⟩,
        ⟨(some 112), .ext (.tmp 105) 0, none⟩,
        ⟨(some 113), .ext (.tmp 105) 1, none⟩,
        ⟨(some 22), .mv (.tmp 112), none⟩,
        ⟨(some 23), .mv (.tmp 113), none⟩] [5, 7, 10, 12, 13, 16, 18, 19, 20, 21, 22, 23])
    (.seq (.seq (.reg [
        ⟨(some 114), .mv (.tmp 21), none⟩,
        ⟨(some 115), .bin .neq (.tmp 114) (.const (.int .i64 0)), none⟩,
        ⟨(some 116), .mv (.tmp 115), none⟩,
        ⟨(some 117), .mv (.tmp 23), (some (116, false))⟩,
        ⟨(some 118), .bin .neq (.tmp 117) (.const (.int .i64 0)), (some (116, false))⟩,
        ⟨(some 119), .pick (.tmp 116) (.const (.bool true)) (.tmp 118), none⟩,
        ⟨(some 120), .mv (.tmp 119), none⟩,
        ⟨(some 121), .mv (.tmp 10), (some (120, false))⟩,
        ⟨(some 122), .mv (.tmp 19), (some (120, false))⟩,
        ⟨(some 123), .iaddr 1 (.tmp 121) (.tmp 122), (some (120, false))⟩,
        ⟨(some 124), .load 1 false (.tmp 123), (some (120, false))⟩,
        ⟨(some 125), .len (.tmp 124), (some (120, false))⟩,
        ⟨(some 126), .mv (.tmp 7), (some (120, false))⟩,
        ⟨(some 127), .bin .neq (.tmp 125) (.tmp 126), (some (120, false))⟩,
        ⟨(some 128), .pick (.tmp 120) (.const (.bool true)) (.tmp 127), none⟩,
        ⟨(some 129), .mv (.tmp 128), none⟩,
        ⟨(some 130), .mv (.tmp 20), (some (129, false))⟩,
        ⟨(some 131), .mv (.tmp 10), (some (129, false))⟩,
        ⟨(some 132), .mv (.tmp 19), (some (129, false))⟩,
        ⟨(some 133), .iaddr 1 (.tmp 131) (.tmp 132), (some (129, false))⟩,
        ⟨(some 134), .load 1 false (.tmp 133), (some (129, false))⟩,
        ⟨(some 135), .call 14 [(.tmp 130), (.tmp 134)], (some (129, false))⟩,
        ⟨(some 136), .un .not (.tmp 135), (some (129, false))⟩,
        ⟨(some 137), .pick (.tmp 129) (.const (.bool true)) (.tmp 136), none⟩,
        ⟨(some 138), .mv (.tmp 137), none⟩,
        ⟨(some 139), .mv (.tmp 22), (some (138, false))⟩,
        ⟨(some 140), .bin .lss (.tmp 139) (.const (.int .i64 1)), (some (138, false))⟩,
        ⟨(some 141), .pick (.tmp 138) (.const (.bool true)) (.tmp 140), none⟩,
        ⟨(some 142), .mv (.tmp 141), none⟩,
        ⟨(some 143), .mv (.tmp 16), (some (142, false))⟩,
        ⟨(some 144), .mv (.tmp 22), (some (142, false))⟩,
        ⟨(some 145), .bin .rem (.tmp 143) (.tmp 144), (some (142, false))⟩,
        ⟨(some 146), .bin .neq (.tmp 145) (.const (.int .i64 0)), (some (142, false))⟩,
        ⟨(some 147), .pick (.tmp 142) (.const (.bool true)) (.tmp 146), none⟩] [5, 7, 10, 12, 13, 16, 18, 19, 22, 147])
    (.cond (.tmp 147)
     (.seq (.reg [
         ⟨(some 4), .mv (.const (.bool false)), none⟩] [4])
     (.ret))
     (.skip)))
    (.seq (.seq (.reg [
        ⟨(some 24), .mv (.const (.int .i64 0)), none⟩] [5, 7, 10, 12, 13, 16, 18, 19, 22, 24])
    (.block 4 (.loop [5, 7, 10, 12, 13, 16, 18, 19, 22, 24]
      (.seq (.seq (.reg [
          ⟨(some 148), .mv (.tmp 24), none⟩,
          ⟨(some 149), .mv (.tmp 19), none⟩,
          ⟨(some 150), .bin .lss (.tmp 148) (.tmp 149), none⟩] [5, 7, 10, 12, 13, 16, 18, 19, 22, 24, 150])
      (.cond (.tmp 150)
       (.skip)
       (.exit 4)))
      (.seq (.block 5 (.seq (.reg [
           ⟨(some 153), .mv (.tmp 10), none⟩,
           ⟨(some 154), .mv (.tmp 19), none⟩,
           ⟨(some 155), .iaddr 1 (.tmp 153) (.tmp 154), none⟩,
           ⟨(some 156), .load 1 false (.tmp 155), none⟩,
           ⟨(some 157), .mv (.tmp 10), none⟩,
           ⟨(some 158), .mv (.tmp 24), none⟩,
           ⟨(some 159), .iaddr 1 (.tmp 157) (.tmp 158), none⟩,
           ⟨(some 160), .load 1 false (.tmp 159), none⟩,
           ⟨(some 161), .qcall 14 [(.tmp 156), (.tmp 160)], none⟩] [5, 7, 10, 12, 13, 16, 18, 19, 22, 24, 161])
       (.cond (.tmp 161)
        (.seq (.reg [
            ⟨(some 4), .mv (.const (.bool false)), none⟩] [4])
        (.ret))
        (.skip))))
      (.reg [
          ⟨(some 151), .mv (.tmp 24), none⟩,
          ⟨(some 152), .bin .add (.tmp 151) (.const (.int .i64 1)), none⟩,
          ⟨(some 24), .mv (.tmp 152), none⟩] [5, 7, 10, 12, 13, 16, 18, 19, 22, 24]))))))
    (.reg [
        ⟨(some 162), .mv (.tmp 18), none⟩,
        ⟨(some 163), .mv (.tmp 16), none⟩,
        ⟨(some 164), .mv (.tmp 22), none⟩,
        ⟨(some 165), .bin .quo (.tmp 163) (.tmp 164), none⟩,
        ⟨(some 166), .bin .add (.tmp 162) (.tmp 165), none⟩,
        ⟨(some 18), .mv (.tmp 166), none⟩] [5, 7, 10, 12, 13, 16, 18, 19]))))))
   (.reg [
       ⟨(some 94), .mv (.tmp 19), none⟩,
       ⟨(some 95), .bin .add (.tmp 94) (.const (.int .i64 1)), none⟩,
       ⟨(some 19), .mv (.tmp 95), none⟩] [5, 7, 10, 12, 13, 16, 18, 19]))))))
 (.seq (.reg [
     ⟨(some 167), .mv (.tmp 13), none⟩,
     ⟨(some 168), .bin .neq (.tmp 167) (.const (.int .i64 0)), none⟩,
     ⟨(some 169), .mv (.tmp 168), none⟩,
     ⟨(some 170), .mv (.tmp 12), (some (169, false))⟩,
     ⟨(some 171), .mv (.tmp 18), (some (169, false))⟩,
     ⟨(some 172), .bin .eql (.tmp 170) (.tmp 171), (some (169, false))⟩,
     ⟨(some 173), .pick (.tmp 169) (.const (.bool true)) (.tmp 172), none⟩,
     ⟨(some 4), .mv (.tmp 173), none⟩] [4])
 (.ret)))))))))))))
theorem s_laws_FnGenerated : stripF Tryz.prog 3 [[0, 1], [0, 30], [4], [5, 6, 7, 8, 9], [5, 6, 7, 8, 9, 10, 11], [5, 6, 7, 8, 10, 11, 12, 13], [5, 6, 7, 8, 10, 12, 13, 57], [4], [5, 7, 10, 12, 13, 14, 15], [5, 7, 10, 12, 13, 81], [4], [5, 7, 10, 12, 13, 16], [5, 7, 10, 12, 13, 16, 17], [5, 7, 10, 12, 13, 16, 17], [5, 7, 10, 12, 13, 16, 17, 84], [5, 7, 10, 12, 13, 16, 17], [5, 7, 10, 12, 13, 16, 17], [5, 7, 10, 12, 13, 16, 18], [5, 7, 10, 12, 13, 16, 18, 19], [5, 7, 10, 12, 13, 16, 18, 19], [5, 7, 10, 12, 13, 16, 18, 19, 93], [5, 7, 10, 12, 13, 16, 18, 19, 20, 21], [5, 7, 10, 12, 13, 16, 18, 19, 20, 21, 22, 23], [5, 7, 10, 12, 13, 16, 18, 19, 22, 147], [4], [5, 7, 10, 12, 13, 16, 18, 19, 22, 24], [5, 7, 10, 12, 13, 16, 18, 19, 22, 24], [5, 7, 10, 12, 13, 16, 18, 19, 22, 24, 150], [5, 7, 10, 12, 13, 16, 18, 19, 22, 24, 161], [4], [5, 7, 10, 12, 13, 16, 18, 19, 22, 24], [5, 7, 10, 12, 13, 16, 18, 19], [5, 7, 10, 12, 13, 16, 18, 19], [4]] = some (c_laws_FnGenerated, [.tmp 4], 174) := by kernel_rfl
abbrev f_spec_DrawCountLabeled : Nat := 8
def c_spec_DrawCountLabeled : SC :=
 .seq (.reg [
     ⟨(some 2), .mv (.const (.int .i64 0)), none⟩,
     ⟨(some 3), .mv (.const (.int .i64 0)), none⟩,
     ⟨(some 4), .mv (.const (.int .i64 0)), none⟩,
     ⟨(some 5), .mv (.const (.int .i64 0)), none⟩,
     ⟨(some 6), .mv (.const (.int .i64 0)), none⟩] [0])
 (.seq (.reg [
     ⟨(some 12), .mv (.tmp 0), none⟩,
     ⟨(some 13), .call 32 [(.tmp 12)], none⟩,
     ⟨(some 7), .mv (.tmp 13), none⟩] [7])
 (.seq (.reg [
     ⟨(some 15), .mv (.tmp 7), none⟩,
     ⟨(some 16), .call 33 [(.tmp 15)], none⟩,
     ⟨(some 14), .mv (.tmp 16), none⟩,
     ⟨(some 17), .ext (.tmp 14) 0, none⟩,
     ⟨(some 18), .ext (.tmp 14) 1, none⟩,
     ⟨(some 19), .ext (.tmp 14) 2, none⟩,
     ⟨(some 20), .ext (.tmp 14) 3, none⟩,
     ⟨(some 8), .mv (.tmp 17), none⟩,
     ⟨(some 9), .mv (.tmp 18), none⟩,
     ⟨(some 10), .mv (.tmp 19), none⟩,
     ⟨(some 11), .mv (.tmp 20), none⟩] [7, 8, 9, 10, 11])
 (.seq (.reg [
     ⟨(some 21), .mv (.tmp 8), none⟩,
     ⟨(some 22), .mv (.tmp 9), none⟩,
     ⟨(some 23), .mv (.tmp 10), none⟩,
     ⟨(some 24), .mv (.tmp 11), none⟩,
     ⟨(some 25), .mv (.tmp 7), none⟩,
     ⟨(some 26), .call 34 [(.tmp 25)], none⟩,
     ⟨(some 2), .mv (.tmp 21), none⟩,
     ⟨(some 3), .mv (.tmp 22), none⟩,
     ⟨(some 4), .mv (.tmp 23), none⟩,
     ⟨(some 5), .mv (.tmp 24), none⟩,
     ⟨(some 6), .mv (.tmp 26), none⟩] [2, 3, 4, 5, 6])
 (.ret))))
theorem s_spec_DrawCountLabeled : stripF Tryz.prog 8 [[0], [7], [7, 8, 9, 10, 11], [2, 3, 4, 5, 6]] = some (c_spec_DrawCountLabeled, [.tmp 2, .tmp 3, .tmp 4, .tmp 5, .tmp 6], 27) := by kernel_rfl
theorem DrawCountL_ok (H : List Blk) (ns : List Int) (hz : ∀ z ∈ ns, 0 ≤ z ∧ z < 256) (hl : ns.length ≤ 2000000) :
    ACalls Tryz.prog f_spec_DrawCountLabeled [ilY ns] H (fun r H' => H' = H ∧ ∃ v k m s b, r = .tup [I v, I k, I m, I s, I b]) := by
  have hbn := fun k => Bel_ilY k ns
  refine ACalls.introB s_spec_DrawCountLabeled (by simp) ?_; intro hB hA; unfold c_spec_DrawCountLabeled; simp (config := { maxSteps := 1000000 }) (disch := (first | omega | (simp only [go_sem]; try omega))) only [go_sem, Nat.reduceAdd, Nat.reduceEqDiff, Nat.reduceLeDiff, Nat.reduceMul, Nat.reduceLT, reduceIte, Int.reduceToNat, w64_id, cast_succ]
  repeat (first | (with_reducible first | refine SW.seq ?_ | refine SW.block ?_ | refine SW.rowC ?_ | refine SW.skip ?_ | refine SW.exit ?_ | intro _ | refine And.intro (by omega) ?_) | simp (config := { maxSteps := 1000000 }) (disch := (first | omega | (simp only [go_sem]; try omega))) only [go_sem, Nat.reduceAdd, Nat.reduceEqDiff, Nat.reduceLeDiff, Nat.reduceMul, Nat.reduceLT, reduceIte, Int.reduceToNat, w64_id, cast_succ])
  refine (l00From_ok H ns).mono ?_
  rintro r H1 ⟨rfl, rfl⟩
  repeat (first | (with_reducible first | refine SW.seq ?_ | refine SW.block ?_ | refine SW.rowC ?_ | refine SW.skip ?_ | refine SW.exit ?_ | intro _ | refine And.intro (by omega) ?_) | simp (config := { maxSteps := 1000000 }) (disch := (first | omega | (simp only [go_sem]; try omega))) only [go_sem, Nat.reduceAdd, Nat.reduceEqDiff, Nat.reduceLeDiff, Nat.reduceMul, Nat.reduceLT, reduceIte, Int.reduceToNat, w64_id, cast_succ])
  refine (l27DrawRange_ok _ H.length (ilY ns) ns 0 0 (by simp) (codeOk_ilY hz hl) hbn (by omega)).mono ?_
  rintro r H1 ⟨v, k, m, s, u', t', rfl, ht, rfl⟩
  rw [List.set_append_right _ _ (Nat.le_refl _)]
  repeat (first | (with_reducible first | refine SW.seq ?_ | refine SW.block ?_ | refine SW.rowC ?_ | refine SW.skip ?_ | refine SW.exit ?_ | intro _ | refine And.intro (by omega) ?_) | simp (config := { maxSteps := 1000000 }) (disch := (first | omega | (simp only [go_sem]; try omega))) only [go_sem, Nat.reduceAdd, Nat.reduceEqDiff, Nat.reduceLeDiff, Nat.reduceMul, Nat.reduceLT, reduceIte, Int.reduceToNat, w64_id, cast_succ])
  refine (l09DrawBudget_ok _ H.length (ilY ns) ns t' u' (by simp) (codeOk_ilY hz hl) hbn (by omega)).mono ?_
  rintro r H1 ⟨b, u2, t2, rfl, ht2, rfl⟩
  rw [List.set_append_right _ _ (Nat.le_refl _)]
  repeat (first | (with_reducible first | refine SW.seq ?_ | refine SW.block ?_ | refine SW.rowC ?_ | refine SW.skip ?_ | refine SW.exit ?_ | intro _ | refine And.intro (by omega) ?_) | simp (config := { maxSteps := 1000000 }) (disch := (first | omega | (simp only [go_sem]; try omega))) only [go_sem, Nat.reduceAdd, Nat.reduceEqDiff, Nat.reduceLeDiff, Nat.reduceMul, Nat.reduceLT, reduceIte, Int.reduceToNat, w64_id, cast_succ])
  refine SW.ret ⟨_, rfl, GR.froz (r' := .tup [I v, I k, I m, I s, I b]) (.old _ ?_) ⟨rfl, v, k, m, s, b, rfl⟩⟩
  simp [go_sem]
theorem lawFnGenerated_ok (H : List Blk) (ns ms : List Int) (hz : ∀ z ∈ ns, 0 ≤ z ∧ z < 256) (hy : ∀ z ∈ ms, 0 ≤ z ∧ z < 256) : ACalls Tryz.prog f_laws_FnGenerated [ilY ns, ilY ms] H (fun r _ => r = Bv true) := by
  have hbn := fun k => Bel_ilY k ns
  have hbm := fun k => Bel_ilY k ms
  have l1 := b10Long_fn ns
  have l2 := b10Long_fn ms
  by_cases h1 : (1048576 : Int) < ns.length
  · rw [decide_eq_true h1] at l1
    refine ACalls.introB s_laws_FnGenerated (by simp) ?_; intro hB hA; unfold c_laws_FnGenerated; simp (config := { maxSteps := 1000000 }) (disch := (first | omega | (simp only [go_sem]; try omega))) only [go_sem, Nat.reduceAdd, Nat.reduceEqDiff, Nat.reduceLeDiff, Nat.reduceMul, Nat.reduceLT, reduceIte, Int.reduceToNat, w64_id, cast_succ]
    repeat (first | (with_reducible first | refine SW.seq ?_ | refine SW.block ?_ | refine SW.rowC ?_ | refine SW.skip ?_ | refine SW.exit ?_ | refine PFn.use (l1) ?_ | refine PFn.useq (l1) ?_ | intro _ | refine And.intro (by omega) ?_) | simp (config := { maxSteps := 1000000 }) (disch := (first | omega | (simp only [go_sem]; try omega))) only [go_sem, Nat.reduceAdd, Nat.reduceEqDiff, Nat.reduceLeDiff, Nat.reduceMul, Nat.reduceLT, reduceIte, Int.reduceToNat, w64_id, cast_succ])
    refine SW.condT rfl ?_
    repeat (first | (with_reducible first | refine SW.seq ?_ | refine SW.block ?_ | refine SW.rowC ?_ | refine SW.skip ?_ | refine SW.exit ?_ | intro _ | refine And.intro (by omega) ?_) | simp (config := { maxSteps := 1000000 }) (disch := (first | omega | (simp only [go_sem]; try omega))) only [go_sem, Nat.reduceAdd, Nat.reduceEqDiff, Nat.reduceLeDiff, Nat.reduceMul, Nat.reduceLT, reduceIte, Int.reduceToNat, w64_id, cast_succ])
    refine SW.ret ?_; (try simp only [go_sem]); (first | refine FunPost.one ?_ | refine FunPost.two ?_ | refine FunPost.three ?_); (try simp (config := { maxSteps := 1000000 }) (disch := (first | omega | (simp only [go_sem]; try omega))) only [go_sem, Nat.reduceAdd, Nat.reduceEqDiff, Nat.reduceLeDiff, Nat.reduceMul, Nat.reduceLT, reduceIte, Int.reduceToNat, w64_id, cast_succ])
    exact GR.of rfl
  rw [decide_eq_false h1] at l1
  by_cases h2 : (1048576 : Int) < ms.length
  · rw [decide_eq_true h2] at l2
    refine ACalls.introB s_laws_FnGenerated (by simp) ?_; intro hB hA; unfold c_laws_FnGenerated; simp (config := { maxSteps := 1000000 }) (disch := (first | omega | (simp only [go_sem]; try omega))) only [go_sem, Nat.reduceAdd, Nat.reduceEqDiff, Nat.reduceLeDiff, Nat.reduceMul, Nat.reduceLT, reduceIte, Int.reduceToNat, w64_id, cast_succ]
    repeat (first | (with_reducible first | refine SW.seq ?_ | refine SW.block ?_ | refine SW.rowC ?_ | refine SW.skip ?_ | refine SW.exit ?_ | refine PFn.use (l1) ?_ | refine PFn.useq (l1) ?_ | refine PFn.use (l2) ?_ | refine PFn.useq (l2) ?_ | intro _ | refine And.intro (by omega) ?_) | simp (config := { maxSteps := 1000000 }) (disch := (first | omega | (simp only [go_sem]; try omega))) only [go_sem, Nat.reduceAdd, Nat.reduceEqDiff, Nat.reduceLeDiff, Nat.reduceMul, Nat.reduceLT, reduceIte, Int.reduceToNat, w64_id, cast_succ])
    refine SW.condT rfl ?_
    repeat (first | (with_reducible first | refine SW.seq ?_ | refine SW.block ?_ | refine SW.rowC ?_ | refine SW.skip ?_ | refine SW.exit ?_ | intro _ | refine And.intro (by omega) ?_) | simp (config := { maxSteps := 1000000 }) (disch := (first | omega | (simp only [go_sem]; try omega))) only [go_sem, Nat.reduceAdd, Nat.reduceEqDiff, Nat.reduceLeDiff, Nat.reduceMul, Nat.reduceLT, reduceIte, Int.reduceToNat, w64_id, cast_succ])
    refine SW.ret ?_; (try simp only [go_sem]); (first | refine FunPost.one ?_ | refine FunPost.two ?_ | refine FunPost.three ?_); (try simp (config := { maxSteps := 1000000 }) (disch := (first | omega | (simp only [go_sem]; try omega))) only [go_sem, Nat.reduceAdd, Nat.reduceEqDiff, Nat.reduceLeDiff, Nat.reduceMul, Nat.reduceLT, reduceIte, Int.reduceToNat, w64_id, cast_succ])
    exact GR.of rfl
  rw [decide_eq_false h2] at l2
  refine ACalls.introB s_laws_FnGenerated (by simp) ?_; intro hB hA; unfold c_laws_FnGenerated; simp (config := { maxSteps := 1000000 }) (disch := (first | omega | (simp only [go_sem]; try omega))) only [go_sem, Nat.reduceAdd, Nat.reduceEqDiff, Nat.reduceLeDiff, Nat.reduceMul, Nat.reduceLT, reduceIte, Int.reduceToNat, w64_id, cast_succ]
  repeat (first | (with_reducible first | refine SW.seq ?_ | refine SW.block ?_ | refine SW.rowC ?_ | refine SW.skip ?_ | refine SW.exit ?_ | refine PFn.use (l1) ?_ | refine PFn.useq (l1) ?_ | refine PFn.use (l2) ?_ | refine PFn.useq (l2) ?_ | intro _ | refine And.intro (by omega) ?_) | simp (config := { maxSteps := 1000000 }) (disch := (first | omega | (simp only [go_sem]; try omega))) only [go_sem, Nat.reduceAdd, Nat.reduceEqDiff, Nat.reduceLeDiff, Nat.reduceMul, Nat.reduceLT, reduceIte, Int.reduceToNat, w64_id, cast_succ])
  refine SW.condF rfl ?_
  repeat (first | (with_reducible first | refine SW.seq ?_ | refine SW.block ?_ | refine SW.rowC ?_ | refine SW.skip ?_ | refine SW.exit ?_ | intro _ | refine And.intro (by omega) ?_) | simp (config := { maxSteps := 1000000 }) (disch := (first | omega | (simp only [go_sem]; try omega))) only [go_sem, Nat.reduceAdd, Nat.reduceEqDiff, Nat.reduceLeDiff, Nat.reduceMul, Nat.reduceLT, reduceIte, Int.reduceToNat, w64_id, cast_succ])
  refine (DrawCountL_ok _ ns hz (by omega)).mono ?_
  rintro r H1 ⟨rfl, v, k, m, s, b, rfl⟩
  have hic := implCountL_fn v k m s b
  have hsg := specGenerate_fn v k m s
  repeat (first | (with_reducible first | refine SW.seq ?_ | refine SW.block ?_ | refine SW.rowC ?_ | refine SW.skip ?_ | refine SW.exit ?_ | intro _ | refine And.intro (by omega) ?_) | simp (config := { maxSteps := 1000000 }) (disch := (first | omega | (simp only [go_sem]; try omega))) only [go_sem, Nat.reduceAdd, Nat.reduceEqDiff, Nat.reduceLeDiff, Nat.reduceMul, Nat.reduceLT, reduceIte, Int.reduceToNat, w64_id, cast_succ])
  refine (implGenerate_fx v k m s _).mono ?_
  rintro r H2 ⟨ext, gv, rfl, rfl, own⟩
  repeat (first | (with_reducible first | refine SW.seq ?_ | refine SW.block ?_ | refine SW.rowC ?_ | refine SW.skip ?_ | refine SW.exit ?_ | refine PFn.use (hic) ?_ | refine PFn.useq (hic) ?_ | intro _ | refine And.intro (by omega) ?_) | simp (config := { maxSteps := 1000000 }) (disch := (first | omega | (simp only [go_sem]; try omega))) only [go_sem, Nat.reduceAdd, Nat.reduceEqDiff, Nat.reduceLeDiff, Nat.reduceMul, Nat.reduceLT, reduceIte, Int.reduceToNat, w64_id, cast_succ, own.one.1, own.one.2])
  refine SW.froz hB (by simp) (.cons _ (ren_I _) (.cons _ (ren_I _) (.cons _ (ren_I _) (.cons _ (ren_I _) (.cons _ (ren_of_froz (own.froz (fun r h => h.1))) (.cons _ (ren_I _) (.cons _ (ren_I _) (.cons _ (ren_B _) .nil)))))))) ?_
  clear own
  cases hpk : packB v k m s
  · have e1 : genV v k m s = [] := by unfold genV; rw [hpk]; rfl
    have e2 : genC v k m s = 2 := by unfold genC; rw [hpk]; rfl
    have e3 : (cntV v k m s b).2 = 2 := by unfold cntV; rw [hpk, Bool.and_false]; rfl
    rw [e1, e2, e3]
    refine SW.condT rfl ?_
    have d0 : decide (((0 : Nat) : Int) = 0) = true := rfl
    have d2 : decide ((2 : Int) = 2) = true := rfl
    repeat (first | (with_reducible first | refine SW.seq ?_ | refine SW.block ?_ | refine SW.rowC ?_ | refine SW.skip ?_ | refine SW.exit ?_ | intro _ | refine And.intro (by omega) ?_) | simp (config := { maxSteps := 1000000 }) (disch := (first | omega | (simp only [go_sem]; try omega))) only [go_sem, Nat.reduceAdd, Nat.reduceEqDiff, Nat.reduceLeDiff, Nat.reduceMul, Nat.reduceLT, reduceIte, Int.reduceToNat, w64_id, cast_succ, d0, d2])
    refine SW.ret ?_; (try simp only [go_sem]); (first | refine FunPost.one ?_ | refine FunPost.two ?_ | refine FunPost.three ?_); (try simp (config := { maxSteps := 1000000 }) (disch := (first | omega | (simp only [go_sem]; try omega))) only [go_sem, Nat.reduceAdd, Nat.reduceEqDiff, Nat.reduceLeDiff, Nat.reduceMul, Nat.reduceLT, reduceIte, Int.reduceToNat, w64_id, cast_succ])
    exact GR.of rfl
  · have e1 : genV v k m s = genN v.toNat k.toNat s m.toNat := by unfold genV; rw [hpk]; rfl
    have e2 : genC v k m s = 0 := by unfold genC; rw [hpk]; rfl
    obtain ⟨p1, p2, p3, p4, p5, p6⟩ := packB_t hpk
    have hlen := (genV_len v k m s).1
    obtain ⟨v, rfl⟩ := Int.eq_ofNat_of_zero_le (show 0 ≤ v by omega)
    obtain ⟨k, rfl⟩ := Int.eq_ofNat_of_zero_le (show 0 ≤ k by omega)
    obtain ⟨m, rfl⟩ := Int.eq_ofNat_of_zero_le (show 0 ≤ m by omega)
    simp only [Int.toNat_natCast] at e1
    have ho1 := fun bs (hb : bs ∈ genN v k s m) => labels_one (by omega) (by omega) hb
    have hnd := (genN_ok (v := v) (k := k) (s := s) (by omega) (by omega) m).1.nodup cmpSS_tot
    have hcnt : (cntV v k m s b).2 = 0 → (cntV v k m s b).1 = (sumN (fun bs => fct v / sameC bs (perms v)) (genN v k s m) : Nat) := by
      unfold cntV
      split
      · simp only [Int.toNat_natCast]
        cases hcl : cl s [] (subsN v k) m b.toNat with
        | none => simp
        | some q =>
          obtain ⟨c, l⟩ := q
          intro _
          exact congrArg Nat.cast (labels_all (by omega) (by omega) hcl)
      · simp
    rw [e1, e2] at hsg ⊢
    rw [e1] at hlen
    clear e1 e2
    generalize genN v k s m = zs at *
    generalize (cntV v k m s b).1 = cn at *
    generalize (cntV v k m s b).2 = cc at *
    refine SW.condF rfl ?_
    have d0 : decide ((0 : Int) = 0) = true := rfl
    have d1 : decide ((zs.length : Int) = zs.length) = true := decide_eq_true rfl
    repeat (first | (with_reducible first | refine SW.seq ?_ | refine SW.block ?_ | refine SW.rowC ?_ | refine SW.skip ?_ | refine SW.exit ?_ | refine PFn.use (hsg) ?_ | refine PFn.useq (hsg) ?_ | intro _ | refine And.intro (by omega) ?_) | simp (config := { maxSteps := 1000000 }) (disch := (first | omega | (simp only [go_sem]; try omega))) only [go_sem, Nat.reduceAdd, Nat.reduceEqDiff, Nat.reduceLeDiff, Nat.reduceMul, Nat.reduceLT, reduceIte, Int.reduceToNat, w64_id, cast_succ, d0, d1])
    refine SW.condF rfl ?_
    repeat (first | (with_reducible first | refine SW.seq ?_ | refine SW.block ?_ | refine SW.rowC ?_ | refine SW.skip ?_ | refine SW.exit ?_ | intro _ | refine And.intro (by omega) ?_) | simp (config := { maxSteps := 1000000 }) (disch := (first | omega | (simp only [go_sem]; try omega))) only [go_sem, Nat.reduceAdd, Nat.reduceEqDiff, Nat.reduceLeDiff, Nat.reduceMul, Nat.reduceLT, reduceIte, Int.reduceToNat, w64_id, cast_succ])
    refine SW.loopE (fun E0 H0 q E' H' => ∃ i : Nat, 2 ≤ i ∧ i ≤ v + 1 ∧ q = v + 1 - i ∧ E' = aput (aput E0 16 (I (fct (i - 1) : Nat))) 17 (I i) ∧ H' = H0) (v - 1) ⟨2, by omega, by omega, by omega, rfl, rfl⟩ ?_
    rintro q E' H' ⟨i, hi2, hiv, rfl, rfl, rfl⟩
    simp (config := { maxSteps := 1000000 }) (disch := (first | omega | (simp only [go_sem]; try omega))) only [go_sem, Nat.reduceAdd, Nat.reduceEqDiff, Nat.reduceLeDiff, Nat.reduceMul, Nat.reduceLT, reduceIte, Int.reduceToNat, w64_id, cast_succ]
    repeat (first | (with_reducible first | refine SW.seq ?_ | refine SW.block ?_ | refine SW.rowC ?_ | refine SW.skip ?_ | refine SW.exit ?_ | intro _ | refine And.intro (by omega) ?_) | simp (config := { maxSteps := 1000000 }) (disch := (first | omega | (simp only [go_sem]; try omega))) only [go_sem, Nat.reduceAdd, Nat.reduceEqDiff, Nat.reduceLeDiff, Nat.reduceMul, Nat.reduceLT, reduceIte, Int.reduceToNat, w64_id, cast_succ])
    (first | refine SW.condD rfl (fun h3 => ?_) (fun h3 => ?_) | refine SW.condN rfl (fun h3 => ?_) (fun h3 => ?_) | refine SW.condNB rfl (fun h3 => ?_) (fun h3 => ?_) | refine SW.condB rfl (fun h3 => ?_) (fun h3 => ?_))
    · obtain ⟨i, rfl⟩ : ∃ j, i = j + 1 := ⟨i - 1, by omega⟩
      have ef : ((fct (i + 1 - 1) : Nat) : Int) * ((i + 1 : Nat) : Int) = ((fct (i + 1) : Nat) : Int) := by
        rw [Nat.add_sub_cancel, show fct (i + 1) = (i + 1) * fct i from rfl, Int.mul_comm, Int.natCast_mul]
      have hb6 := fct6 (v := i + 1) (by omega)
      repeat (first | (with_reducible first | refine SW.seq ?_ | refine SW.block ?_ | refine SW.rowC ?_ | refine SW.skip ?_ | refine SW.exit ?_ | intro _ | refine And.intro (by omega) ?_) | simp (config := { maxSteps := 1000000 }) (disch := (first | omega | (simp only [go_sem]; try omega))) only [go_sem, Nat.reduceAdd, Nat.reduceEqDiff, Nat.reduceLeDiff, Nat.reduceMul, Nat.reduceLT, reduceIte, Int.reduceToNat, w64_id, cast_succ, ef])
      refine SLoop.next (v + 1 - (i + 1 + 1)) (by omega) ⟨i + 1 + 1, by omega, by omega, rfl, rfl, rfl⟩
    · have : i = v + 1 := by omega
      subst this
      rw [Nat.add_sub_cancel]
      have hb6 := fct6 (v := v) (by omega)
      repeat (first | (with_reducible first | refine SW.seq ?_ | refine SW.block ?_ | refine SW.rowC ?_ | refine SW.skip ?_ | refine SW.exit ?_ | intro _ | refine And.intro (by omega) ?_) | simp (config := { maxSteps := 1000000 }) (disch := (first | omega | (simp only [go_sem]; try omega))) only [go_sem, Nat.reduceAdd, Nat.reduceEqDiff, Nat.reduceLeDiff, Nat.reduceMul, Nat.reduceLT, reduceIte, Int.reduceToNat, w64_id, cast_succ])
      have hsum : ∀ l : List (List (List Int)), (∀ bs ∈ l, bs ∈ zs) → sumN (fun bs => fct v / sameC bs (perms v)) l ≤ l.length * 720 := fun l => by
        induction l with
        | nil => intro _; simp [sumN]
        | cons a l ih =>
          intro h
          have i1 := ih (fun b hb => h b (by simp [hb]))
          have : fct v / sameC a (perms v) ≤ fct v := Nat.div_le_self _ _
          simp only [sumN, List.map_cons, List.sum_cons, List.length_cons] at *
          omega
      refine SW.loopE (fun E0 H0 q E' H' => ∃ pre post : List (List (List Int)), zs = pre ++ post ∧ q = post.length ∧ E' = aput (aput E0 18 (I (sumN (fun bs => fct v / sameC bs (perms v)) pre : Nat))) 19 (I pre.length) ∧ H' = H0) zs.length ⟨[], zs, rfl, rfl, rfl, rfl⟩ ?_
      rintro q E' H' ⟨pre, post, hpp, rfl, rfl, rfl⟩
      have hpl : pre.length ≤ 1048576 := by rw [hpp, List.length_append] at hlen; omega
      have hsp := hsum pre (fun b hb => by rw [hpp]; simp [hb])
      simp (config := { maxSteps := 1000000 }) (disch := (first | omega | (simp only [go_sem]; try omega))) only [go_sem, Nat.reduceAdd, Nat.reduceEqDiff, Nat.reduceLeDiff, Nat.reduceMul, Nat.reduceLT, reduceIte, Int.reduceToNat, w64_id, cast_succ]
      repeat (first | (with_reducible first | refine SW.seq ?_ | refine SW.block ?_ | refine SW.rowC ?_ | refine SW.skip ?_ | refine SW.exit ?_ | intro _ | refine And.intro (by omega) ?_) | simp (config := { maxSteps := 1000000 }) (disch := (first | omega | (simp only [go_sem]; try omega))) only [go_sem, Nat.reduceAdd, Nat.reduceEqDiff, Nat.reduceLeDiff, Nat.reduceMul, Nat.reduceLT, reduceIte, Int.reduceToNat, w64_id, cast_succ])
      (first | refine SW.condD rfl (fun h4 => ?_) (fun h4 => ?_) | refine SW.condN rfl (fun h4 => ?_) (fun h4 => ?_) | refine SW.condNB rfl (fun h4 => ?_) (fun h4 => ?_) | refine SW.condB rfl (fun h4 => ?_) (fun h4 => ?_))
      · obtain ⟨bs, post, rfl, hg, -⟩ := consOf (d := []) hpp (by omega)
        obtain ⟨q1, q2, q3, q4, q5⟩ := ho1 bs (by rw [hpp]; simp)
        have hsok := pack_ok (v := v) (by omega) (by omega) (by omega) q2
        have hbl : bs.length ≤ 2000000 := by
          have := q2.1; omega
        have il := implLeastP v bs hbl
        have e1 : leastV v bs = (bs, 0) := by unfold leastV; rw [if_pos hsok]; simp only [Int.toNat_natCast]; rw [q1]
        rw [e1] at il
        have ia := implSysAut_fn v bs hbl
        rw [if_pos hsok, Int.toNat_natCast] at ia
        have ib := b10Lists_fn bs bs hbl (fun x hx => by have := (q2.2.2 x hx).1; omega)
        rw [decide_eq_true rfl] at ib
        have d3 : decide ((bs.length : Int) = m) = true := decide_eq_true (by rw [q2.1])
        generalize hsc : sameC bs (perms v) = sc at *
        have d4 : decide ((sc : Int) < 1) = false := decide_eq_false (by omega)
        have d5 : decide (((fct v % sc : Nat) : Int) = 0) = true := decide_eq_true (by omega)
        have hsc0 : ¬ (sc : Int) = 0 := by omega
        have d6 : decide ((sc : Int) = 0) = false := decide_eq_false hsc0
        repeat (first | (with_reducible first | refine SW.seq ?_ | refine SW.block ?_ | refine SW.rowC ?_ | refine SW.skip ?_ | refine SW.exit ?_ | refine PFn.use (il) ?_ | refine PFn.useq (il) ?_ | refine PFn.use (ia) ?_ | refine PFn.useq (ia) ?_ | refine PFn.use (ib) ?_ | refine PFn.useq (ib) ?_ | intro _ | refine And.intro (by omega) ?_) | simp (config := { maxSteps := 1000000 }) (disch := (first | omega | (simp only [go_sem]; try omega))) only [go_sem, Nat.reduceAdd, Nat.reduceEqDiff, Nat.reduceLeDiff, Nat.reduceMul, Nat.reduceLT, reduceIte, Int.reduceToNat, w64_id, cast_succ, hg, d0, d3, d4, d5, d6, tmodN, hsc0])
        refine SW.condF rfl ?_
        repeat (first | (with_reducible first | refine SW.seq ?_ | refine SW.block ?_ | refine SW.rowC ?_ | refine SW.skip ?_ | refine SW.exit ?_ | intro _ | refine And.intro (by omega) ?_) | simp (config := { maxSteps := 1000000 }) (disch := (first | omega | (simp only [go_sem]; try omega))) only [go_sem, Nat.reduceAdd, Nat.reduceEqDiff, Nat.reduceLeDiff, Nat.reduceMul, Nat.reduceLT, reduceIte, Int.reduceToNat, w64_id, cast_succ])
        have hbr : ∀ x ∈ bs, x.length ≤ 2000000 := fun x hx => by have := (q2.2.2 x hx).1; omega
        have hne : ∀ j, j < pre.length → bs ≠ zs.getD j [] := fun j hj e => by
          have h5 : zs.getD j [] ∈ pre := by
            rw [hpp, List.getD_eq_getElem?_getD, List.getElem?_append_left hj, List.getElem?_eq_getElem hj]
            exact List.getElem_mem _
          rw [hpp, List.nodup_append] at hnd
          exact hnd.2.2 _ h5 bs (by simp) e.symm
        refine SW.loopE (fun E0 H0 q E' H' => ∃ j : Nat, j ≤ pre.length ∧ q = pre.length - j ∧ E' = aput E0 24 (I j) ∧ H' = H0) pre.length ⟨0, by omega, by omega, rfl, rfl⟩ ?_
        rintro q E' H' ⟨j, hj, rfl, rfl, rfl⟩
        have hzl : pre.length < zs.length := by omega
        simp (config := { maxSteps := 1000000 }) (disch := (first | omega | (simp only [go_sem]; try omega))) only [go_sem, Nat.reduceAdd, Nat.reduceEqDiff, Nat.reduceLeDiff, Nat.reduceMul, Nat.reduceLT, reduceIte, Int.reduceToNat, w64_id, cast_succ]
        repeat (first | (with_reducible first | refine SW.seq ?_ | refine SW.block ?_ | refine SW.rowC ?_ | refine SW.skip ?_ | refine SW.exit ?_ | intro _ | refine And.intro (by omega) ?_) | simp (config := { maxSteps := 1000000 }) (disch := (first | omega | (simp only [go_sem]; try omega))) only [go_sem, Nat.reduceAdd, Nat.reduceEqDiff, Nat.reduceLeDiff, Nat.reduceMul, Nat.reduceLT, reduceIte, Int.reduceToNat, w64_id, cast_succ])
        (first | refine SW.condD rfl (fun h5 => ?_) (fun h5 => ?_) | refine SW.condN rfl (fun h5 => ?_) (fun h5 => ?_) | refine SW.condNB rfl (fun h5 => ?_) (fun h5 => ?_) | refine SW.condB rfl (fun h5 => ?_) (fun h5 => ?_))
        · have hlj : j < pre.length := by omega
          have hjz : j < zs.length := by omega
          have ic := b10Lists_fn bs (zs.getD j []) hbl hbr
          rw [decide_eq_false (hne j hlj)] at ic
          repeat (first | (with_reducible first | refine SW.seq ?_ | refine SW.block ?_ | refine SW.rowC ?_ | refine SW.skip ?_ | refine SW.exit ?_ | refine PFn.use (ic) ?_ | refine PFn.useq (ic) ?_ | intro _ | refine And.intro (by omega) ?_) | simp (config := { maxSteps := 1000000 }) (disch := (first | omega | (simp only [go_sem]; try omega))) only [go_sem, Nat.reduceAdd, Nat.reduceEqDiff, Nat.reduceLeDiff, Nat.reduceMul, Nat.reduceLT, reduceIte, Int.reduceToNat, w64_id, cast_succ, hg])
          refine SW.condF rfl ?_
          repeat (first | (with_reducible first | refine SW.seq ?_ | refine SW.block ?_ | refine SW.rowC ?_ | refine SW.skip ?_ | refine SW.exit ?_ | intro _ | refine And.intro (by omega) ?_) | simp (config := { maxSteps := 1000000 }) (disch := (first | omega | (simp only [go_sem]; try omega))) only [go_sem, Nat.reduceAdd, Nat.reduceEqDiff, Nat.reduceLeDiff, Nat.reduceMul, Nat.reduceLT, reduceIte, Int.reduceToNat, w64_id, cast_succ])
          refine SLoop.next (pre.length - (j + 1)) (by omega) ⟨j + 1, by omega, rfl, rfl, rfl⟩
        · have : j = pre.length := by omega
          subst this
          have hq : fct v / sc ≤ fct v := Nat.div_le_self _ _
          have hss : sumN (fun bs => fct v / sameC bs (perms v)) (pre ++ [bs]) = sumN (fun bs => fct v / sameC bs (perms v)) pre + fct v / sc := by
            rw [sumN_app, sumN_cons, sumN_nil, hsc]; rfl
          repeat (first | (with_reducible first | refine SW.seq ?_ | refine SW.block ?_ | refine SW.rowC ?_ | refine SW.skip ?_ | refine SW.exit ?_ | intro _ | refine And.intro (by omega) ?_) | simp (config := { maxSteps := 1000000 }) (disch := (first | omega | (simp only [go_sem]; try omega))) only [go_sem, Nat.reduceAdd, Nat.reduceEqDiff, Nat.reduceLeDiff, Nat.reduceMul, Nat.reduceLT, reduceIte, Int.reduceToNat, w64_id, cast_succ, tdivN, d6, hsc0])
          refine SLoop.next post.length (by simp) ⟨pre ++ [bs], post, by rw [hpp]; simp, rfl, ?_, rfl⟩
          rw [hss]
          simp [go_sem]
      · obtain ⟨rfl, rfl⟩ := nilOf hpp (by omega)
        repeat (first | (with_reducible first | refine SW.seq ?_ | refine SW.block ?_ | refine SW.rowC ?_ | refine SW.skip ?_ | refine SW.exit ?_ | intro _ | refine And.intro (by omega) ?_) | simp (config := { maxSteps := 1000000 }) (disch := (first | omega | (simp only [go_sem]; try omega))) only [go_sem, Nat.reduceAdd, Nat.reduceEqDiff, Nat.reduceLeDiff, Nat.reduceMul, Nat.reduceLT, reduceIte, Int.reduceToNat, w64_id, cast_succ])
        by_cases hcc : cc = 0
        · have d7 : decide (cc = 0) = true := decide_eq_true hcc
          have d8 := hcnt hcc
          have d9 : decide (cn = ((sumN (fun bs => fct v / sameC bs (perms v)) pre : Nat) : Int)) = true := decide_eq_true d8
          repeat (first | (with_reducible first | refine SW.seq ?_ | refine SW.block ?_ | refine SW.rowC ?_ | refine SW.skip ?_ | refine SW.exit ?_ | intro _ | refine And.intro (by omega) ?_) | simp (config := { maxSteps := 1000000 }) (disch := (first | omega | (simp only [go_sem]; try omega))) only [go_sem, Nat.reduceAdd, Nat.reduceEqDiff, Nat.reduceLeDiff, Nat.reduceMul, Nat.reduceLT, reduceIte, Int.reduceToNat, w64_id, cast_succ, d7, d9])
          refine SW.ret ?_; (try simp only [go_sem]); (first | refine FunPost.one ?_ | refine FunPost.two ?_ | refine FunPost.three ?_); (try simp (config := { maxSteps := 1000000 }) (disch := (first | omega | (simp only [go_sem]; try omega))) only [go_sem, Nat.reduceAdd, Nat.reduceEqDiff, Nat.reduceLeDiff, Nat.reduceMul, Nat.reduceLT, reduceIte, Int.reduceToNat, w64_id, cast_succ])
          exact GR.of rfl
        · have d7 : decide (cc = 0) = false := decide_eq_false hcc
          repeat (first | (with_reducible first | refine SW.seq ?_ | refine SW.block ?_ | refine SW.rowC ?_ | refine SW.skip ?_ | refine SW.exit ?_ | intro _ | refine And.intro (by omega) ?_) | simp (config := { maxSteps := 1000000 }) (disch := (first | omega | (simp only [go_sem]; try omega))) only [go_sem, Nat.reduceAdd, Nat.reduceEqDiff, Nat.reduceLeDiff, Nat.reduceMul, Nat.reduceLT, reduceIte, Int.reduceToNat, w64_id, cast_succ, d7])
          refine SW.ret ?_; (try simp only [go_sem]); (first | refine FunPost.one ?_ | refine FunPost.two ?_ | refine FunPost.three ?_); (try simp (config := { maxSteps := 1000000 }) (disch := (first | omega | (simp only [go_sem]; try omega))) only [go_sem, Nat.reduceAdd, Nat.reduceEqDiff, Nat.reduceLeDiff, Nat.reduceMul, Nat.reduceLT, reduceIte, Int.reduceToNat, w64_id, cast_succ])
          exact GR.of rfl
end Go.Proofs.YthogadbnddmkdaaGreat
