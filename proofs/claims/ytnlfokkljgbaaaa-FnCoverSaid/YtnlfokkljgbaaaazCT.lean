/- FnCover: the law. -/
import Derived.Test.YtnlfokkljgbaaaaProg
import Derived.KernelRfl
import Derived.Test.YtnlfokkljgbaaaazCQ
import Derived.Test.YtnlfokkljgbaaaazSB
import Derived.Test.YtnlfokkljgbaaaazK7
import Derived.Test.YtnlfokkljgbaaaazCE0
set_option linter.unusedSimpArgs false
set_option linter.unusedVariables false
set_option maxHeartbeats 4000000
set_option maxRecDepth 100000
namespace Go.Proofs.Ytnlfokkljgbaaaa
open Go.Av
abbrev f_laws_FnCover : Nat := 4
def c_laws_FnCover : SC :=
 .seq (.reg [
     ⟨(some 4), .mv (.const (.bool false)), none⟩] [0, 1])
 (.seq (.seq (.reg [
     ⟨(some 24), .mv (.tmp 0), none⟩,
     ⟨(some 25), .mv (.tmp 1), none⟩,
     ⟨(some 26), .call 8 [(.tmp 24), (.tmp 25)], none⟩] [0, 1, 26])
 (.cond (.tmp 26)
  (.seq (.reg [
      ⟨(some 4), .mv (.const (.bool true)), none⟩] [4])
  (.ret))
  (.skip)))
 (.seq (.reg [
     ⟨(some 27), .mv (.tmp 0), none⟩,
     ⟨(some 28), .call 9 [(.tmp 27)], none⟩,
     ⟨(some 5), .alloc 34 [(.int .i64 0), (.slice none 0 0)], none⟩,
     ⟨none, .store 2 (.tmp 5) (.tmp 28), none⟩] [1, 5])
 (.seq (.reg [
     ⟨(some 30), .load 2 true (.tmp 5), none⟩,
     ⟨(some 31), .call 10 [(.tmp 30), (.const (.int .i64 1000))], none⟩,
     ⟨(some 29), .mv (.tmp 31), none⟩,
     ⟨(some 32), .ext (.tmp 29) 0, none⟩,
     ⟨(some 33), .ext (.tmp 29) 1, none⟩,
     ⟨(some 6), .mv (.tmp 32), none⟩,
     ⟨(some 7), .mv (.tmp 33), none⟩] [1, 5, 6, 7])
 (.seq (.reg [
     ⟨(some 35), .load 2 true (.tmp 5), none⟩,
     ⟨(some 36), .call 11 [(.tmp 35), (.const (.int .i64 1000))], none⟩,
     ⟨(some 34), .mv (.tmp 36), none⟩,
     ⟨(some 37), .ext (.tmp 34) 0, none⟩,
     ⟨(some 38), .ext (.tmp 34) 1, none⟩,
     ⟨(some 8), .mv (.tmp 37), none⟩,
     ⟨(some 9), .mv (.tmp 38), none⟩] [1, 5, 6, 7, 8, 9])
 (.seq (.reg [
     ⟨(some 40), .load 2 true (.tmp 5), none⟩,
     ⟨(some 41), .call 12 [(.tmp 40), (.const (.int .i64 1000))], none⟩,
     ⟨(some 39), .mv (.tmp 41), none⟩,
     ⟨(some 42), .ext (.tmp 39) 0, none⟩,
     ⟨(some 43), .ext (.tmp 39) 1, none⟩,
     ⟨(some 10), .mv (.tmp 42), none⟩,
     ⟨(some 11), .mv (.tmp 43), none⟩] [1, 5, 6, 7, 8, 9, 10, 11])
 (.seq (.seq (.reg [
     ⟨(some 44), .mv (.tmp 7), none⟩,
     ⟨(some 45), .mv (.tmp 9), none⟩,
     ⟨(some 46), .bin .neq (.tmp 44) (.tmp 45), none⟩,
     ⟨(some 47), .mv (.tmp 46), none⟩,
     ⟨(some 48), .mv (.tmp 7), (some (47, false))⟩,
     ⟨(some 49), .mv (.tmp 11), (some (47, false))⟩,
     ⟨(some 50), .bin .neq (.tmp 48) (.tmp 49), (some (47, false))⟩,
     ⟨(some 51), .pick (.tmp 47) (.const (.bool true)) (.tmp 50), none⟩] [1, 5, 6, 7, 8, 10, 51])
 (.cond (.tmp 51)
  (.seq (.reg [
      ⟨(some 4), .mv (.const (.bool false)), none⟩] [4])
  (.ret))
  (.skip)))
 (.seq (.seq (.reg [
     ⟨(some 52), .mv (.tmp 7), none⟩,
     ⟨(some 53), .bin .neq (.tmp 52) (.const (.int .i64 0)), none⟩] [1, 5, 6, 7, 8, 10, 53])
 (.cond (.tmp 53)
  (.seq (.reg [
      ⟨(some 54), .mv (.tmp 7), none⟩,
      ⟨(some 55), .bin .eql (.tmp 54) (.const (.int .i64 5)), none⟩,
      ⟨(some 4), .mv (.tmp 55), none⟩] [4])
  (.ret))
  (.skip)))
 (.seq (.reg [
     ⟨(some 57), .load 2 true (.tmp 5), none⟩,
     ⟨(some 58), .call 13 [(.tmp 57), (.const (.int .i64 1000))], none⟩,
     ⟨(some 56), .mv (.tmp 58), none⟩,
     ⟨(some 59), .ext (.tmp 56) 0, none⟩,
     ⟨(some 60), .ext (.tmp 56) 1, none⟩,
     ⟨(some 12), .mv (.tmp 59), none⟩,
     ⟨(some 13), .mv (.tmp 60), none⟩] [1, 5, 6, 8, 10, 12, 13])
 (.seq (.seq (.reg [
     ⟨(some 61), .mv (.tmp 6), none⟩,
     ⟨(some 62), .len (.tmp 61), none⟩,
     ⟨(some 63), .mv (.tmp 8), none⟩,
     ⟨(some 64), .bin .neq (.tmp 62) (.tmp 63), none⟩,
     ⟨(some 65), .mv (.tmp 64), none⟩,
     ⟨(some 66), .mv (.tmp 10), (some (65, false))⟩,
     ⟨(some 67), .bin .lss (.tmp 66) (.const (.int .i64 1)), (some (65, false))⟩,
     ⟨(some 68), .pick (.tmp 65) (.const (.bool true)) (.tmp 67), none⟩,
     ⟨(some 69), .mv (.tmp 68), none⟩,
     ⟨(some 70), .mv (.tmp 13), (some (69, false))⟩,
     ⟨(some 71), .bin .eql (.tmp 70) (.const (.int .i64 3)), (some (69, false))⟩,
     ⟨(some 72), .mv (.tmp 8), (some (69, false))⟩,
     ⟨(some 73), .bin .eql (.tmp 72) (.const (.int .i64 0)), (some (69, false))⟩,
     ⟨(some 74), .binb true (.tmp 71) (.tmp 73), (some (69, false))⟩,
     ⟨(some 75), .pick (.tmp 69) (.const (.bool true)) (.tmp 74), none⟩,
     ⟨(some 76), .mv (.tmp 75), none⟩,
     ⟨(some 77), .mv (.tmp 13), (some (76, false))⟩,
     ⟨(some 78), .bin .eql (.tmp 77) (.const (.int .i64 0)), (some (76, false))⟩,
     ⟨(some 79), .mv (.tmp 78), (some (76, false))⟩,
     ⟨(some 80), .mv (.tmp 12), (some (79, true))⟩,
     ⟨(some 81), .mv (.tmp 6), (some (79, true))⟩,
     ⟨(some 82), .iaddr 1 (.tmp 81) (.const (.int .i64 0)), (some (79, true))⟩,
     ⟨(some 83), .load 1 false (.tmp 82), (some (79, true))⟩,
     ⟨(some 84), .call 14 [(.tmp 80), (.tmp 83)], (some (79, true))⟩,
     ⟨(some 85), .un .not (.tmp 84), (some (79, true))⟩,
     ⟨(some 86), .pick (.tmp 79) (.tmp 85) (.const (.bool false)), (some (76, false))⟩,
     ⟨(some 87), .pick (.tmp 76) (.const (.bool true)) (.tmp 86), none⟩] [1, 5, 6, 87])
 (.cond (.tmp 87)
  (.seq (.reg [
      ⟨(some 4), .mv (.const (.bool false)), none⟩] [4])
  (.ret))
  (.skip)))
 (.seq (.seq (.reg [
     ⟨(some 14), .mv (.const (.int .i64 0)), none⟩] [1, 5, 6, 14])
 (.block 0 (.loop [1, 5, 6, 14]
   (.seq (.seq (.reg [
       ⟨(some 88), .mv (.tmp 14), none⟩,
       ⟨(some 89), .mv (.tmp 6), none⟩,
       ⟨(some 90), .len (.tmp 89), none⟩,
       ⟨(some 91), .bin .lss (.tmp 88) (.tmp 90), none⟩] [1, 5, 6, 14, 91])
   (.cond (.tmp 91)
    (.skip)
    (.exit 0)))
   (.seq (.block 1 (.seq (.reg [
        ⟨(some 94), .load 2 true (.tmp 5), none⟩,
        ⟨(some 95), .mv (.tmp 6), none⟩,
        ⟨(some 96), .mv (.tmp 14), none⟩,
        ⟨(some 97), .iaddr 1 (.tmp 95) (.tmp 96), none⟩,
        ⟨(some 98), .load 1 false (.tmp 97), none⟩,
        ⟨(some 99), .qcall 15 [(.tmp 94), (.tmp 98)], none⟩,
        ⟨(some 100), .un .not (.tmp 99), none⟩] [1, 5, 6, 14, 100])
    (.cond (.tmp 100)
     (.seq (.reg [
         ⟨(some 4), .mv (.const (.bool false)), none⟩] [4])
     (.ret))
     (.skip))))
   (.reg [
       ⟨(some 92), .mv (.tmp 14), none⟩,
       ⟨(some 93), .bin .add (.tmp 92) (.const (.int .i64 1)), none⟩,
       ⟨(some 14), .mv (.tmp 93), none⟩] [1, 5, 6, 14]))))))
 (.seq (.seq (.reg [
     ⟨(some 101), .faddr 1 (.tmp 5), none⟩,
     ⟨(some 102), .load 1 false (.tmp 101), none⟩,
     ⟨(some 103), .len (.tmp 102), none⟩,
     ⟨(some 104), .bin .eql (.tmp 103) (.const (.int .i64 0)), none⟩] [1, 5, 6, 104])
 (.cond (.tmp 104)
  (.seq (.reg [
      ⟨(some 4), .mv (.const (.bool true)), none⟩] [4])
  (.ret))
  (.skip)))
 (.seq (.reg [
     ⟨(some 105), .mv (.tmp 1), none⟩,
     ⟨(some 106), .faddr 1 (.tmp 5), none⟩,
     ⟨(some 107), .load 1 false (.tmp 106), none⟩,
     ⟨(some 108), .len (.tmp 107), none⟩,
     ⟨(some 109), .call 16 [(.tmp 105), (.const (.int .i64 0)), (.tmp 108)], none⟩,
     ⟨(some 15), .mv (.tmp 109), none⟩] [5, 6, 15])
 (.seq (.reg [
     ⟨(some 111), .load 2 true (.tmp 5), none⟩,
     ⟨(some 112), .mv (.tmp 15), none⟩,
     ⟨(some 113), .bslice 2 1 1 [(.int .i64 0)] [(0, (.tmp 112))], none⟩,
     ⟨(some 114), .call 17 [(.tmp 111), (.tmp 113)], none⟩,
     ⟨(some 110), .mv (.tmp 114), none⟩,
     ⟨(some 115), .ext (.tmp 110) 0, none⟩,
     ⟨(some 116), .ext (.tmp 110) 1, none⟩,
     ⟨(some 117), .ext (.tmp 110) 2, none⟩,
     ⟨(some 16), .alloc 34 [(.int .i64 0), (.slice none 0 0)], none⟩,
     ⟨none, .store 2 (.tmp 16) (.tmp 115), none⟩,
     ⟨(some 17), .mv (.tmp 116), none⟩,
     ⟨(some 18), .mv (.tmp 117), none⟩] [5, 6, 15, 16, 17, 18])
 (.seq (.reg [
     ⟨(some 19), .mv (.const (.int .i64 0)), none⟩] [5, 6, 15, 16, 17, 18, 19])
 (.seq (.seq (.reg [
     ⟨(some 20), .mv (.const (.int .i64 0)), none⟩] [5, 6, 15, 16, 17, 18, 19, 20])
 (.block 2 (.loop [5, 6, 15, 16, 17, 18, 19, 20]
   (.seq (.seq (.reg [
       ⟨(some 118), .mv (.tmp 20), none⟩,
       ⟨(some 119), .mv (.tmp 6), none⟩,
       ⟨(some 120), .len (.tmp 119), none⟩,
       ⟨(some 121), .bin .lss (.tmp 118) (.tmp 120), none⟩] [5, 6, 15, 16, 17, 18, 19, 20, 121])
   (.cond (.tmp 121)
    (.skip)
    (.exit 2)))
   (.seq (.block 3 (.seq (.reg [
        ⟨(some 21), .mv (.const (.int .i64 0)), none⟩] [5, 6, 15, 16, 17, 18, 19, 20, 21])
    (.block 4 (.loop [5, 6, 15, 16, 17, 18, 19, 20, 21]
      (.seq (.seq (.reg [
          ⟨(some 124), .mv (.tmp 21), none⟩,
          ⟨(some 125), .mv (.tmp 6), none⟩,
          ⟨(some 126), .mv (.tmp 20), none⟩,
          ⟨(some 127), .iaddr 1 (.tmp 125) (.tmp 126), none⟩,
          ⟨(some 128), .load 1 false (.tmp 127), none⟩,
          ⟨(some 129), .len (.tmp 128), none⟩,
          ⟨(some 130), .bin .lss (.tmp 124) (.tmp 129), none⟩] [5, 6, 15, 16, 17, 18, 19, 20, 21, 130])
      (.cond (.tmp 130)
       (.skip)
       (.exit 4)))
      (.seq (.block 5 (.seq (.reg [
           ⟨(some 133), .mv (.tmp 6), none⟩,
           ⟨(some 134), .mv (.tmp 20), none⟩,
           ⟨(some 135), .iaddr 1 (.tmp 133) (.tmp 134), none⟩,
           ⟨(some 136), .load 1 false (.tmp 135), none⟩,
           ⟨(some 137), .mv (.tmp 21), none⟩,
           ⟨(some 138), .iaddr 1 (.tmp 136) (.tmp 137), none⟩,
           ⟨(some 139), .load 1 false (.tmp 138), none⟩,
           ⟨(some 140), .mv (.tmp 15), none⟩,
           ⟨(some 141), .bin .eql (.tmp 139) (.tmp 140), none⟩] [5, 6, 15, 16, 17, 18, 19, 20, 21, 141])
       (.cond (.tmp 141)
        (.reg [
            ⟨(some 142), .mv (.tmp 19), none⟩,
            ⟨(some 143), .bin .add (.tmp 142) (.const (.int .i64 1)), none⟩,
            ⟨(some 19), .mv (.tmp 143), none⟩] [5, 6, 15, 16, 17, 18, 19, 20, 21])
        (.skip))))
      (.reg [
          ⟨(some 131), .mv (.tmp 21), none⟩,
          ⟨(some 132), .bin .add (.tmp 131) (.const (.int .i64 1)), none⟩,
          ⟨(some 21), .mv (.tmp 132), none⟩] [5, 6, 15, 16, 17, 18, 19, 20, 21])))))))
   (.reg [
       ⟨(some 122), .mv (.tmp 20), none⟩,
       ⟨(some 123), .bin .add (.tmp 122) (.const (.int .i64 1)), none⟩,
       ⟨(some 20), .mv (.tmp 123), none⟩] [5, 6, 15, 16, 17, 18, 19, 20]))))))
 (.seq (.seq (.reg [
     ⟨(some 144), .mv (.tmp 18), none⟩,
     ⟨(some 145), .bin .neq (.tmp 144) (.const (.int .i64 0)), none⟩] [5, 15, 16, 17, 18, 19, 145])
 (.cond (.tmp 145)
  (.seq (.reg [
      ⟨(some 146), .mv (.tmp 18), none⟩,
      ⟨(some 147), .bin .eql (.tmp 146) (.const (.int .i64 6)), none⟩,
      ⟨(some 148), .mv (.tmp 147), none⟩,
      ⟨(some 149), .faddr 1 (.tmp 5), (some (148, true))⟩,
      ⟨(some 150), .load 1 false (.tmp 149), (some (148, true))⟩,
      ⟨(some 151), .mv (.tmp 15), (some (148, true))⟩,
      ⟨(some 152), .iaddr 1 (.tmp 150) (.tmp 151), (some (148, true))⟩,
      ⟨(some 153), .load 1 false (.tmp 152), (some (148, true))⟩,
      ⟨(some 154), .qlen (.tmp 153), (some (148, true))⟩,
      ⟨(some 155), .faddr 0 (.tmp 5), (some (148, true))⟩,
      ⟨(some 156), .load 1 false (.tmp 155), (some (148, true))⟩,
      ⟨(some 157), .bin .eql (.tmp 154) (.tmp 156), (some (148, true))⟩,
      ⟨(some 158), .pick (.tmp 148) (.tmp 157) (.const (.bool false)), none⟩,
      ⟨(some 4), .mv (.tmp 158), none⟩] [4])
  (.ret))
  (.skip)))
 (.seq (.reg [
     ⟨(some 160), .load 2 true (.tmp 16), none⟩,
     ⟨(some 161), .call 11 [(.tmp 160), (.const (.int .i64 1000))], none⟩,
     ⟨(some 159), .mv (.tmp 161), none⟩,
     ⟨(some 162), .ext (.tmp 159) 0, none⟩,
     ⟨(some 163), .ext (.tmp 159) 1, none⟩,
     ⟨(some 22), .mv (.tmp 162), none⟩,
     ⟨(some 23), .mv (.tmp 163), none⟩] [16, 17, 19, 22, 23])
 (.seq (.reg [
     ⟨(some 164), .mv (.tmp 17), none⟩,
     ⟨(some 165), .len (.tmp 164), none⟩,
     ⟨(some 166), .faddr 1 (.tmp 16), none⟩,
     ⟨(some 167), .load 1 false (.tmp 166), none⟩,
     ⟨(some 168), .len (.tmp 167), none⟩,
     ⟨(some 169), .bin .eql (.tmp 165) (.tmp 168), none⟩,
     ⟨(some 170), .mv (.tmp 169), none⟩,
     ⟨(some 171), .mv (.tmp 23), (some (170, true))⟩,
     ⟨(some 172), .bin .eql (.tmp 171) (.const (.int .i64 5)), (some (170, true))⟩,
     ⟨(some 173), .mv (.tmp 172), (some (170, true))⟩,
     ⟨(some 174), .mv (.tmp 23), (some (173, false))⟩,
     ⟨(some 175), .bin .eql (.tmp 174) (.const (.int .i64 0)), (some (173, false))⟩,
     ⟨(some 176), .mv (.tmp 175), (some (173, false))⟩,
     ⟨(some 177), .mv (.tmp 22), (some (176, true))⟩,
     ⟨(some 178), .mv (.tmp 19), (some (176, true))⟩,
     ⟨(some 179), .bin .eql (.tmp 177) (.tmp 178), (some (176, true))⟩,
     ⟨(some 180), .pick (.tmp 176) (.tmp 179) (.const (.bool false)), (some (173, false))⟩,
     ⟨(some 181), .pick (.tmp 173) (.const (.bool true)) (.tmp 180), (some (170, true))⟩,
     ⟨(some 182), .pick (.tmp 170) (.tmp 181) (.const (.bool false)), none⟩,
     ⟨(some 4), .mv (.tmp 182), none⟩] [4])
 (.ret)))))))))))))))))))
theorem s_laws_FnCover : stripF Try.prog 4 [[0, 1], [0, 1, 26], [4], [1, 5], [1, 5, 6, 7], [1, 5, 6, 7, 8, 9], [1, 5, 6, 7, 8, 9, 10, 11], [1, 5, 6, 7, 8, 10, 51], [4], [1, 5, 6, 7, 8, 10, 53], [4], [1, 5, 6, 8, 10, 12, 13], [1, 5, 6, 87], [4], [1, 5, 6, 14], [1, 5, 6, 14], [1, 5, 6, 14, 91], [1, 5, 6, 14, 100], [4], [1, 5, 6, 14], [1, 5, 6, 104], [4], [5, 6, 15], [5, 6, 15, 16, 17, 18], [5, 6, 15, 16, 17, 18, 19], [5, 6, 15, 16, 17, 18, 19, 20], [5, 6, 15, 16, 17, 18, 19, 20], [5, 6, 15, 16, 17, 18, 19, 20, 121], [5, 6, 15, 16, 17, 18, 19, 20, 21], [5, 6, 15, 16, 17, 18, 19, 20, 21], [5, 6, 15, 16, 17, 18, 19, 20, 21, 130], [5, 6, 15, 16, 17, 18, 19, 20, 21, 141], [5, 6, 15, 16, 17, 18, 19, 20, 21], [5, 6, 15, 16, 17, 18, 19, 20, 21], [5, 6, 15, 16, 17, 18, 19, 20], [5, 15, 16, 17, 18, 19, 145], [4], [16, 17, 19, 22, 23], [4]] = some (c_laws_FnCover, [.tmp 4], 183) := by kernel_rfl
theorem ren_nmC {H : List Blk} {k : Nat} {js : List (Option Nat)} {r ver ty sz n : Nat} {cells cs : List AV} (hb : k ≤ r) (hj : some r ∉ js) (hr : H[r]? = some ⟨ver, ty, sz, cells⟩) (hl : cells.length = n * sz) (hcs : cs.length = cells.length)
    (h : ∀ (j : Nat) (c c' : AV), cells[j]? = some c → cs[j]? = some c' → Ren H k js c c') : Ren H k js (.nm r ver 0 n) (.il n cs) := by
  have hc : (cells.drop 0).take (n * sz) = cells := by rw [List.drop_zero]; exact List.take_of_length_le (by omega)
  exact .fz r ver 0 n _ cs hb hj hr rfl (by simp only [hc]; exact hcs) (fun j c c' g1 g2 => h j c c' (by simp only [hc] at g1; exact g1) g2)
theorem ren_ownSC {H : List Blk} {k t : Nat} {js : List (Option Nat)} {N : Nat → Prop} {c : AV} {xs : List Int} (h : OwnS H N t c xs) (hN : ∀ r, N r → k ≤ r ∧ some r ∉ js) : Ren H k js c (ilS xs) := by
  rcases h with ⟨r, ver, ty, rfl, h1, _, h3⟩ | ⟨rfl, rfl | rfl⟩
  · refine ren_nmC (hN r h1).1 (hN r h1).2 h3 (by simp) rfl fun j c c' g1 g2 => ?_
    rw [g1] at g2; cases g2
    obtain ⟨x, _, rfl⟩ := List.mem_map.1 (List.mem_of_getElem? g1)
    exact ren_I x
  · exact .nilF
  · exact ren_ilS []
theorem ren_ownSSC {H : List Blk} {k : Nat} {js : List (Option Nat)} {N : Nat → Prop} {v : AV} {xss : List (List Int)} (h : OwnSS H N v xss) (hN : ∀ r, N r → k ≤ r ∧ some r ∉ js) : Ren H k js v (ilSS xss) := by
  rcases h with ⟨t, ver, ty, cells, rfl, h1, h2, h3, h4, _⟩ | ⟨rfl, rfl | rfl⟩
  · refine ren_nmC (hN t h1).1 (hN t h1).2 h2 (by omega) (by rw [List.length_map]; omega) fun j c c' g1 g2 => ?_
    rw [List.getElem?_map] at g2
    cases hx : xss[j]? with
    | none => rw [hx] at g2; simp at g2
    | some xs => rw [hx] at g2; simp at g2; rw [← g2]; exact ren_ownSC (h4 j c xs g1 hx) hN
  · exact .nilF
  · exact ren_ilSS []
theorem renOk_two {H ext : List Blk} {s t v1 y1 z1 v2 y2 z2 : Nat} {c1 d1 c2 d2 : List AV} (hst : s ≠ t) (hs : H.length ≤ s) (ht : H.length ≤ t) (h1 : (H ++ ext)[s]? = some ⟨v1, y1, z1, c1⟩) (h2 : (H ++ ext)[t]? = some ⟨v2, y2, z2, c2⟩) (hz1 : z1 ≠ 0) (hz2 : z2 ≠ 0) (l1 : d1.length ≤ c1.length) (l2 : d2.length ≤ c2.length)
    (r1 : ∀ (i : Nat) (c c' : AV), c1[i]? = some c → d1[i]? = some c' → Ren (H ++ ext) H.length [some s, some t] c c') (r2 : ∀ (i : Nat) (c c' : AV), c2[i]? = some c → d2[i]? = some c' → Ren (H ++ ext) H.length [some s, some t] c c') : RenOk (H ++ ext) H.length [some s, some t] [⟨0, y1, z1, d1⟩, ⟨0, y2, z2, d2⟩] := by
  refine ⟨rfl, fun p q j hp hq => ?_, fun p j nb hp hn => ?_, fun p nb hp hn => ?_⟩
  · match p, q, hp, hq with
    | 0, 0, _, _ => rfl
    | 1, 1, _, _ => rfl
    | 0, 1, hp, hq => simp at hp hq; omega
    | 1, 0, hp, hq => simp at hp hq; omega
    | p + 2, _, hp, _ => simp at hp
    | 0, q + 2, _, hq => simp at hq
    | 1, q + 2, _, hq => simp at hq
  · match p, hp, hn with
    | 0, hp, hn =>
      simp at hp hn
      subst hp; subst hn
      refine ⟨_, hs, h1, hz1, rfl, rfl, rfl, l1, fun i c' hc' => ?_⟩
      have hi := (List.getElem?_eq_some_iff.1 hc').1
      exact ⟨_, List.getElem?_eq_getElem (show i < c1.length from Nat.lt_of_lt_of_le hi l1), r1 i _ _ (List.getElem?_eq_getElem _) hc'⟩
    | 1, hp, hn =>
      simp at hp hn
      subst hp; subst hn
      refine ⟨_, ht, h2, hz2, rfl, rfl, rfl, l2, fun i c' hc' => ?_⟩
      have hi := (List.getElem?_eq_some_iff.1 hc').1
      exact ⟨_, List.getElem?_eq_getElem (show i < c2.length from Nat.lt_of_lt_of_le hi l2), r2 i _ _ (List.getElem?_eq_getElem _) hc'⟩
    | p + 2, hp, _ => simp at hp
  · match p, hp with
    | 0, hp => simp at hp
    | 1, hp => simp at hp
    | p + 2, hp => simp at hp
theorem nodup_sub_lenC {A : Type} : ∀ {l m : List A}, l.Nodup → (∀ x ∈ l, x ∈ m) → l.length ≤ m.length
  | [], _, _, _ => Nat.zero_le _
  | a :: l, m, hn, hs => by
    rw [List.nodup_cons] at hn
    obtain ⟨s, t, rfl⟩ := List.append_of_mem (hs a (by simp))
    have := nodup_sub_lenC (l := l) (m := s ++ t) hn.2 (fun x hx => by
      have h1 := hs x (by simp [hx])
      rcases List.mem_append.1 h1 with h1 | h1
      · exact List.mem_append_left _ h1
      · rcases List.mem_cons.1 h1 with rfl | h1
        · exact absurd hx hn.1
        · exact List.mem_append_right _ h1)
    simp at this ⊢; omega
theorem full_len {n : Nat} {E : List Int} (hn : E.Nodup) (hr : ∀ x ∈ E, 0 ≤ x ∧ x < (n : Int)) (h : leftL n E = []) : E.length = n := by
  have h1 := nodup_bound n E hn hr
  have h2 : ((List.range n).map fun (i : Nat) => (i : Int)).length ≤ E.length := by
    refine nodup_sub_lenC ?_ fun x hx => ?_
    · unfold List.Nodup
      rw [List.pairwise_map]
      exact (List.nodup_range (n := n)).imp fun h e => h (by omega)
    · unfold leftL at h
      rw [List.filter_eq_nil_iff] at h
      have := h x hx
      simpa using this
  rw [List.length_map, List.length_range] at h2
  omega
theorem keptI_optsI (O : List (List Int)) (E : List Int) : (keptI O E).length = (optsI O E).length := by rw [kP_kept, kP_opts, List.length_map, List.length_map]
def wantW (l : List (List Int)) (j : Int) : Nat := (l.filter fun S => S.contains j).length
theorem wantW_le (l : List (List Int)) (j : Int) : wantW l j ≤ l.length := List.length_filter_le _ _
theorem count_one {j : Int} : ∀ {S : List Int}, S.Nodup → S.count j = if S.contains j = true then 1 else 0
  | [], _ => rfl
  | a :: S, h => by
    rw [List.nodup_cons] at h
    have ih := count_one (j := j) h.2
    by_cases ha : a = j
    · subst ha
      have h0 : S.contains a = false := by simpa using h.1
      rw [List.count_cons_self, ih, h0]; simp
    · rw [List.count_cons_of_ne ha, ih, List.contains_cons]
      have : (j == a) = false := by simp; omega
      rw [this, Bool.false_or]
theorem wantW_snoc (l : List (List Int)) (S : List Int) (j : Int) (h : S.Nodup) : wantW (l ++ [S]) j = wantW l j + S.count j := by
  unfold wantW
  rw [count_one h, List.filter_append, List.length_append]
  congr 1
  cases hc : S.contains j <;> simp only [List.filter_cons, List.filter_nil, hc, if_true, List.length_cons, List.length_nil, Bool.false_eq_true, if_false]
theorem lawFnCover_ok (H : List Blk) (ns ms : List Int) (hz : ∀ z ∈ ns, 0 ≤ z ∧ z < 256) (hy : ∀ z ∈ ms, 0 ≤ z ∧ z < 256) : ACalls Try.prog f_laws_FnCover [ilY ns, ilY ms] H (fun r _ => r = Bv true) := by
  have hbn := fun k => Bel_ilY k ns
  have hbm := fun k => Bel_ilY k ms
  have l1 := v8Long_fn ns ms
  cases hlg : decide ((1048576 : Int) < ns.length) || decide ((1048576 : Int) < ms.length)
  rotate_left
  · rw [hlg] at l1
    refine ACalls.introB s_laws_FnCover (by simp) ?_; intro hB hA; unfold c_laws_FnCover; simp (config := { maxSteps := 1000000 }) (disch := (first | omega | (simp only [go_sem]; try omega))) only [go_sem, Nat.reduceAdd, Nat.reduceEqDiff, Nat.reduceLeDiff, Nat.reduceMul, Nat.reduceLT, reduceIte, Int.reduceToNat, w64_id, cast_succ]
    repeat (first | (with_reducible first | refine SW.seq ?_ | refine SW.block ?_ | refine SW.rowC ?_ | refine SW.skip ?_ | refine SW.exit ?_ | refine PFn.use (l1) ?_ | refine PFn.useq (l1) ?_ | intro _ | refine And.intro (by omega) ?_) | simp (config := { maxSteps := 1000000 }) (disch := (first | omega | (simp only [go_sem]; try omega))) only [go_sem, Nat.reduceAdd, Nat.reduceEqDiff, Nat.reduceLeDiff, Nat.reduceMul, Nat.reduceLT, reduceIte, Int.reduceToNat, w64_id, cast_succ])
    refine SW.condT rfl ?_
    repeat (first | (with_reducible first | refine SW.seq ?_ | refine SW.block ?_ | refine SW.rowC ?_ | refine SW.skip ?_ | refine SW.exit ?_ | intro _ | refine And.intro (by omega) ?_) | simp (config := { maxSteps := 1000000 }) (disch := (first | omega | (simp only [go_sem]; try omega))) only [go_sem, Nat.reduceAdd, Nat.reduceEqDiff, Nat.reduceLeDiff, Nat.reduceMul, Nat.reduceLT, reduceIte, Int.reduceToNat, w64_id, cast_succ])
    refine SW.ret ?_; (try simp only [go_sem]); (first | refine FunPost.one ?_ | refine FunPost.two ?_ | refine FunPost.three ?_); (try simp (config := { maxSteps := 1000000 }) (disch := (first | omega | (simp only [go_sem]; try omega))) only [go_sem, Nat.reduceAdd, Nat.reduceEqDiff, Nat.reduceLeDiff, Nat.reduceMul, Nat.reduceLT, reduceIte, Int.reduceToNat, w64_id, cast_succ])
    exact GR.of rfl
  rw [hlg] at l1
  simp only [Bool.or_eq_false_iff, decide_eq_false_iff_not] at hlg
  refine ACalls.introB s_laws_FnCover (by simp) ?_; intro hB hA; unfold c_laws_FnCover; simp (config := { maxSteps := 1000000 }) (disch := (first | omega | (simp only [go_sem]; try omega))) only [go_sem, Nat.reduceAdd, Nat.reduceEqDiff, Nat.reduceLeDiff, Nat.reduceMul, Nat.reduceLT, reduceIte, Int.reduceToNat, w64_id, cast_succ]
  repeat (first | (with_reducible first | refine SW.seq ?_ | refine SW.block ?_ | refine SW.rowC ?_ | refine SW.skip ?_ | refine SW.exit ?_ | refine PFn.use (l1) ?_ | refine PFn.useq (l1) ?_ | intro _ | refine And.intro (by omega) ?_) | simp (config := { maxSteps := 1000000 }) (disch := (first | omega | (simp only [go_sem]; try omega))) only [go_sem, Nat.reduceAdd, Nat.reduceEqDiff, Nat.reduceLeDiff, Nat.reduceMul, Nat.reduceLT, reduceIte, Int.reduceToNat, w64_id, cast_succ])
  refine SW.condF rfl ?_
  repeat (first | (with_reducible first | refine SW.seq ?_ | refine SW.block ?_ | refine SW.rowC ?_ | refine SW.skip ?_ | refine SW.exit ?_ | intro _ | refine And.intro (by omega) ?_) | simp (config := { maxSteps := 1000000 }) (disch := (first | omega | (simp only [go_sem]; try omega))) only [go_sem, Nat.reduceAdd, Nat.reduceEqDiff, Nat.reduceLeDiff, Nat.reduceMul, Nat.reduceLT, reduceIte, Int.reduceToNat, w64_id, cast_succ])
  refine (V8Cover_ok _ ns hz (by omega)).mono ?_
  rintro r H1 ⟨n, O, rfl, hO, hsm, rfl⟩
  have hx := smallD_wf hsm
  have nd := implNodes_fn (n : Int) O 1000 hx
  have ac := AllCovers_fn n O hx hO
  have hbud : (decide ((1 : Int) ≤ 1000) && decide ((1000 : Int) ≤ 20000)) = true := rfl
  cases hs : acE O n
  rotate_left
  · have hcs : (cvS O n false 1000).spent = true := hs
    have hnn : nnV (n : Int) O 1000 = (0, 5) := by
      unfold nnV
      rw [hO, if_neg (by simp), hbud, if_neg (by simp), Int.toNat_natCast]
      exact if_pos hcs
    have cc := CountCovers_fn n O hx hO
    rw [hnn] at nd
    rw [hs] at ac cc
    simp only [if_true, List.length_nil] at ac cc
    repeat (first | (with_reducible first | refine SW.seq ?_ | refine SW.block ?_ | refine SW.rowC ?_ | refine SW.skip ?_ | refine SW.exit ?_ | refine PFn.use (ac) ?_ | refine PFn.useq (ac) ?_ | refine PFn.use (cc) ?_ | refine PFn.useq (cc) ?_ | refine PFn.use (nd) ?_ | refine PFn.useq (nd) ?_ | intro _ | refine And.intro (by omega) ?_) | simp (config := { maxSteps := 1000000 }) (disch := (first | omega | (simp only [go_sem]; try omega))) only [go_sem, Nat.reduceAdd, Nat.reduceEqDiff, Nat.reduceLeDiff, Nat.reduceMul, Nat.reduceLT, reduceIte, Int.reduceToNat, w64_id, cast_succ])
    refine SW.condF rfl ?_
    repeat (first | (with_reducible first | refine SW.seq ?_ | refine SW.block ?_ | refine SW.rowC ?_ | refine SW.skip ?_ | refine SW.exit ?_ | intro _ | refine And.intro (by omega) ?_) | simp (config := { maxSteps := 1000000 }) (disch := (first | omega | (simp only [go_sem]; try omega))) only [go_sem, Nat.reduceAdd, Nat.reduceEqDiff, Nat.reduceLeDiff, Nat.reduceMul, Nat.reduceLT, reduceIte, Int.reduceToNat, w64_id, cast_succ])
    refine SW.condT rfl ?_
    repeat (first | (with_reducible first | refine SW.seq ?_ | refine SW.block ?_ | refine SW.rowC ?_ | refine SW.skip ?_ | refine SW.exit ?_ | intro _ | refine And.intro (by omega) ?_) | simp (config := { maxSteps := 1000000 }) (disch := (first | omega | (simp only [go_sem]; try omega))) only [go_sem, Nat.reduceAdd, Nat.reduceEqDiff, Nat.reduceLeDiff, Nat.reduceMul, Nat.reduceLT, reduceIte, Int.reduceToNat, w64_id, cast_succ])
    refine SW.ret ?_; (try simp only [go_sem]); (first | refine FunPost.one ?_ | refine FunPost.two ?_ | refine FunPost.three ?_); (try simp (config := { maxSteps := 1000000 }) (disch := (first | omega | (simp only [go_sem]; try omega))) only [go_sem, Nat.reduceAdd, Nat.reduceEqDiff, Nat.reduceLeDiff, Nat.reduceMul, Nat.reduceLT, reduceIte, Int.reduceToNat, w64_id, cast_succ])
    exact GR.of rfl
  have hcs : ¬ (cvS O n false 1000).spent = true := by unfold acE at hs; rw [hs]; simp
  have hnp := nodes_pos hs
  obtain ⟨nn, hnn, hn1⟩ : ∃ k : Nat, nnV (n : Int) O 1000 = ((k : Int), 0) ∧ 1 ≤ k := by
    refine ⟨1000 - (cvS O n false 1000).left, ?_, hnp⟩
    unfold nnV
    rw [hO, if_neg (by simp), hbud, if_neg (by simp), Int.toNat_natCast]
    exact if_neg hcs
  have cc := CountCovers_fn n O hx hO
  have fc := FirstCover_fn n O hx hO hs
  have hLl := sols_few hs
  have hLm := fun S => solsAll_mem (S := S) hO
  have hfc : fcV O n = match solsAll O n with | [] => ([], 3) | x :: _ => (x, 0) := rfl
  have hrc : ∀ o : Nat, o < O.length → 1 ≤ cntL (O.getD o []) n → _ := fun o h1 h2 => rest_count (n := n) (o := (o : Int)) hO (by omega) (by omega) (by rw [Int.toNat_natCast]; exact h2)
  rw [hnn] at nd
  rw [hs] at ac cc
  simp only [Bool.false_eq_true, if_false] at ac cc
  generalize solsAll O n = L at *
  have dn : decide ((nn : Int) < 1) = false := decide_eq_false (by omega)
  have d0 : ∀ x : Int, decide (x = x) = true := fun x => by simp
  have hfirst : (L = [] ∧ fcV O n = ([], 3)) ∨ (∃ x, 0 < L.length ∧ L.getD 0 [] = x ∧ fcV O n = (x, 0)) := by
    cases L with
    | nil => exact .inl ⟨rfl, hfc⟩
    | cons x L => exact .inr ⟨x, by simp, rfl, hfc⟩
  clear hfc
  rcases hfirst with ⟨hL0, hfc⟩ | ⟨x, hLp, hx0, hfc⟩
  · rw [hfc] at fc
    have dL : decide ((L.length : Int) = 0) = true := decide_eq_true (by rw [hL0]; rfl)
    have d30 : decide ((3 : Int) = 0) = false := rfl
    repeat (first | (with_reducible first | refine SW.seq ?_ | refine SW.block ?_ | refine SW.rowC ?_ | refine SW.skip ?_ | refine SW.exit ?_ | refine PFn.use (ac) ?_ | refine PFn.useq (ac) ?_ | refine PFn.use (cc) ?_ | refine PFn.useq (cc) ?_ | refine PFn.use (nd) ?_ | refine PFn.useq (nd) ?_ | refine PFn.use (fc) ?_ | refine PFn.useq (fc) ?_ | intro _ | refine And.intro (by omega) ?_) | simp (config := { maxSteps := 1000000 }) (disch := (first | omega | (simp only [go_sem]; try omega))) only [go_sem, Nat.reduceAdd, Nat.reduceEqDiff, Nat.reduceLeDiff, Nat.reduceMul, Nat.reduceLT, reduceIte, Int.reduceToNat, w64_id, cast_succ, d0, dn])
    refine SW.condF rfl ?_
    repeat (first | (with_reducible first | refine SW.seq ?_ | refine SW.block ?_ | refine SW.rowC ?_ | refine SW.skip ?_ | refine SW.exit ?_ | intro _ | refine And.intro (by omega) ?_) | simp (config := { maxSteps := 1000000 }) (disch := (first | omega | (simp only [go_sem]; try omega))) only [go_sem, Nat.reduceAdd, Nat.reduceEqDiff, Nat.reduceLeDiff, Nat.reduceMul, Nat.reduceLT, reduceIte, Int.reduceToNat, w64_id, cast_succ])
    refine SW.condF rfl ?_
    repeat (first | (with_reducible first | refine SW.seq ?_ | refine SW.block ?_ | refine SW.rowC ?_ | refine SW.skip ?_ | refine SW.exit ?_ | refine PFn.use (fc) ?_ | refine PFn.useq (fc) ?_ | intro _ | refine And.intro (by omega) ?_) | simp (config := { maxSteps := 1000000 }) (disch := (first | omega | (simp only [go_sem]; try omega))) only [go_sem, Nat.reduceAdd, Nat.reduceEqDiff, Nat.reduceLeDiff, Nat.reduceMul, Nat.reduceLT, reduceIte, Int.reduceToNat, w64_id, cast_succ, d0, dn, dL, d30])
    refine SW.condF rfl ?_
    repeat (first | (with_reducible first | refine SW.seq ?_ | refine SW.block ?_ | refine SW.rowC ?_ | refine SW.skip ?_ | refine SW.exit ?_ | intro _ | refine And.intro (by omega) ?_) | simp (config := { maxSteps := 1000000 }) (disch := (first | omega | (simp only [go_sem]; try omega))) only [go_sem, Nat.reduceAdd, Nat.reduceEqDiff, Nat.reduceLeDiff, Nat.reduceMul, Nat.reduceLT, reduceIte, Int.reduceToNat, w64_id, cast_succ])
    refine SW.loopE (fun E0 H0 q E' X => ∃ (pre post : List (List Int)), L = pre ++ post ∧ q = post.length ∧ E' = aput E0 14 (I pre.length) ∧ X = H1 ++ [⟨0, tyCover, 1, [I n, ilSS O]⟩]) L.length ⟨[], L, rfl, rfl, rfl, rfl⟩ ?_
    rintro q E' X ⟨pre, post, hq, rfl, rfl, rfl⟩
    simp (config := { maxSteps := 1000000 }) (disch := (first | omega | (simp only [go_sem]; try omega))) only [go_sem, Nat.reduceAdd, Nat.reduceEqDiff, Nat.reduceLeDiff, Nat.reduceMul, Nat.reduceLT, reduceIte, Int.reduceToNat, w64_id, cast_succ]
    repeat (first | (with_reducible first | refine SW.seq ?_ | refine SW.block ?_ | refine SW.rowC ?_ | refine SW.skip ?_ | refine SW.exit ?_ | intro _ | refine And.intro (by omega) ?_) | simp (config := { maxSteps := 1000000 }) (disch := (first | omega | (simp only [go_sem]; try omega))) only [go_sem, Nat.reduceAdd, Nat.reduceEqDiff, Nat.reduceLeDiff, Nat.reduceMul, Nat.reduceLT, reduceIte, Int.reduceToNat, w64_id, cast_succ])
    (first | refine SW.condD rfl (fun h3 => ?_) (fun h3 => ?_) | refine SW.condN rfl (fun h3 => ?_) (fun h3 => ?_) | refine SW.condNB rfl (fun h3 => ?_) (fun h3 => ?_) | refine SW.condB rfl (fun h3 => ?_) (fun h3 => ?_))
    · obtain ⟨S, post, rfl, hg, -⟩ := consOf (d := []) hq (by omega)
      have hS := (hLm S).1 (by rw [hq]; simp)
      have hOl := (coverOk_facts hO).2.2.1
      have ic := implIsCover_fn (n : Int) O S hx (fun k hk => wfOfD (by have := hS.idx k hk; omega)) (by omega)
      rw [sol_cover hO hS] at ic
      repeat (first | (with_reducible first | refine SW.seq ?_ | refine SW.block ?_ | refine SW.rowC ?_ | refine SW.skip ?_ | refine SW.exit ?_ | refine PFn.use (ic) ?_ | refine PFn.useq (ic) ?_ | intro _ | refine And.intro (by omega) ?_) | simp (config := { maxSteps := 1000000 }) (disch := (first | omega | (simp only [go_sem]; try omega))) only [go_sem, Nat.reduceAdd, Nat.reduceEqDiff, Nat.reduceLeDiff, Nat.reduceMul, Nat.reduceLT, reduceIte, Int.reduceToNat, w64_id, cast_succ, hg])
      refine SW.condF rfl ?_
      repeat (first | (with_reducible first | refine SW.seq ?_ | refine SW.block ?_ | refine SW.rowC ?_ | refine SW.skip ?_ | refine SW.exit ?_ | intro _ | refine And.intro (by omega) ?_) | simp (config := { maxSteps := 1000000 }) (disch := (first | omega | (simp only [go_sem]; try omega))) only [go_sem, Nat.reduceAdd, Nat.reduceEqDiff, Nat.reduceLeDiff, Nat.reduceMul, Nat.reduceLT, reduceIte, Int.reduceToNat, w64_id, cast_succ])
      exact SLoop.next post.length (by simp) ⟨pre ++ [S], post, by simp [hq], rfl, by simp [go_sem], rfl⟩
    obtain ⟨hpe, rfl⟩ := nilOf hq (by omega)
    clear hpe hq
    by_cases hOz : O.length = 0
    · have dO : decide ((O.length : Int) = 0) = true := decide_eq_true (by omega)
      repeat (first | (with_reducible first | refine SW.seq ?_ | refine SW.block ?_ | refine SW.rowC ?_ | refine SW.skip ?_ | refine SW.exit ?_ | intro _ | refine And.intro (by omega) ?_) | simp (config := { maxSteps := 1000000 }) (disch := (first | omega | (simp only [go_sem]; try omega))) only [go_sem, Nat.reduceAdd, Nat.reduceEqDiff, Nat.reduceLeDiff, Nat.reduceMul, Nat.reduceLT, reduceIte, Int.reduceToNat, w64_id, cast_succ, dO])
      refine SW.condT rfl ?_
      repeat (first | (with_reducible first | refine SW.seq ?_ | refine SW.block ?_ | refine SW.rowC ?_ | refine SW.skip ?_ | refine SW.exit ?_ | intro _ | refine And.intro (by omega) ?_) | simp (config := { maxSteps := 1000000 }) (disch := (first | omega | (simp only [go_sem]; try omega))) only [go_sem, Nat.reduceAdd, Nat.reduceEqDiff, Nat.reduceLeDiff, Nat.reduceMul, Nat.reduceLT, reduceIte, Int.reduceToNat, w64_id, cast_succ])
      refine SW.ret ?_; (try simp only [go_sem]); (first | refine FunPost.one ?_ | refine FunPost.two ?_ | refine FunPost.three ?_); (try simp (config := { maxSteps := 1000000 }) (disch := (first | omega | (simp only [go_sem]; try omega))) only [go_sem, Nat.reduceAdd, Nat.reduceEqDiff, Nat.reduceLeDiff, Nat.reduceMul, Nat.reduceLT, reduceIte, Int.reduceToNat, w64_id, cast_succ])
      exact GR.of rfl
    have dO : decide ((O.length : Int) = 0) = false := decide_eq_false (by omega)
    repeat (first | (with_reducible first | refine SW.seq ?_ | refine SW.block ?_ | refine SW.rowC ?_ | refine SW.skip ?_ | refine SW.exit ?_ | intro _ | refine And.intro (by omega) ?_) | simp (config := { maxSteps := 1000000 }) (disch := (first | omega | (simp only [go_sem]; try omega))) only [go_sem, Nat.reduceAdd, Nat.reduceEqDiff, Nat.reduceLeDiff, Nat.reduceMul, Nat.reduceLT, reduceIte, Int.reduceToNat, w64_id, cast_succ, dO])
    refine SW.condF rfl ?_
    repeat (first | (with_reducible first | refine SW.seq ?_ | refine SW.block ?_ | refine SW.rowC ?_ | refine SW.skip ?_ | refine SW.exit ?_ | intro _ | refine And.intro (by omega) ?_) | simp (config := { maxSteps := 1000000 }) (disch := (first | omega | (simp only [go_sem]; try omega))) only [go_sem, Nat.reduceAdd, Nat.reduceEqDiff, Nat.reduceLeDiff, Nat.reduceMul, Nat.reduceLT, reduceIte, Int.reduceToNat, w64_id, cast_succ])
    refine (v8At_ok _ ms O.length hy (by omega) (by omega) (by have := (coverOk_facts hO).2.2.1; omega)).mono ?_
    rintro r X ⟨rfl, j, rfl, hj⟩
    repeat (first | (with_reducible first | refine SW.seq ?_ | refine SW.block ?_ | refine SW.rowC ?_ | refine SW.skip ?_ | refine SW.exit ?_ | intro _ | refine And.intro (by omega) ?_) | simp (config := { maxSteps := 1000000 }) (disch := (first | omega | (simp only [go_sem]; try omega))) only [go_sem, Nat.reduceAdd, Nat.reduceEqDiff, Nat.reduceLeDiff, Nat.reduceMul, Nat.reduceLT, reduceIte, Int.reduceToNat, w64_id, cast_succ])
    have hwj : ∀ x ∈ [(j : Int)], (Lit.int .i64 x).wf = true := fun x hx => by rw [List.mem_singleton.1 hx]; exact wfOfD (by have := (coverOk_facts hO).2.2.1; omega)
    refine (implRest_lend (n : Int) O [(j : Int)] hx hwj (by have := (coverOk_facts hO).2.2.1; omega) (.cons (froz_agg2 (froz_I' _) (froz_ilSS _)) (.cons (froz_rowI (r := H1.length + 1) (ver := 0) (ty := 2) (xs := [(j : Int)]) (Nat.zero_le _) (by simp)) .nil))).mono ?_
    rintro r X ⟨ext, rv, ru, q, hX, rfl, q1, q2, orv, oru⟩
    have hXl : H1.length + 2 ≤ X.length := by rw [hX]; simp
    have hbx : X[H1.length]? = some ⟨0, tyCover, 1, [I n, ilSS O]⟩ := by rw [hX]; simp
    have hrone : rv.cell1 = true ∧ partsOf rv = [rv] := by rcases orv with ⟨t', ver', ty', cs, rfl, _⟩ | ⟨_, rfl | rfl⟩ <;> exact ⟨rfl, rfl⟩
    have huone : ru.cell1 = true ∧ partsOf ru = [ru] := by rcases oru with ⟨r, ver, ty, rfl, _⟩ | ⟨_, rfl | rfl⟩ <;> exact ⟨rfl, rfl⟩
    repeat (first | (with_reducible first | refine SW.seq ?_ | refine SW.block ?_ | refine SW.rowC ?_ | refine SW.skip ?_ | refine SW.exit ?_ | intro _ | refine And.intro (by omega) ?_) | simp (config := { maxSteps := 1000000 }) (disch := (first | omega | (simp only [go_sem]; try omega))) only [go_sem, Nat.reduceAdd, Nat.reduceEqDiff, Nat.reduceLeDiff, Nat.reduceMul, Nat.reduceLT, reduceIte, Int.reduceToNat, w64_id, cast_succ, hrone.1, hrone.2, huone.1, huone.2])
    generalize hV : rcV (n : Int) O [(j : Int)] = V at *
    obtain ⟨⟨vn, vO⟩, vk, vc⟩ := V
    have hbx2 : (X ++ [(⟨0, tyCover, 1, [I vn, rv]⟩ : Blk)])[X.length]? = some ⟨0, tyCover, 1, [I vn, rv]⟩ := by simp
    replace hbx := get_appB2 hbx [(⟨0, tyCover, 1, [I vn, rv]⟩ : Blk)]
    replace orv := orv.append [(⟨0, tyCover, 1, [I vn, rv]⟩ : Blk)]
    replace oru : OwnS (X ++ [(⟨0, tyCover, 1, [I vn, rv]⟩ : Blk)]) (Btw (H1 ++ [(⟨0, tyCover, 1, [I n, ilSS O]⟩ : Blk), ⟨0, 2, 1, [I j]⟩]).length q) X.length ru vk := oru.same (fun j b _ _ hb => get_appB2 hb _)
    obtain ⟨ext2, he2⟩ : ∃ e, X ++ [(⟨0, tyCover, 1, [I vn, rv]⟩ : Blk)] = H1 ++ e := ⟨_, by rw [hX, List.append_assoc, List.append_assoc]⟩
    have hlq : (H1 ++ [(⟨0, tyCover, 1, [I n, ilSS O]⟩ : Blk), ⟨0, 2, 1, [I j]⟩]).length = H1.length + 2 := by simp
    rw [hlq] at q1 oru
    have hgx : X.length = X.length := rfl
    generalize hxl : X.length = xl at *
    rw [he2] at hbx hbx2 orv oru ⊢
    refine SW.renK (js := [some H1.length, some xl]) (H2 := [⟨0, tyCover, 1, [I n, ilSS O]⟩, ⟨0, tyCover, 1, [I vn, ilSS vO]⟩]) (E' := [(5, .pc H1.length 0 0), (6, ilSS pre), (15, I j), (16, .pc (H1.length + 1) 0 0), (17, ilS vk), (18, I vc), (19, I 0), (20, I 0)]) hB (Nat.le_refl _)
      (renOk_two (by omega) (Nat.le_refl _) (by omega) hbx hbx2 (by omega) (by omega) (Nat.le_refl _) (Nat.le_refl _) (fun i c c' g1 g2 => ?_) (fun i c c' g1 g2 => ?_))
      (.cons _ (.pc 0 H1.length 0 0 _ rfl hbx rfl) (.cons _ (ren_ilSS _) (.cons _ (ren_I _) (.cons _ (.pc 1 xl 0 0 _ rfl hbx2 rfl) (.cons _ (ren_ownSC oru (fun r hr => ⟨by have := hr.1; omega, by have := hr.1; have := hr.2; simp; omega⟩)) (.cons _ (ren_I _) (.cons _ (ren_I _) (.cons _ (ren_I _) .nil)))))))) ?_
    · rw [g1] at g2; cases g2
      match i, g1 with
      | 0, g1 => cases g1; exact ren_I _
      | 1, g1 => cases g1; exact ren_ilSS _
      | i + 2, g1 => simp at g1
    · match i, g1, g2 with
      | 0, g1, g2 => cases g1; cases g2; exact ren_I _
      | 1, g1, g2 => cases g1; cases g2; exact ren_ownSSC orv (fun r hr => ⟨by have := hr.1; omega, by have := hr.1; have := hr.2; simp; omega⟩)
      | i + 2, g1, g2 => simp at g1
    clear hbx hbx2 orv oru he2 hX
    repeat (first | (with_reducible first | refine SW.seq ?_ | refine SW.block ?_ | refine SW.rowC ?_ | refine SW.skip ?_ | refine SW.exit ?_ | intro _ | refine And.intro (by omega) ?_) | simp (config := { maxSteps := 1000000 }) (disch := (first | omega | (simp only [go_sem]; try omega))) only [go_sem, Nat.reduceAdd, Nat.reduceEqDiff, Nat.reduceLeDiff, Nat.reduceMul, Nat.reduceLT, reduceIte, Int.reduceToNat, w64_id, cast_succ])
    have hnd : ∀ S ∈ pre, S.Nodup := fun S hS => inc_nodup ((hLm S).1 hS).inc
    have hsl : ∀ S ∈ pre, S.length ≤ 1000 := fun S hS => by
      have hi := ((hLm S).1 hS).idx
      have := nodup_bound O.length S (hnd S hS) hi
      have := (coverOk_facts hO).2.2.1
      omega
    refine SW.loopE (fun E0 H0 q E' Z => ∃ (pr po : List (List Int)), pre = pr ++ po ∧ q = po.length ∧ E' = aput (aput E0 20 (I pr.length)) 19 (I (wantW pr j)) ∧ Z = H1 ++ [⟨0, tyCover, 1, [I n, ilSS O]⟩, ⟨0, tyCover, 1, [I vn, ilSS vO]⟩]) pre.length ⟨[], pre, rfl, rfl, by simp [go_sem, wantW], rfl⟩ ?_
    rintro q' E' Z ⟨pr, po, hp2, rfl, rfl, rfl⟩
    have hwl := wantW_le pr (j : Int)
    simp (config := { maxSteps := 1000000 }) (disch := (first | omega | (simp only [go_sem]; try omega))) only [go_sem, Nat.reduceAdd, Nat.reduceEqDiff, Nat.reduceLeDiff, Nat.reduceMul, Nat.reduceLT, reduceIte, Int.reduceToNat, w64_id, cast_succ]
    repeat (first | (with_reducible first | refine SW.seq ?_ | refine SW.block ?_ | refine SW.rowC ?_ | refine SW.skip ?_ | refine SW.exit ?_ | intro _ | refine And.intro (by omega) ?_) | simp (config := { maxSteps := 1000000 }) (disch := (first | omega | (simp only [go_sem]; try omega))) only [go_sem, Nat.reduceAdd, Nat.reduceEqDiff, Nat.reduceLeDiff, Nat.reduceMul, Nat.reduceLT, reduceIte, Int.reduceToNat, w64_id, cast_succ])
    (first | refine SW.condD rfl (fun h4 => ?_) (fun h4 => ?_) | refine SW.condN rfl (fun h4 => ?_) (fun h4 => ?_) | refine SW.condNB rfl (fun h4 => ?_) (fun h4 => ?_) | refine SW.condB rfl (fun h4 => ?_) (fun h4 => ?_))
    · obtain ⟨S, po, rfl, hgS, -⟩ := consOf (d := []) hp2 (by omega)
      have hSm : S ∈ pre := by rw [hp2]; simp
      have hSn := hnd S hSm
      have hSl := hsl S hSm
      repeat (first | (with_reducible first | refine SW.seq ?_ | refine SW.block ?_ | refine SW.rowC ?_ | refine SW.skip ?_ | refine SW.exit ?_ | intro _ | refine And.intro (by omega) ?_) | simp (config := { maxSteps := 1000000 }) (disch := (first | omega | (simp only [go_sem]; try omega))) only [go_sem, Nat.reduceAdd, Nat.reduceEqDiff, Nat.reduceLeDiff, Nat.reduceMul, Nat.reduceLT, reduceIte, Int.reduceToNat, w64_id, cast_succ, hgS])
      refine SW.loopE (fun E0 H0 q E' Z => ∃ (a b : List Int), S = a ++ b ∧ q = b.length ∧ E' = aput (aput E0 21 (I a.length)) 19 (I (wantW pr j + a.count (j : Int) : Nat)) ∧ Z = H1 ++ [⟨0, tyCover, 1, [I n, ilSS O]⟩, ⟨0, tyCover, 1, [I vn, ilSS vO]⟩]) S.length ⟨[], S, rfl, rfl, by simp [go_sem], rfl⟩ ?_
      rintro q'' E' Z ⟨a, b, hab, rfl, rfl, rfl⟩
      have hca : a.count (j : Int) ≤ a.length := List.count_le_length
      have hal : a.length ≤ S.length := by rw [hab]; simp
      simp (config := { maxSteps := 1000000 }) (disch := (first | omega | (simp only [go_sem]; try omega))) only [go_sem, Nat.reduceAdd, Nat.reduceEqDiff, Nat.reduceLeDiff, Nat.reduceMul, Nat.reduceLT, reduceIte, Int.reduceToNat, w64_id, cast_succ]
      repeat (first | (with_reducible first | refine SW.seq ?_ | refine SW.block ?_ | refine SW.rowC ?_ | refine SW.skip ?_ | refine SW.exit ?_ | intro _ | refine And.intro (by omega) ?_) | simp (config := { maxSteps := 1000000 }) (disch := (first | omega | (simp only [go_sem]; try omega))) only [go_sem, Nat.reduceAdd, Nat.reduceEqDiff, Nat.reduceLeDiff, Nat.reduceMul, Nat.reduceLT, reduceIte, Int.reduceToNat, w64_id, cast_succ, hgS])
      (first | refine SW.condD rfl (fun h5 => ?_) (fun h5 => ?_) | refine SW.condN rfl (fun h5 => ?_) (fun h5 => ?_) | refine SW.condNB rfl (fun h5 => ?_) (fun h5 => ?_) | refine SW.condB rfl (fun h5 => ?_) (fun h5 => ?_))
      · obtain ⟨y, b, rfl, hgy, -⟩ := consOf (d := (0 : Int)) hab (by omega)
        by_cases hyj : y = (j : Int)
        · have d9 := decide_eq_true hyj
          repeat (first | (with_reducible first | refine SW.seq ?_ | refine SW.block ?_ | refine SW.rowC ?_ | refine SW.skip ?_ | refine SW.exit ?_ | intro _ | refine And.intro (by omega) ?_) | simp (config := { maxSteps := 1000000 }) (disch := (first | omega | (simp only [go_sem]; try omega))) only [go_sem, Nat.reduceAdd, Nat.reduceEqDiff, Nat.reduceLeDiff, Nat.reduceMul, Nat.reduceLT, reduceIte, Int.reduceToNat, w64_id, cast_succ, hgS, hgy, d9])
          refine SW.condT rfl ?_
          repeat (first | (with_reducible first | refine SW.seq ?_ | refine SW.block ?_ | refine SW.rowC ?_ | refine SW.skip ?_ | refine SW.exit ?_ | intro _ | refine And.intro (by omega) ?_) | simp (config := { maxSteps := 1000000 }) (disch := (first | omega | (simp only [go_sem]; try omega))) only [go_sem, Nat.reduceAdd, Nat.reduceEqDiff, Nat.reduceLeDiff, Nat.reduceMul, Nat.reduceLT, reduceIte, Int.reduceToNat, w64_id, cast_succ])
          have hcy : (a ++ [y]).count (j : Int) = a.count (j : Int) + 1 := by rw [List.count_append, hyj]; simp
          exact SLoop.next b.length (by simp) ⟨a ++ [y], b, by rw [hab]; simp, rfl, by rw [hcy, ← Nat.add_assoc]; simp [go_sem], rfl⟩
        · have d9 := decide_eq_false hyj
          repeat (first | (with_reducible first | refine SW.seq ?_ | refine SW.block ?_ | refine SW.rowC ?_ | refine SW.skip ?_ | refine SW.exit ?_ | intro _ | refine And.intro (by omega) ?_) | simp (config := { maxSteps := 1000000 }) (disch := (first | omega | (simp only [go_sem]; try omega))) only [go_sem, Nat.reduceAdd, Nat.reduceEqDiff, Nat.reduceLeDiff, Nat.reduceMul, Nat.reduceLT, reduceIte, Int.reduceToNat, w64_id, cast_succ, hgS, hgy, d9])
          refine SW.condF rfl ?_
          repeat (first | (with_reducible first | refine SW.seq ?_ | refine SW.block ?_ | refine SW.rowC ?_ | refine SW.skip ?_ | refine SW.exit ?_ | intro _ | refine And.intro (by omega) ?_) | simp (config := { maxSteps := 1000000 }) (disch := (first | omega | (simp only [go_sem]; try omega))) only [go_sem, Nat.reduceAdd, Nat.reduceEqDiff, Nat.reduceLeDiff, Nat.reduceMul, Nat.reduceLT, reduceIte, Int.reduceToNat, w64_id, cast_succ])
          have hcy : (a ++ [y]).count (j : Int) = a.count (j : Int) := by rw [List.count_append, List.count_singleton, if_neg (by simpa using fun h => hyj h), Nat.add_zero]
          exact SLoop.next b.length (by simp) ⟨a ++ [y], b, by rw [hab]; simp, rfl, by rw [hcy]; simp [go_sem], rfl⟩
      · obtain ⟨hae, rfl⟩ := nilOf hab (by omega)
        have hws := wantW_snoc pr a (j : Int) (by first | exact hSn | (rw [← hae]; exact hSn))
        repeat (first | (with_reducible first | refine SW.seq ?_ | refine SW.block ?_ | refine SW.rowC ?_ | refine SW.skip ?_ | refine SW.exit ?_ | intro _ | refine And.intro (by omega) ?_) | simp (config := { maxSteps := 1000000 }) (disch := (first | omega | (simp only [go_sem]; try omega))) only [go_sem, Nat.reduceAdd, Nat.reduceEqDiff, Nat.reduceLeDiff, Nat.reduceMul, Nat.reduceLT, reduceIte, Int.reduceToNat, w64_id, cast_succ])
        exact SLoop.next po.length (by simp) ⟨pr ++ [a], po, by first | (rw [hp2]; simp; done) | (rw [hp2, hae]; simp), rfl, by rw [hws]; simp [go_sem], rfl⟩
    obtain ⟨hpe2, rfl⟩ := nilOf hp2 (by omega)
    repeat (first | (with_reducible first | refine SW.seq ?_ | refine SW.block ?_ | refine SW.rowC ?_ | refine SW.skip ?_ | refine SW.exit ?_ | intro _ | refine And.intro (by omega) ?_) | simp (config := { maxSteps := 1000000 }) (disch := (first | omega | (simp only [go_sem]; try omega))) only [go_sem, Nat.reduceAdd, Nat.reduceEqDiff, Nat.reduceLeDiff, Nat.reduceMul, Nat.reduceLT, reduceIte, Int.reduceToNat, w64_id, cast_succ])
    have hitem : itemsOf O [(j : Int)] = O.getD j [] := by simp [itemsOf]
    have hEn : (O.getD j []).Nodup := by have := opt_nodup (o := (j : Int)) hO (by omega) (by omega); rwa [Int.toNat_natCast] at this
    have hasc : asc 0 ((O.length : Int) - 1) [(j : Int)] = true := asc_ofC (by simp) (fun x hx => by rw [List.mem_singleton.1 hx]; omega)
    unfold rcV at hV
    rw [hO, hasc, hitem, Int.toNat_natCast] at hV
    simp only [Bool.not_true, Bool.false_eq_true, if_false, not_true_eq_false, hEn, false_or] at hV
    by_cases hE : leftL n (O.getD j []) = []
    · rw [if_pos hE] at hV
      cases hV
      have hEr : ∀ x ∈ O.getD j [], 0 ≤ x ∧ x < (n : Int) := fun x hx => items_rng (S := [(j : Int)]) hO (by rw [hitem]; exact hx)
      have hEl := full_len hEn hEr hE
      have d66 : decide ((6 : Int) = 6) = true := rfl
      have dEl : decide (((O.getD j []).length : Int) = (n : Int)) = true := decide_eq_true (by omega)
      refine SW.condT rfl ?_
      repeat (first | (with_reducible first | refine SW.seq ?_ | refine SW.block ?_ | refine SW.rowC ?_ | refine SW.skip ?_ | refine SW.exit ?_ | intro _ | refine And.intro (by omega) ?_) | simp (config := { maxSteps := 1000000 }) (disch := (first | omega | (simp only [go_sem]; try omega))) only [go_sem, Nat.reduceAdd, Nat.reduceEqDiff, Nat.reduceLeDiff, Nat.reduceMul, Nat.reduceLT, reduceIte, Int.reduceToNat, w64_id, cast_succ, d66, dEl])
      refine SW.ret ?_; (try simp only [go_sem]); (first | refine FunPost.one ?_ | refine FunPost.two ?_ | refine FunPost.three ?_); (try simp (config := { maxSteps := 1000000 }) (disch := (first | omega | (simp only [go_sem]; try omega))) only [go_sem, Nat.reduceAdd, Nat.reduceEqDiff, Nat.reduceLeDiff, Nat.reduceMul, Nat.reduceLT, reduceIte, Int.reduceToNat, w64_id, cast_succ])
      exact GR.of rfl
    · rw [if_neg hE] at hV
      cases hV
      have hc1 : 1 ≤ cntL (O.getD j []) n := by
        unfold cntL
        cases hh : leftL n (O.getD j []) with
        | nil => exact absurd hh hE
        | cons a b => simp
      have hrr := hrc j hj hc1
      rw [Int.toNat_natCast] at hrr
      have hcR := rest_cover hO hc1
      have hko := keptI_optsI O (O.getD j [])
      change coverOk ((leftL n (O.getD j [])).length : Nat) (optsI O (O.getD j [])) = true at hcR
      change (solsAll (optsI O (O.getD j [])) (leftL n (O.getD j [])).length).length = wantW pr (j : Int) at hrr
      have hfR := coverOk_facts hcR
      have hxR : ∀ xs ∈ optsI O (O.getD j []), ∀ x ∈ xs, (Lit.int .i64 x).wf = true := fun xs hxs x hx => wfOfD (by have := (hfR.2.2.2 xs hxs).1 x hx; omega)
      have cR := CountCovers_fn _ _ hxR hcR
      generalize leftL n (O.getD j []) = LL at *
      generalize optsI O (O.getD j []) = OR at *
      generalize keptI O (O.getD j []) = KR at *
      have dk : decide ((KR.length : Int) = (OR.length : Int)) = true := decide_eq_true (by omega)
      refine SW.condF rfl ?_
      cases hs2 : acE OR LL.length
      · rw [hs2] at cR
        simp only [Bool.false_eq_true, if_false] at cR
        rw [hrr] at cR
        have d05 : decide ((0 : Int) = 5) = false := rfl
        repeat (first | (with_reducible first | refine SW.seq ?_ | refine SW.block ?_ | refine SW.rowC ?_ | refine SW.skip ?_ | refine SW.exit ?_ | refine PFn.use (cR) ?_ | refine PFn.useq (cR) ?_ | intro _ | refine And.intro (by omega) ?_) | simp (config := { maxSteps := 1000000 }) (disch := (first | omega | (simp only [go_sem]; try omega))) only [go_sem, Nat.reduceAdd, Nat.reduceEqDiff, Nat.reduceLeDiff, Nat.reduceMul, Nat.reduceLT, reduceIte, Int.reduceToNat, w64_id, cast_succ, dk, d05, d0])
        refine SW.ret ?_; (try simp only [go_sem]); (first | refine FunPost.one ?_ | refine FunPost.two ?_ | refine FunPost.three ?_); (try simp (config := { maxSteps := 1000000 }) (disch := (first | omega | (simp only [go_sem]; try omega))) only [go_sem, Nat.reduceAdd, Nat.reduceEqDiff, Nat.reduceLeDiff, Nat.reduceMul, Nat.reduceLT, reduceIte, Int.reduceToNat, w64_id, cast_succ])
        exact GR.of rfl
      · rw [hs2] at cR
        simp only [if_true, List.length_nil] at cR
        have d55 : decide ((5 : Int) = 5) = true := rfl
        repeat (first | (with_reducible first | refine SW.seq ?_ | refine SW.block ?_ | refine SW.rowC ?_ | refine SW.skip ?_ | refine SW.exit ?_ | refine PFn.use (cR) ?_ | refine PFn.useq (cR) ?_ | intro _ | refine And.intro (by omega) ?_) | simp (config := { maxSteps := 1000000 }) (disch := (first | omega | (simp only [go_sem]; try omega))) only [go_sem, Nat.reduceAdd, Nat.reduceEqDiff, Nat.reduceLeDiff, Nat.reduceMul, Nat.reduceLT, reduceIte, Int.reduceToNat, w64_id, cast_succ, dk, d55])
        refine SW.ret ?_; (try simp only [go_sem]); (first | refine FunPost.one ?_ | refine FunPost.two ?_ | refine FunPost.three ?_); (try simp (config := { maxSteps := 1000000 }) (disch := (first | omega | (simp only [go_sem]; try omega))) only [go_sem, Nat.reduceAdd, Nat.reduceEqDiff, Nat.reduceLeDiff, Nat.reduceMul, Nat.reduceLT, reduceIte, Int.reduceToNat, w64_id, cast_succ])
        exact GR.of rfl
  · rw [hfc] at fc
    have dL : decide ((L.length : Int) = 0) = false := decide_eq_false (by omega)
    have vs := v8Same_fn x
    have d03 : decide ((0 : Int) = 3) = false := rfl
    repeat (first | (with_reducible first | refine SW.seq ?_ | refine SW.block ?_ | refine SW.rowC ?_ | refine SW.skip ?_ | refine SW.exit ?_ | refine PFn.use (ac) ?_ | refine PFn.useq (ac) ?_ | refine PFn.use (cc) ?_ | refine PFn.useq (cc) ?_ | refine PFn.use (nd) ?_ | refine PFn.useq (nd) ?_ | refine PFn.use (fc) ?_ | refine PFn.useq (fc) ?_ | intro _ | refine And.intro (by omega) ?_) | simp (config := { maxSteps := 1000000 }) (disch := (first | omega | (simp only [go_sem]; try omega))) only [go_sem, Nat.reduceAdd, Nat.reduceEqDiff, Nat.reduceLeDiff, Nat.reduceMul, Nat.reduceLT, reduceIte, Int.reduceToNat, w64_id, cast_succ, d0, dn])
    refine SW.condF rfl ?_
    repeat (first | (with_reducible first | refine SW.seq ?_ | refine SW.block ?_ | refine SW.rowC ?_ | refine SW.skip ?_ | refine SW.exit ?_ | intro _ | refine And.intro (by omega) ?_) | simp (config := { maxSteps := 1000000 }) (disch := (first | omega | (simp only [go_sem]; try omega))) only [go_sem, Nat.reduceAdd, Nat.reduceEqDiff, Nat.reduceLeDiff, Nat.reduceMul, Nat.reduceLT, reduceIte, Int.reduceToNat, w64_id, cast_succ])
    refine SW.condF rfl ?_
    repeat (first | (with_reducible first | refine SW.seq ?_ | refine SW.block ?_ | refine SW.rowC ?_ | refine SW.skip ?_ | refine SW.exit ?_ | refine PFn.use (fc) ?_ | refine PFn.useq (fc) ?_ | refine PFn.use (vs) ?_ | refine PFn.useq (vs) ?_ | intro _ | refine And.intro (by omega) ?_) | simp (config := { maxSteps := 1000000 }) (disch := (first | omega | (simp only [go_sem]; try omega))) only [go_sem, Nat.reduceAdd, Nat.reduceEqDiff, Nat.reduceLeDiff, Nat.reduceMul, Nat.reduceLT, reduceIte, Int.reduceToNat, w64_id, cast_succ, d0, dn, dL, hx0, d03])
    refine SW.condF rfl ?_
    repeat (first | (with_reducible first | refine SW.seq ?_ | refine SW.block ?_ | refine SW.rowC ?_ | refine SW.skip ?_ | refine SW.exit ?_ | intro _ | refine And.intro (by omega) ?_) | simp (config := { maxSteps := 1000000 }) (disch := (first | omega | (simp only [go_sem]; try omega))) only [go_sem, Nat.reduceAdd, Nat.reduceEqDiff, Nat.reduceLeDiff, Nat.reduceMul, Nat.reduceLT, reduceIte, Int.reduceToNat, w64_id, cast_succ])
    refine SW.loopE (fun E0 H0 q E' X => ∃ (pre post : List (List Int)), L = pre ++ post ∧ q = post.length ∧ E' = aput E0 14 (I pre.length) ∧ X = H1 ++ [⟨0, tyCover, 1, [I n, ilSS O]⟩]) L.length ⟨[], L, rfl, rfl, rfl, rfl⟩ ?_
    rintro q E' X ⟨pre, post, hq, rfl, rfl, rfl⟩
    simp (config := { maxSteps := 1000000 }) (disch := (first | omega | (simp only [go_sem]; try omega))) only [go_sem, Nat.reduceAdd, Nat.reduceEqDiff, Nat.reduceLeDiff, Nat.reduceMul, Nat.reduceLT, reduceIte, Int.reduceToNat, w64_id, cast_succ]
    repeat (first | (with_reducible first | refine SW.seq ?_ | refine SW.block ?_ | refine SW.rowC ?_ | refine SW.skip ?_ | refine SW.exit ?_ | intro _ | refine And.intro (by omega) ?_) | simp (config := { maxSteps := 1000000 }) (disch := (first | omega | (simp only [go_sem]; try omega))) only [go_sem, Nat.reduceAdd, Nat.reduceEqDiff, Nat.reduceLeDiff, Nat.reduceMul, Nat.reduceLT, reduceIte, Int.reduceToNat, w64_id, cast_succ])
    (first | refine SW.condD rfl (fun h3 => ?_) (fun h3 => ?_) | refine SW.condN rfl (fun h3 => ?_) (fun h3 => ?_) | refine SW.condNB rfl (fun h3 => ?_) (fun h3 => ?_) | refine SW.condB rfl (fun h3 => ?_) (fun h3 => ?_))
    · obtain ⟨S, post, rfl, hg, -⟩ := consOf (d := []) hq (by omega)
      have hS := (hLm S).1 (by rw [hq]; simp)
      have hOl := (coverOk_facts hO).2.2.1
      have ic := implIsCover_fn (n : Int) O S hx (fun k hk => wfOfD (by have := hS.idx k hk; omega)) (by omega)
      rw [sol_cover hO hS] at ic
      repeat (first | (with_reducible first | refine SW.seq ?_ | refine SW.block ?_ | refine SW.rowC ?_ | refine SW.skip ?_ | refine SW.exit ?_ | refine PFn.use (ic) ?_ | refine PFn.useq (ic) ?_ | intro _ | refine And.intro (by omega) ?_) | simp (config := { maxSteps := 1000000 }) (disch := (first | omega | (simp only [go_sem]; try omega))) only [go_sem, Nat.reduceAdd, Nat.reduceEqDiff, Nat.reduceLeDiff, Nat.reduceMul, Nat.reduceLT, reduceIte, Int.reduceToNat, w64_id, cast_succ, hg])
      refine SW.condF rfl ?_
      repeat (first | (with_reducible first | refine SW.seq ?_ | refine SW.block ?_ | refine SW.rowC ?_ | refine SW.skip ?_ | refine SW.exit ?_ | intro _ | refine And.intro (by omega) ?_) | simp (config := { maxSteps := 1000000 }) (disch := (first | omega | (simp only [go_sem]; try omega))) only [go_sem, Nat.reduceAdd, Nat.reduceEqDiff, Nat.reduceLeDiff, Nat.reduceMul, Nat.reduceLT, reduceIte, Int.reduceToNat, w64_id, cast_succ])
      exact SLoop.next post.length (by simp) ⟨pre ++ [S], post, by simp [hq], rfl, by simp [go_sem], rfl⟩
    obtain ⟨hpe, rfl⟩ := nilOf hq (by omega)
    clear hpe hq
    by_cases hOz : O.length = 0
    · have dO : decide ((O.length : Int) = 0) = true := decide_eq_true (by omega)
      repeat (first | (with_reducible first | refine SW.seq ?_ | refine SW.block ?_ | refine SW.rowC ?_ | refine SW.skip ?_ | refine SW.exit ?_ | intro _ | refine And.intro (by omega) ?_) | simp (config := { maxSteps := 1000000 }) (disch := (first | omega | (simp only [go_sem]; try omega))) only [go_sem, Nat.reduceAdd, Nat.reduceEqDiff, Nat.reduceLeDiff, Nat.reduceMul, Nat.reduceLT, reduceIte, Int.reduceToNat, w64_id, cast_succ, dO])
      refine SW.condT rfl ?_
      repeat (first | (with_reducible first | refine SW.seq ?_ | refine SW.block ?_ | refine SW.rowC ?_ | refine SW.skip ?_ | refine SW.exit ?_ | intro _ | refine And.intro (by omega) ?_) | simp (config := { maxSteps := 1000000 }) (disch := (first | omega | (simp only [go_sem]; try omega))) only [go_sem, Nat.reduceAdd, Nat.reduceEqDiff, Nat.reduceLeDiff, Nat.reduceMul, Nat.reduceLT, reduceIte, Int.reduceToNat, w64_id, cast_succ])
      refine SW.ret ?_; (try simp only [go_sem]); (first | refine FunPost.one ?_ | refine FunPost.two ?_ | refine FunPost.three ?_); (try simp (config := { maxSteps := 1000000 }) (disch := (first | omega | (simp only [go_sem]; try omega))) only [go_sem, Nat.reduceAdd, Nat.reduceEqDiff, Nat.reduceLeDiff, Nat.reduceMul, Nat.reduceLT, reduceIte, Int.reduceToNat, w64_id, cast_succ])
      exact GR.of rfl
    have dO : decide ((O.length : Int) = 0) = false := decide_eq_false (by omega)
    repeat (first | (with_reducible first | refine SW.seq ?_ | refine SW.block ?_ | refine SW.rowC ?_ | refine SW.skip ?_ | refine SW.exit ?_ | intro _ | refine And.intro (by omega) ?_) | simp (config := { maxSteps := 1000000 }) (disch := (first | omega | (simp only [go_sem]; try omega))) only [go_sem, Nat.reduceAdd, Nat.reduceEqDiff, Nat.reduceLeDiff, Nat.reduceMul, Nat.reduceLT, reduceIte, Int.reduceToNat, w64_id, cast_succ, dO])
    refine SW.condF rfl ?_
    repeat (first | (with_reducible first | refine SW.seq ?_ | refine SW.block ?_ | refine SW.rowC ?_ | refine SW.skip ?_ | refine SW.exit ?_ | intro _ | refine And.intro (by omega) ?_) | simp (config := { maxSteps := 1000000 }) (disch := (first | omega | (simp only [go_sem]; try omega))) only [go_sem, Nat.reduceAdd, Nat.reduceEqDiff, Nat.reduceLeDiff, Nat.reduceMul, Nat.reduceLT, reduceIte, Int.reduceToNat, w64_id, cast_succ])
    refine (v8At_ok _ ms O.length hy (by omega) (by omega) (by have := (coverOk_facts hO).2.2.1; omega)).mono ?_
    rintro r X ⟨rfl, j, rfl, hj⟩
    repeat (first | (with_reducible first | refine SW.seq ?_ | refine SW.block ?_ | refine SW.rowC ?_ | refine SW.skip ?_ | refine SW.exit ?_ | intro _ | refine And.intro (by omega) ?_) | simp (config := { maxSteps := 1000000 }) (disch := (first | omega | (simp only [go_sem]; try omega))) only [go_sem, Nat.reduceAdd, Nat.reduceEqDiff, Nat.reduceLeDiff, Nat.reduceMul, Nat.reduceLT, reduceIte, Int.reduceToNat, w64_id, cast_succ])
    have hwj : ∀ x ∈ [(j : Int)], (Lit.int .i64 x).wf = true := fun x hx => by rw [List.mem_singleton.1 hx]; exact wfOfD (by have := (coverOk_facts hO).2.2.1; omega)
    refine (implRest_lend (n : Int) O [(j : Int)] hx hwj (by have := (coverOk_facts hO).2.2.1; omega) (.cons (froz_agg2 (froz_I' _) (froz_ilSS _)) (.cons (froz_rowI (r := H1.length + 1) (ver := 0) (ty := 2) (xs := [(j : Int)]) (Nat.zero_le _) (by simp)) .nil))).mono ?_
    rintro r X ⟨ext, rv, ru, q, hX, rfl, q1, q2, orv, oru⟩
    have hXl : H1.length + 2 ≤ X.length := by rw [hX]; simp
    have hbx : X[H1.length]? = some ⟨0, tyCover, 1, [I n, ilSS O]⟩ := by rw [hX]; simp
    have hrone : rv.cell1 = true ∧ partsOf rv = [rv] := by rcases orv with ⟨t', ver', ty', cs, rfl, _⟩ | ⟨_, rfl | rfl⟩ <;> exact ⟨rfl, rfl⟩
    have huone : ru.cell1 = true ∧ partsOf ru = [ru] := by rcases oru with ⟨r, ver, ty, rfl, _⟩ | ⟨_, rfl | rfl⟩ <;> exact ⟨rfl, rfl⟩
    repeat (first | (with_reducible first | refine SW.seq ?_ | refine SW.block ?_ | refine SW.rowC ?_ | refine SW.skip ?_ | refine SW.exit ?_ | intro _ | refine And.intro (by omega) ?_) | simp (config := { maxSteps := 1000000 }) (disch := (first | omega | (simp only [go_sem]; try omega))) only [go_sem, Nat.reduceAdd, Nat.reduceEqDiff, Nat.reduceLeDiff, Nat.reduceMul, Nat.reduceLT, reduceIte, Int.reduceToNat, w64_id, cast_succ, hrone.1, hrone.2, huone.1, huone.2])
    generalize hV : rcV (n : Int) O [(j : Int)] = V at *
    obtain ⟨⟨vn, vO⟩, vk, vc⟩ := V
    have hbx2 : (X ++ [(⟨0, tyCover, 1, [I vn, rv]⟩ : Blk)])[X.length]? = some ⟨0, tyCover, 1, [I vn, rv]⟩ := by simp
    replace hbx := get_appB2 hbx [(⟨0, tyCover, 1, [I vn, rv]⟩ : Blk)]
    replace orv := orv.append [(⟨0, tyCover, 1, [I vn, rv]⟩ : Blk)]
    replace oru : OwnS (X ++ [(⟨0, tyCover, 1, [I vn, rv]⟩ : Blk)]) (Btw (H1 ++ [(⟨0, tyCover, 1, [I n, ilSS O]⟩ : Blk), ⟨0, 2, 1, [I j]⟩]).length q) X.length ru vk := oru.same (fun j b _ _ hb => get_appB2 hb _)
    obtain ⟨ext2, he2⟩ : ∃ e, X ++ [(⟨0, tyCover, 1, [I vn, rv]⟩ : Blk)] = H1 ++ e := ⟨_, by rw [hX, List.append_assoc, List.append_assoc]⟩
    have hlq : (H1 ++ [(⟨0, tyCover, 1, [I n, ilSS O]⟩ : Blk), ⟨0, 2, 1, [I j]⟩]).length = H1.length + 2 := by simp
    rw [hlq] at q1 oru
    have hgx : X.length = X.length := rfl
    generalize hxl : X.length = xl at *
    rw [he2] at hbx hbx2 orv oru ⊢
    refine SW.renK (js := [some H1.length, some xl]) (H2 := [⟨0, tyCover, 1, [I n, ilSS O]⟩, ⟨0, tyCover, 1, [I vn, ilSS vO]⟩]) (E' := [(5, .pc H1.length 0 0), (6, ilSS pre), (15, I j), (16, .pc (H1.length + 1) 0 0), (17, ilS vk), (18, I vc), (19, I 0), (20, I 0)]) hB (Nat.le_refl _)
      (renOk_two (by omega) (Nat.le_refl _) (by omega) hbx hbx2 (by omega) (by omega) (Nat.le_refl _) (Nat.le_refl _) (fun i c c' g1 g2 => ?_) (fun i c c' g1 g2 => ?_))
      (.cons _ (.pc 0 H1.length 0 0 _ rfl hbx rfl) (.cons _ (ren_ilSS _) (.cons _ (ren_I _) (.cons _ (.pc 1 xl 0 0 _ rfl hbx2 rfl) (.cons _ (ren_ownSC oru (fun r hr => ⟨by have := hr.1; omega, by have := hr.1; have := hr.2; simp; omega⟩)) (.cons _ (ren_I _) (.cons _ (ren_I _) (.cons _ (ren_I _) .nil)))))))) ?_
    · rw [g1] at g2; cases g2
      match i, g1 with
      | 0, g1 => cases g1; exact ren_I _
      | 1, g1 => cases g1; exact ren_ilSS _
      | i + 2, g1 => simp at g1
    · match i, g1, g2 with
      | 0, g1, g2 => cases g1; cases g2; exact ren_I _
      | 1, g1, g2 => cases g1; cases g2; exact ren_ownSSC orv (fun r hr => ⟨by have := hr.1; omega, by have := hr.1; have := hr.2; simp; omega⟩)
      | i + 2, g1, g2 => simp at g1
    clear hbx hbx2 orv oru he2 hX
    repeat (first | (with_reducible first | refine SW.seq ?_ | refine SW.block ?_ | refine SW.rowC ?_ | refine SW.skip ?_ | refine SW.exit ?_ | intro _ | refine And.intro (by omega) ?_) | simp (config := { maxSteps := 1000000 }) (disch := (first | omega | (simp only [go_sem]; try omega))) only [go_sem, Nat.reduceAdd, Nat.reduceEqDiff, Nat.reduceLeDiff, Nat.reduceMul, Nat.reduceLT, reduceIte, Int.reduceToNat, w64_id, cast_succ])
    have hnd : ∀ S ∈ pre, S.Nodup := fun S hS => inc_nodup ((hLm S).1 hS).inc
    have hsl : ∀ S ∈ pre, S.length ≤ 1000 := fun S hS => by
      have hi := ((hLm S).1 hS).idx
      have := nodup_bound O.length S (hnd S hS) hi
      have := (coverOk_facts hO).2.2.1
      omega
    refine SW.loopE (fun E0 H0 q E' Z => ∃ (pr po : List (List Int)), pre = pr ++ po ∧ q = po.length ∧ E' = aput (aput E0 20 (I pr.length)) 19 (I (wantW pr j)) ∧ Z = H1 ++ [⟨0, tyCover, 1, [I n, ilSS O]⟩, ⟨0, tyCover, 1, [I vn, ilSS vO]⟩]) pre.length ⟨[], pre, rfl, rfl, by simp [go_sem, wantW], rfl⟩ ?_
    rintro q' E' Z ⟨pr, po, hp2, rfl, rfl, rfl⟩
    have hwl := wantW_le pr (j : Int)
    simp (config := { maxSteps := 1000000 }) (disch := (first | omega | (simp only [go_sem]; try omega))) only [go_sem, Nat.reduceAdd, Nat.reduceEqDiff, Nat.reduceLeDiff, Nat.reduceMul, Nat.reduceLT, reduceIte, Int.reduceToNat, w64_id, cast_succ]
    repeat (first | (with_reducible first | refine SW.seq ?_ | refine SW.block ?_ | refine SW.rowC ?_ | refine SW.skip ?_ | refine SW.exit ?_ | intro _ | refine And.intro (by omega) ?_) | simp (config := { maxSteps := 1000000 }) (disch := (first | omega | (simp only [go_sem]; try omega))) only [go_sem, Nat.reduceAdd, Nat.reduceEqDiff, Nat.reduceLeDiff, Nat.reduceMul, Nat.reduceLT, reduceIte, Int.reduceToNat, w64_id, cast_succ])
    (first | refine SW.condD rfl (fun h4 => ?_) (fun h4 => ?_) | refine SW.condN rfl (fun h4 => ?_) (fun h4 => ?_) | refine SW.condNB rfl (fun h4 => ?_) (fun h4 => ?_) | refine SW.condB rfl (fun h4 => ?_) (fun h4 => ?_))
    · obtain ⟨S, po, rfl, hgS, -⟩ := consOf (d := []) hp2 (by omega)
      have hSm : S ∈ pre := by rw [hp2]; simp
      have hSn := hnd S hSm
      have hSl := hsl S hSm
      repeat (first | (with_reducible first | refine SW.seq ?_ | refine SW.block ?_ | refine SW.rowC ?_ | refine SW.skip ?_ | refine SW.exit ?_ | intro _ | refine And.intro (by omega) ?_) | simp (config := { maxSteps := 1000000 }) (disch := (first | omega | (simp only [go_sem]; try omega))) only [go_sem, Nat.reduceAdd, Nat.reduceEqDiff, Nat.reduceLeDiff, Nat.reduceMul, Nat.reduceLT, reduceIte, Int.reduceToNat, w64_id, cast_succ, hgS])
      refine SW.loopE (fun E0 H0 q E' Z => ∃ (a b : List Int), S = a ++ b ∧ q = b.length ∧ E' = aput (aput E0 21 (I a.length)) 19 (I (wantW pr j + a.count (j : Int) : Nat)) ∧ Z = H1 ++ [⟨0, tyCover, 1, [I n, ilSS O]⟩, ⟨0, tyCover, 1, [I vn, ilSS vO]⟩]) S.length ⟨[], S, rfl, rfl, by simp [go_sem], rfl⟩ ?_
      rintro q'' E' Z ⟨a, b, hab, rfl, rfl, rfl⟩
      have hca : a.count (j : Int) ≤ a.length := List.count_le_length
      have hal : a.length ≤ S.length := by rw [hab]; simp
      simp (config := { maxSteps := 1000000 }) (disch := (first | omega | (simp only [go_sem]; try omega))) only [go_sem, Nat.reduceAdd, Nat.reduceEqDiff, Nat.reduceLeDiff, Nat.reduceMul, Nat.reduceLT, reduceIte, Int.reduceToNat, w64_id, cast_succ]
      repeat (first | (with_reducible first | refine SW.seq ?_ | refine SW.block ?_ | refine SW.rowC ?_ | refine SW.skip ?_ | refine SW.exit ?_ | intro _ | refine And.intro (by omega) ?_) | simp (config := { maxSteps := 1000000 }) (disch := (first | omega | (simp only [go_sem]; try omega))) only [go_sem, Nat.reduceAdd, Nat.reduceEqDiff, Nat.reduceLeDiff, Nat.reduceMul, Nat.reduceLT, reduceIte, Int.reduceToNat, w64_id, cast_succ, hgS])
      (first | refine SW.condD rfl (fun h5 => ?_) (fun h5 => ?_) | refine SW.condN rfl (fun h5 => ?_) (fun h5 => ?_) | refine SW.condNB rfl (fun h5 => ?_) (fun h5 => ?_) | refine SW.condB rfl (fun h5 => ?_) (fun h5 => ?_))
      · obtain ⟨y, b, rfl, hgy, -⟩ := consOf (d := (0 : Int)) hab (by omega)
        by_cases hyj : y = (j : Int)
        · have d9 := decide_eq_true hyj
          repeat (first | (with_reducible first | refine SW.seq ?_ | refine SW.block ?_ | refine SW.rowC ?_ | refine SW.skip ?_ | refine SW.exit ?_ | intro _ | refine And.intro (by omega) ?_) | simp (config := { maxSteps := 1000000 }) (disch := (first | omega | (simp only [go_sem]; try omega))) only [go_sem, Nat.reduceAdd, Nat.reduceEqDiff, Nat.reduceLeDiff, Nat.reduceMul, Nat.reduceLT, reduceIte, Int.reduceToNat, w64_id, cast_succ, hgS, hgy, d9])
          refine SW.condT rfl ?_
          repeat (first | (with_reducible first | refine SW.seq ?_ | refine SW.block ?_ | refine SW.rowC ?_ | refine SW.skip ?_ | refine SW.exit ?_ | intro _ | refine And.intro (by omega) ?_) | simp (config := { maxSteps := 1000000 }) (disch := (first | omega | (simp only [go_sem]; try omega))) only [go_sem, Nat.reduceAdd, Nat.reduceEqDiff, Nat.reduceLeDiff, Nat.reduceMul, Nat.reduceLT, reduceIte, Int.reduceToNat, w64_id, cast_succ])
          have hcy : (a ++ [y]).count (j : Int) = a.count (j : Int) + 1 := by rw [List.count_append, hyj]; simp
          exact SLoop.next b.length (by simp) ⟨a ++ [y], b, by rw [hab]; simp, rfl, by rw [hcy, ← Nat.add_assoc]; simp [go_sem], rfl⟩
        · have d9 := decide_eq_false hyj
          repeat (first | (with_reducible first | refine SW.seq ?_ | refine SW.block ?_ | refine SW.rowC ?_ | refine SW.skip ?_ | refine SW.exit ?_ | intro _ | refine And.intro (by omega) ?_) | simp (config := { maxSteps := 1000000 }) (disch := (first | omega | (simp only [go_sem]; try omega))) only [go_sem, Nat.reduceAdd, Nat.reduceEqDiff, Nat.reduceLeDiff, Nat.reduceMul, Nat.reduceLT, reduceIte, Int.reduceToNat, w64_id, cast_succ, hgS, hgy, d9])
          refine SW.condF rfl ?_
          repeat (first | (with_reducible first | refine SW.seq ?_ | refine SW.block ?_ | refine SW.rowC ?_ | refine SW.skip ?_ | refine SW.exit ?_ | intro _ | refine And.intro (by omega) ?_) | simp (config := { maxSteps := 1000000 }) (disch := (first | omega | (simp only [go_sem]; try omega))) only [go_sem, Nat.reduceAdd, Nat.reduceEqDiff, Nat.reduceLeDiff, Nat.reduceMul, Nat.reduceLT, reduceIte, Int.reduceToNat, w64_id, cast_succ])
          have hcy : (a ++ [y]).count (j : Int) = a.count (j : Int) := by rw [List.count_append, List.count_singleton, if_neg (by simpa using fun h => hyj h), Nat.add_zero]
          exact SLoop.next b.length (by simp) ⟨a ++ [y], b, by rw [hab]; simp, rfl, by rw [hcy]; simp [go_sem], rfl⟩
      · obtain ⟨hae, rfl⟩ := nilOf hab (by omega)
        have hws := wantW_snoc pr a (j : Int) (by first | exact hSn | (rw [← hae]; exact hSn))
        repeat (first | (with_reducible first | refine SW.seq ?_ | refine SW.block ?_ | refine SW.rowC ?_ | refine SW.skip ?_ | refine SW.exit ?_ | intro _ | refine And.intro (by omega) ?_) | simp (config := { maxSteps := 1000000 }) (disch := (first | omega | (simp only [go_sem]; try omega))) only [go_sem, Nat.reduceAdd, Nat.reduceEqDiff, Nat.reduceLeDiff, Nat.reduceMul, Nat.reduceLT, reduceIte, Int.reduceToNat, w64_id, cast_succ])
        exact SLoop.next po.length (by simp) ⟨pr ++ [a], po, by first | (rw [hp2]; simp; done) | (rw [hp2, hae]; simp), rfl, by rw [hws]; simp [go_sem], rfl⟩
    obtain ⟨hpe2, rfl⟩ := nilOf hp2 (by omega)
    repeat (first | (with_reducible first | refine SW.seq ?_ | refine SW.block ?_ | refine SW.rowC ?_ | refine SW.skip ?_ | refine SW.exit ?_ | intro _ | refine And.intro (by omega) ?_) | simp (config := { maxSteps := 1000000 }) (disch := (first | omega | (simp only [go_sem]; try omega))) only [go_sem, Nat.reduceAdd, Nat.reduceEqDiff, Nat.reduceLeDiff, Nat.reduceMul, Nat.reduceLT, reduceIte, Int.reduceToNat, w64_id, cast_succ])
    have hitem : itemsOf O [(j : Int)] = O.getD j [] := by simp [itemsOf]
    have hEn : (O.getD j []).Nodup := by have := opt_nodup (o := (j : Int)) hO (by omega) (by omega); rwa [Int.toNat_natCast] at this
    have hasc : asc 0 ((O.length : Int) - 1) [(j : Int)] = true := asc_ofC (by simp) (fun x hx => by rw [List.mem_singleton.1 hx]; omega)
    unfold rcV at hV
    rw [hO, hasc, hitem, Int.toNat_natCast] at hV
    simp only [Bool.not_true, Bool.false_eq_true, if_false, not_true_eq_false, hEn, false_or] at hV
    by_cases hE : leftL n (O.getD j []) = []
    · rw [if_pos hE] at hV
      cases hV
      have hEr : ∀ x ∈ O.getD j [], 0 ≤ x ∧ x < (n : Int) := fun x hx => items_rng (S := [(j : Int)]) hO (by rw [hitem]; exact hx)
      have hEl := full_len hEn hEr hE
      have d66 : decide ((6 : Int) = 6) = true := rfl
      have dEl : decide (((O.getD j []).length : Int) = (n : Int)) = true := decide_eq_true (by omega)
      refine SW.condT rfl ?_
      repeat (first | (with_reducible first | refine SW.seq ?_ | refine SW.block ?_ | refine SW.rowC ?_ | refine SW.skip ?_ | refine SW.exit ?_ | intro _ | refine And.intro (by omega) ?_) | simp (config := { maxSteps := 1000000 }) (disch := (first | omega | (simp only [go_sem]; try omega))) only [go_sem, Nat.reduceAdd, Nat.reduceEqDiff, Nat.reduceLeDiff, Nat.reduceMul, Nat.reduceLT, reduceIte, Int.reduceToNat, w64_id, cast_succ, d66, dEl])
      refine SW.ret ?_; (try simp only [go_sem]); (first | refine FunPost.one ?_ | refine FunPost.two ?_ | refine FunPost.three ?_); (try simp (config := { maxSteps := 1000000 }) (disch := (first | omega | (simp only [go_sem]; try omega))) only [go_sem, Nat.reduceAdd, Nat.reduceEqDiff, Nat.reduceLeDiff, Nat.reduceMul, Nat.reduceLT, reduceIte, Int.reduceToNat, w64_id, cast_succ])
      exact GR.of rfl
    · rw [if_neg hE] at hV
      cases hV
      have hc1 : 1 ≤ cntL (O.getD j []) n := by
        unfold cntL
        cases hh : leftL n (O.getD j []) with
        | nil => exact absurd hh hE
        | cons a b => simp
      have hrr := hrc j hj hc1
      rw [Int.toNat_natCast] at hrr
      have hcR := rest_cover hO hc1
      have hko := keptI_optsI O (O.getD j [])
      change coverOk ((leftL n (O.getD j [])).length : Nat) (optsI O (O.getD j [])) = true at hcR
      change (solsAll (optsI O (O.getD j [])) (leftL n (O.getD j [])).length).length = wantW pr (j : Int) at hrr
      have hfR := coverOk_facts hcR
      have hxR : ∀ xs ∈ optsI O (O.getD j []), ∀ x ∈ xs, (Lit.int .i64 x).wf = true := fun xs hxs x hx => wfOfD (by have := (hfR.2.2.2 xs hxs).1 x hx; omega)
      have cR := CountCovers_fn _ _ hxR hcR
      generalize leftL n (O.getD j []) = LL at *
      generalize optsI O (O.getD j []) = OR at *
      generalize keptI O (O.getD j []) = KR at *
      have dk : decide ((KR.length : Int) = (OR.length : Int)) = true := decide_eq_true (by omega)
      refine SW.condF rfl ?_
      cases hs2 : acE OR LL.length
      · rw [hs2] at cR
        simp only [Bool.false_eq_true, if_false] at cR
        rw [hrr] at cR
        have d05 : decide ((0 : Int) = 5) = false := rfl
        repeat (first | (with_reducible first | refine SW.seq ?_ | refine SW.block ?_ | refine SW.rowC ?_ | refine SW.skip ?_ | refine SW.exit ?_ | refine PFn.use (cR) ?_ | refine PFn.useq (cR) ?_ | intro _ | refine And.intro (by omega) ?_) | simp (config := { maxSteps := 1000000 }) (disch := (first | omega | (simp only [go_sem]; try omega))) only [go_sem, Nat.reduceAdd, Nat.reduceEqDiff, Nat.reduceLeDiff, Nat.reduceMul, Nat.reduceLT, reduceIte, Int.reduceToNat, w64_id, cast_succ, dk, d05, d0])
        refine SW.ret ?_; (try simp only [go_sem]); (first | refine FunPost.one ?_ | refine FunPost.two ?_ | refine FunPost.three ?_); (try simp (config := { maxSteps := 1000000 }) (disch := (first | omega | (simp only [go_sem]; try omega))) only [go_sem, Nat.reduceAdd, Nat.reduceEqDiff, Nat.reduceLeDiff, Nat.reduceMul, Nat.reduceLT, reduceIte, Int.reduceToNat, w64_id, cast_succ])
        exact GR.of rfl
      · rw [hs2] at cR
        simp only [if_true, List.length_nil] at cR
        have d55 : decide ((5 : Int) = 5) = true := rfl
        repeat (first | (with_reducible first | refine SW.seq ?_ | refine SW.block ?_ | refine SW.rowC ?_ | refine SW.skip ?_ | refine SW.exit ?_ | refine PFn.use (cR) ?_ | refine PFn.useq (cR) ?_ | intro _ | refine And.intro (by omega) ?_) | simp (config := { maxSteps := 1000000 }) (disch := (first | omega | (simp only [go_sem]; try omega))) only [go_sem, Nat.reduceAdd, Nat.reduceEqDiff, Nat.reduceLeDiff, Nat.reduceMul, Nat.reduceLT, reduceIte, Int.reduceToNat, w64_id, cast_succ, dk, d55])
        refine SW.ret ?_; (try simp only [go_sem]); (first | refine FunPost.one ?_ | refine FunPost.two ?_ | refine FunPost.three ?_); (try simp (config := { maxSteps := 1000000 }) (disch := (first | omega | (simp only [go_sem]; try omega))) only [go_sem, Nat.reduceAdd, Nat.reduceEqDiff, Nat.reduceLeDiff, Nat.reduceMul, Nat.reduceLT, reduceIte, Int.reduceToNat, w64_id, cast_succ])
        exact GR.of rfl
end Go.Proofs.Ytnlfokkljgbaaaa
