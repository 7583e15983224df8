/- Known designs, drawn. -/
import Derived.Test.YtnlfokkljgbaaaaProg
import Derived.KernelRfl
import Derived.Test.YtnlfokkljgbaaaazCO
import Derived.Test.YtnlfokkljgbaaaazCE0
import Derived.Test.YtnlfokkljgbaaaazLS
import Derived.Test.YtnlfokkljgbaaaazCT
import Derived.Test.YtnlfokkljgbaaaazT0
import Derived.Test.YtnlfokkljgbaaaazOW
set_option linter.unusedSimpArgs false
set_option linter.unusedVariables false
set_option maxHeartbeats 4000000
set_option maxRecDepth 100000
namespace Go.Proofs.Ytnlfokkljgbaaaa
open Go.Av
abbrev f_spec_l10Known : Nat := 65
def c_spec_l10Known : SC :=
 .seq (.reg [
     ⟨(some 2), .alloc 26 [(.int .i64 0), (.slice none 0 0)], none⟩] [0, 2])
 (.seq (.reg [
     ⟨(some 18), .bslice 2 1 3 [(.int .i64 0), (.int .i64 0), (.int .i64 0)] [(0, (.const (.int .i64 0))), (1, (.const (.int .i64 1))), (2, (.const (.int .i64 3)))], none⟩,
     ⟨(some 19), .bslice 2 1 3 [(.int .i64 0), (.int .i64 0), (.int .i64 0)] [(0, (.const (.int .i64 1))), (1, (.const (.int .i64 2))), (2, (.const (.int .i64 4)))], none⟩,
     ⟨(some 20), .bslice 2 1 3 [(.int .i64 0), (.int .i64 0), (.int .i64 0)] [(0, (.const (.int .i64 2))), (1, (.const (.int .i64 3))), (2, (.const (.int .i64 5)))], none⟩,
     ⟨(some 21), .bslice 2 1 3 [(.int .i64 0), (.int .i64 0), (.int .i64 0)] [(0, (.const (.int .i64 3))), (1, (.const (.int .i64 4))), (2, (.const (.int .i64 6)))], none⟩,
     ⟨(some 22), .bslice 2 1 3 [(.int .i64 0), (.int .i64 0), (.int .i64 0)] [(0, (.const (.int .i64 0))), (1, (.const (.int .i64 4))), (2, (.const (.int .i64 5)))], none⟩,
     ⟨(some 23), .bslice 2 1 3 [(.int .i64 0), (.int .i64 0), (.int .i64 0)] [(0, (.const (.int .i64 1))), (1, (.const (.int .i64 5))), (2, (.const (.int .i64 6)))], none⟩,
     ⟨(some 24), .bslice 2 1 3 [(.int .i64 0), (.int .i64 0), (.int .i64 0)] [(0, (.const (.int .i64 0))), (1, (.const (.int .i64 2))), (2, (.const (.int .i64 6)))], none⟩,
     ⟨(some 25), .bslice 29 1 7 [(.slice none 0 0), (.slice none 0 0), (.slice none 0 0), (.slice none 0 0), (.slice none 0 0), (.slice none 0 0), (.slice none 0 0)] [(0, (.tmp 18)), (1, (.tmp 19)), (2, (.tmp 20)), (3, (.tmp 21)), (4, (.tmp 22)), (5, (.tmp 23)), (6, (.tmp 24))], none⟩,
     ⟨(some 3), .mv (.tmp 25), none⟩] [0, 2, 3])
 (.seq (.seq (.reg [
     ⟨(some 26), .mv (.tmp 0), none⟩,
     ⟨(some 27), .call 21 [(.tmp 26), (.const (.int .i64 4))], none⟩] [0, 2, 3, 27])
 (.block 0 (.seq (.reg [
      ⟨(some 29), .bin .eql (.tmp 27) (.const (.int .i64 0)), none⟩,
      ⟨(some 28), .mv (.tmp 29), none⟩] [0, 2, 3, 27, 28])
  (.cond (.tmp 28)
   (.seq (.reg [
       ⟨(some 30), .mv (.tmp 3), none⟩,
       ⟨(some 31), .call 61 [(.tmp 30)], none⟩,
       ⟨(some 32), .build [(.int .i64 0), (.slice none 0 0)] [(0, 1, (.const (.int .i64 7))), (1, 1, (.tmp 31))], none⟩,
       ⟨none, .store 2 (.tmp 2) (.tmp 32), none⟩] [2])
   (.ret))
   (.seq (.reg [
       ⟨(some 34), .bin .eql (.tmp 27) (.const (.int .i64 1)), none⟩,
       ⟨(some 33), .mv (.tmp 34), none⟩] [0, 2, 27, 33])
   (.cond (.tmp 33)
    (.seq (.reg [
        ⟨(some 35), .bslice 29 1 0 [] [], none⟩,
        ⟨(some 4), .mv (.tmp 35), none⟩] [0, 2, 4])
    (.seq (.reg [
        ⟨(some 36), .mv (.tmp 0), none⟩,
        ⟨(some 37), .call 21 [(.tmp 36), (.const (.int .i64 4))], none⟩,
        ⟨(some 38), .bin .add (.const (.int .i64 3)) (.tmp 37), none⟩,
        ⟨(some 5), .mv (.tmp 38), none⟩] [2, 4, 5])
    (.seq (.seq (.reg [
        ⟨(some 6), .mv (.const (.int .i64 0)), none⟩] [2, 4, 5, 6])
    (.block 1 (.loop [2, 4, 5, 6]
      (.seq (.seq (.reg [
          ⟨(some 39), .mv (.tmp 6), none⟩,
          ⟨(some 40), .mv (.tmp 5), none⟩,
          ⟨(some 41), .bin .lss (.tmp 39) (.tmp 40), none⟩] [2, 4, 5, 6, 41])
      (.cond (.tmp 41)
       (.skip)
       (.exit 1)))
      (.seq (.block 2 (.seq (.reg [
           ⟨(some 44), .mv (.tmp 6), none⟩,
           ⟨(some 45), .bin .add (.tmp 44) (.const (.int .i64 1)), none⟩,
           ⟨(some 7), .mv (.tmp 45), none⟩] [2, 4, 5, 6, 7])
       (.block 3 (.loop [2, 4, 5, 6, 7]
         (.seq (.seq (.reg [
             ⟨(some 46), .mv (.tmp 7), none⟩,
             ⟨(some 47), .mv (.tmp 5), none⟩,
             ⟨(some 48), .bin .lss (.tmp 46) (.tmp 47), none⟩] [2, 4, 5, 6, 7, 48])
         (.cond (.tmp 48)
          (.skip)
          (.exit 3)))
         (.seq (.block 4 (.reg [
              ⟨(some 51), .mv (.tmp 4), none⟩,
              ⟨(some 52), .mv (.tmp 6), none⟩,
              ⟨(some 53), .mv (.tmp 7), none⟩,
              ⟨(some 54), .bslice 2 1 2 [(.int .i64 0), (.int .i64 0)] [(0, (.tmp 52)), (1, (.tmp 53))], none⟩,
              ⟨(some 55), .bslice 29 1 1 [(.slice none 0 0)] [(0, (.tmp 54))], none⟩,
              ⟨(some 56), .app 29 1 24 (.tmp 51) (.tmp 55), none⟩,
              ⟨(some 4), .mv (.tmp 56), none⟩] [2, 4, 5, 6, 7]))
         (.reg [
             ⟨(some 49), .mv (.tmp 7), none⟩,
             ⟨(some 50), .bin .add (.tmp 49) (.const (.int .i64 1)), none⟩,
             ⟨(some 7), .mv (.tmp 50), none⟩] [2, 4, 5, 6, 7])))))))
      (.reg [
          ⟨(some 42), .mv (.tmp 6), none⟩,
          ⟨(some 43), .bin .add (.tmp 42) (.const (.int .i64 1)), none⟩,
          ⟨(some 6), .mv (.tmp 43), none⟩] [2, 4, 5, 6]))))))
    (.seq (.reg [
        ⟨(some 57), .mv (.tmp 5), none⟩,
        ⟨(some 58), .mv (.tmp 4), none⟩,
        ⟨(some 59), .call 61 [(.tmp 58)], none⟩,
        ⟨(some 60), .build [(.int .i64 0), (.slice none 0 0)] [(0, 1, (.tmp 57)), (1, 1, (.tmp 59))], none⟩,
        ⟨none, .store 2 (.tmp 2) (.tmp 60), none⟩] [2])
    (.ret)))))
    (.seq (.reg [
        ⟨(some 62), .bin .eql (.tmp 27) (.const (.int .i64 2)), none⟩,
        ⟨(some 61), .mv (.tmp 62), none⟩] [2, 61])
    (.cond (.tmp 61)
     (.seq (.reg [
         ⟨(some 63), .bslice 29 1 0 [] [], none⟩,
         ⟨(some 8), .mv (.tmp 63), none⟩] [2, 8])
     (.seq (.seq (.reg [
         ⟨(some 9), .mv (.const (.int .i64 0)), none⟩] [2, 8, 9])
     (.block 5 (.loop [2, 8, 9]
       (.seq (.seq (.reg [
           ⟨(some 64), .mv (.tmp 9), none⟩,
           ⟨(some 65), .bin .lss (.tmp 64) (.const (.int .i64 11)), none⟩] [2, 8, 9, 65])
       (.cond (.tmp 65)
        (.skip)
        (.exit 5)))
       (.seq (.block 6 (.seq (.reg [
            ⟨(some 68), .bslice 2 1 0 [] [], none⟩,
            ⟨(some 10), .mv (.tmp 68), none⟩] [2, 8, 9, 10])
        (.seq (.seq (.reg [
            ⟨(some 69), .bslice 2 1 5 [(.int .i64 0), (.int .i64 0), (.int .i64 0), (.int .i64 0), (.int .i64 0)] [(0, (.const (.int .i64 1))), (1, (.const (.int .i64 3))), (2, (.const (.int .i64 4))), (3, (.const (.int .i64 5))), (4, (.const (.int .i64 9)))], none⟩,
            ⟨(some 70), .len (.tmp 69), none⟩,
            ⟨(some 71), .mv (.const (.int .i64 0)), none⟩] [2, 8, 9, 10, 69, 70, 71])
        (.block 7 (.loop [2, 8, 9, 10, 69, 70, 71]
          (.seq (.reg [
              ⟨(some 72), .bin .lss (.tmp 71) (.tmp 70), none⟩] [2, 8, 9, 10, 69, 70, 71, 72])
          (.seq (.cond (.tmp 72)
           (.skip)
           (.exit 7))
          (.seq (.block 8 (.seq (.reg [
               ⟨(some 73), .iaddr 1 (.tmp 69) (.tmp 71), none⟩,
               ⟨(some 74), .load 1 false (.tmp 73), none⟩,
               ⟨(some 12), .mv (.tmp 74), none⟩] [2, 8, 9, 10, 12, 69, 70, 71])
           (.reg [
               ⟨(some 75), .mv (.tmp 10), none⟩,
               ⟨(some 76), .mv (.tmp 12), none⟩,
               ⟨(some 77), .mv (.tmp 9), none⟩,
               ⟨(some 78), .bin .add (.tmp 76) (.tmp 77), none⟩,
               ⟨(some 79), .bin .rem (.tmp 78) (.const (.int .i64 11)), none⟩,
               ⟨(some 80), .call 74 [(.tmp 75), (.tmp 79)], none⟩,
               ⟨(some 10), .mv (.tmp 80), none⟩] [2, 8, 9, 10, 69, 70, 71])))
          (.reg [
              ⟨(some 81), .bin .add (.tmp 71) (.const (.int .i64 1)), none⟩,
              ⟨(some 71), .mv (.tmp 81), none⟩] [2, 8, 9, 10, 69, 70, 71])))))))
        (.reg [
            ⟨(some 82), .mv (.tmp 8), none⟩,
            ⟨(some 83), .mv (.tmp 10), none⟩,
            ⟨(some 84), .bslice 29 1 1 [(.slice none 0 0)] [(0, (.tmp 83))], none⟩,
            ⟨(some 85), .app 29 1 24 (.tmp 82) (.tmp 84), none⟩,
            ⟨(some 8), .mv (.tmp 85), none⟩] [2, 8, 9]))))
       (.reg [
           ⟨(some 66), .mv (.tmp 9), none⟩,
           ⟨(some 67), .bin .add (.tmp 66) (.const (.int .i64 1)), none⟩,
           ⟨(some 9), .mv (.tmp 67), none⟩] [2, 8, 9]))))))
     (.seq (.reg [
         ⟨(some 86), .mv (.tmp 8), none⟩,
         ⟨(some 87), .call 61 [(.tmp 86)], none⟩,
         ⟨(some 88), .build [(.int .i64 0), (.slice none 0 0)] [(0, 1, (.const (.int .i64 11))), (1, 1, (.tmp 87))], none⟩,
         ⟨none, .store 2 (.tmp 2) (.tmp 88), none⟩] [2])
     (.ret))))
     (.skip)))))))))
 (.seq (.reg [
     ⟨(some 89), .bslice 29 1 0 [] [], none⟩,
     ⟨(some 13), .mv (.tmp 89), none⟩] [2, 13])
 (.seq (.seq (.reg [
     ⟨(some 14), .mv (.const (.int .i64 0)), none⟩] [2, 13, 14])
 (.block 9 (.loop [2, 13, 14]
   (.seq (.seq (.reg [
       ⟨(some 90), .mv (.tmp 14), none⟩,
       ⟨(some 91), .bin .lss (.tmp 90) (.const (.int .i64 13)), none⟩] [2, 13, 14, 91])
   (.cond (.tmp 91)
    (.skip)
    (.exit 9)))
   (.seq (.block 10 (.seq (.reg [
        ⟨(some 94), .bslice 2 1 0 [] [], none⟩,
        ⟨(some 15), .mv (.tmp 94), none⟩] [2, 13, 14, 15])
    (.seq (.seq (.reg [
        ⟨(some 95), .bslice 2 1 4 [(.int .i64 0), (.int .i64 0), (.int .i64 0), (.int .i64 0)] [(0, (.const (.int .i64 0))), (1, (.const (.int .i64 1))), (2, (.const (.int .i64 3))), (3, (.const (.int .i64 9)))], none⟩,
        ⟨(some 96), .len (.tmp 95), none⟩,
        ⟨(some 97), .mv (.const (.int .i64 0)), none⟩] [2, 13, 14, 15, 95, 96, 97])
    (.block 11 (.loop [2, 13, 14, 15, 95, 96, 97]
      (.seq (.reg [
          ⟨(some 98), .bin .lss (.tmp 97) (.tmp 96), none⟩] [2, 13, 14, 15, 95, 96, 97, 98])
      (.seq (.cond (.tmp 98)
       (.skip)
       (.exit 11))
      (.seq (.block 12 (.seq (.reg [
           ⟨(some 99), .iaddr 1 (.tmp 95) (.tmp 97), none⟩,
           ⟨(some 100), .load 1 false (.tmp 99), none⟩,
           ⟨(some 17), .mv (.tmp 100), none⟩] [2, 13, 14, 15, 17, 95, 96, 97])
       (.reg [
           ⟨(some 101), .mv (.tmp 15), none⟩,
           ⟨(some 102), .mv (.tmp 17), none⟩,
           ⟨(some 103), .mv (.tmp 14), none⟩,
           ⟨(some 104), .bin .add (.tmp 102) (.tmp 103), none⟩,
           ⟨(some 105), .bin .rem (.tmp 104) (.const (.int .i64 13)), none⟩,
           ⟨(some 106), .call 74 [(.tmp 101), (.tmp 105)], none⟩,
           ⟨(some 15), .mv (.tmp 106), none⟩] [2, 13, 14, 15, 95, 96, 97])))
      (.reg [
          ⟨(some 107), .bin .add (.tmp 97) (.const (.int .i64 1)), none⟩,
          ⟨(some 97), .mv (.tmp 107), none⟩] [2, 13, 14, 15, 95, 96, 97])))))))
    (.reg [
        ⟨(some 108), .mv (.tmp 13), none⟩,
        ⟨(some 109), .mv (.tmp 15), none⟩,
        ⟨(some 110), .bslice 29 1 1 [(.slice none 0 0)] [(0, (.tmp 109))], none⟩,
        ⟨(some 111), .app 29 1 24 (.tmp 108) (.tmp 110), none⟩,
        ⟨(some 13), .mv (.tmp 111), none⟩] [2, 13, 14]))))
   (.reg [
       ⟨(some 92), .mv (.tmp 14), none⟩,
       ⟨(some 93), .bin .add (.tmp 92) (.const (.int .i64 1)), none⟩,
       ⟨(some 14), .mv (.tmp 93), none⟩] [2, 13, 14]))))))
 (.seq (.reg [
     ⟨(some 112), .mv (.tmp 13), none⟩,
     ⟨(some 113), .call 61 [(.tmp 112)], none⟩,
     ⟨(some 114), .build [(.int .i64 0), (.slice none 0 0)] [(0, 1, (.const (.int .i64 13))), (1, 1, (.tmp 113))], none⟩,
     ⟨none, .store 2 (.tmp 2) (.tmp 114), none⟩] [2])
 (.ret))))))
theorem s_spec_l10Known : stripF Try.prog 65 [[0, 2], [0, 2, 3], [0, 2, 3, 27], [0, 2, 3, 27, 28], [2], [0, 2, 27, 33], [0, 2, 4], [2, 4, 5], [2, 4, 5, 6], [2, 4, 5, 6], [2, 4, 5, 6, 41], [2, 4, 5, 6, 7], [2, 4, 5, 6, 7], [2, 4, 5, 6, 7, 48], [2, 4, 5, 6, 7], [2, 4, 5, 6, 7], [2, 4, 5, 6], [2], [2, 61], [2, 8], [2, 8, 9], [2, 8, 9], [2, 8, 9, 65], [2, 8, 9, 10], [2, 8, 9, 10, 69, 70, 71], [2, 8, 9, 10, 69, 70, 71], [2, 8, 9, 10, 69, 70, 71, 72], [2, 8, 9, 10, 12, 69, 70, 71], [2, 8, 9, 10, 69, 70, 71], [2, 8, 9, 10, 69, 70, 71], [2, 8, 9], [2, 8, 9], [2], [2, 13], [2, 13, 14], [2, 13, 14], [2, 13, 14, 91], [2, 13, 14, 15], [2, 13, 14, 15, 95, 96, 97], [2, 13, 14, 15, 95, 96, 97], [2, 13, 14, 15, 95, 96, 97, 98], [2, 13, 14, 15, 17, 95, 96, 97], [2, 13, 14, 15, 95, 96, 97], [2, 13, 14, 15, 95, 96, 97], [2, 13, 14], [2, 13, 14], [2]] = some (c_spec_l10Known, [.cell 2 2], 115) := by kernel_rfl
abbrev tyDz : Nat := 26
def smX (xss : List (List Int)) : Prop := xss.length ≤ 400 ∧ ∀ x ∈ xss, x.length ≤ 200 ∧ ∀ z ∈ x, 0 ≤ z ∧ z ≤ 1000
def DesR (H : List Blk) (p : Nat) (code : AV) (t m : Nat) (r : AV) (H' : List Blk) : Prop :=
  ∃ (v : Int) (xss : List (List Int)) (u' : Int) (t' : Nat) (bv : AV) (ext : List Blk), r = .agg [I v, bv] ∧ H' = H.set p (srcB code t' u') ++ ext ∧ TabF H' (fun r => H.length ≤ r) bv xss ∧ (0 ≤ v ∧ v ≤ 1000) ∧ smX xss ∧ t' ≤ t ∧ xss.length ≤ m
theorem tabF_lit {H : List Blk} {N : Nat → Prop} {w ver : Nat} {xss : List (List Int)} (h : H[w]? = some ⟨ver, tyLL, 1, xss.map ilS⟩) (hN : N w) : TabF H N (.nm w ver 0 xss.length) xss :=
  .inr ⟨w, ver, _, rfl, hN, h, by simp, fun j c xs g1 g2 => by
    rw [List.getElem?_map, g2] at g1
    simp at g1
    exact .inl g1.symm⟩
theorem ren_tabF {H : List Blk} {k : Nat} {js : List (Option Nat)} {N : Nat → Prop} {v : AV} {xss : List (List Int)} (h : TabF H N v xss) (hN : ∀ r, N r → k ≤ r ∧ some r ∉ js) : Ren H k js v (ilSS xss) := by
  rcases h with ⟨rfl, rfl⟩ | ⟨t, ver, cells, rfl, h2, h3, h4, h5⟩
  · exact .nilF
  · refine ren_nmC (hN t h2).1 (hN t h2).2 h3 (by omega) (by rw [List.length_map]; omega) fun j c c' g1 g2 => ?_
    rw [List.getElem?_map] at g2
    cases hx : xss[j]? with
    | none => rw [hx] at g2; simp at g2
    | some xs =>
      rw [hx] at g2; simp at g2; rw [← g2]
      rcases h5 j c xs g1 hx with rfl | ⟨rfl, rfl⟩ | ⟨r, ver', rfl, g3, g4⟩
      · exact ren_ilS _
      · exact .nilF
      · refine ren_nmC (hN r g3).1 (hN r g3).2 g4 (by simp) rfl fun j c c' q1 q2 => ?_
        rw [q1] at q2; cases q2
        obtain ⟨x, _, rfl⟩ := List.mem_map.1 (List.mem_of_getElem? q1)
        exact ren_I x
theorem renOk_oneC {H ext : List Blk} {t ver ty sz : Nat} {cells cells' : List AV} (ht : H.length ≤ t) (h : (H ++ ext)[t]? = some ⟨ver, ty, sz, cells⟩) (hsz : sz ≠ 0) (hl : cells'.length ≤ cells.length)
    (hc : ∀ (i : Nat) (c c' : AV), cells[i]? = some c → cells'[i]? = some c' → Ren (H ++ ext) H.length [some t] c c') : RenOk (H ++ ext) H.length [some t] [⟨0, ty, sz, cells'⟩] := by
  refine ⟨rfl, fun p q j hp hq => ?_, fun p j nb hp hn => ?_, fun p nb hp hn => ?_⟩
  · have h1 := (List.getElem?_eq_some_iff.1 hp).1
    have h2 := (List.getElem?_eq_some_iff.1 hq).1
    simp at h1 h2; omega
  · have h1 := (List.getElem?_eq_some_iff.1 hp).1
    have : p = 0 := by simp at h1; omega
    subst this
    simp at hp hn
    subst hp; subst hn
    refine ⟨_, ht, h, hsz, rfl, rfl, rfl, hl, fun i c' hc' => ?_⟩
    have hi := (List.getElem?_eq_some_iff.1 hc').1
    exact ⟨_, List.getElem?_eq_getElem (show i < cells.length from Nat.lt_of_lt_of_le hi hl), hc i _ _ (List.getElem?_eq_getElem _) hc'⟩
  · have h1 := (List.getElem?_eq_some_iff.1 hp).1
    have : p = 0 := by simp at h1; omega
    subst this
    simp at hp
theorem SW.renKL {P : Program} {n k0 k : Nat} {c : SC} {Q : SX → Env → List Blk → Prop} {E E' : Env} {H ext H2 : List Blk} {js : List (Option Nat)} (hk : H.length = k) (hB : HB H) (h0 : k0 ≤ k) (ho : RenOk (H ++ ext) k js H2) (hE : RE (H ++ ext) k js E E') (hw : Av.SW P n k0 c Q E' (H ++ H2)) : Av.SW P n k0 c Q E (H ++ ext) := by
  subst hk; exact SW.renK hB h0 ho hE hw
theorem renOk_oneK {A ext : List Blk} {k t ver ty sz : Nat} {cells cells' : List AV} (hk : A.length = k) (ht : k ≤ t) (h : (A ++ ext)[t]? = some ⟨ver, ty, sz, cells⟩) (hsz : sz ≠ 0) (hl : cells'.length ≤ cells.length)
    (hc : ∀ (i : Nat) (c c' : AV), cells[i]? = some c → cells'[i]? = some c' → Ren (A ++ ext) k [some t] c c') : RenOk (A ++ ext) k [some t] [⟨0, ty, sz, cells'⟩] := by
  subst hk; exact renOk_oneC ht h hsz hl hc
theorem box_ren {H : List Blk} {k i : Nat} {js : List (Option Nat)} {c c' : AV} (g1 : ([I 0, nilS] : List AV)[i]? = some c) (g2 : ([I 0, nilS] : List AV)[i]? = some c') : Ren H k js c c' := by
  rw [g1] at g2; cases g2
  match i, g1 with
  | 0, g1 => cases g1; exact ren_I _
  | 1, g1 => cases g1; exact .old _ (.lit _)
  | i + 2, g1 => simp at g1
def fanoD : List (List Int) := [[0, 1, 3], [1, 2, 4], [2, 3, 5], [3, 4, 6], [0, 4, 5], [1, 5, 6], [0, 2, 6]]
theorem l10Known_ok (H : List Blk) (p : Nat) (code : AV) (ns : List Int) (t : Nat) (u : Int) (hp : H[p]? = some (srcB code t u)) (hc : CodeOk code ns) (hcb : ∀ k, Bel k code) (ht : t ≤ 700000000) :
    ACalls Try.prog f_spec_l10Known [.pc p 0 0] H (DesR H p code (t + 300) 100) := by
  have hlt := (List.getElem?_eq_some_iff.1 hp).1
  have hpp : ∀ t u ext, (H.set p (srcB code t u) ++ ext)[p]? = some (srcB code t u) := fun t u ext => (List.getElem?_append_left (by simpa using hlt)).trans (List.getElem?_set_self hlt)
  have hlS : ∀ t u, (H.set p (srcB code t u)).length = H.length := fun t u => List.length_set
  refine ACalls.introB s_spec_l10Known (by simp) ?_; intro hB hA; unfold c_spec_l10Known; simp (config := { maxSteps := 1000000 }) (disch := (first | omega | (simp only [go_sem]; try omega))) only [go_sem, Nat.reduceAdd, Nat.reduceEqDiff, Nat.reduceLeDiff, Nat.reduceMul, Nat.reduceLT, reduceIte, Int.reduceToNat, w64_id, cast_succ]
  have hBG := fun t u => HB_set hB (p := p) hcb t u
  repeat (first | (with_reducible first | refine SW.seq ?_ | refine SW.block ?_ | refine SW.rowC ?_ | refine SW.skip ?_ | refine SW.exit ?_ | intro _ | refine And.intro (by omega) ?_) | simp (config := { maxSteps := 1000000 }) (disch := (first | omega | (simp only [go_sem]; try omega))) only [go_sem, Nat.reduceAdd, Nat.reduceEqDiff, Nat.reduceLeDiff, Nat.reduceMul, Nat.reduceLT, reduceIte, Int.reduceToNat, w64_id, cast_succ])
  refine (pick_ok _ p code ns t u 4 (get_appU hp _) hc (by omega)).mono ?_
  rintro r H1 ⟨x, u1, t1, rfl, x0, x1, ht1, rfl⟩
  rw [List.set_append_left _ _ hlt]
  have hAB := hBG t1 u1
  have hAl := hlS t1 u1
  have hfin : ∀ (t' : Nat) (u' : Int) (v : Int) (xss : List (List Int)) (w ver : Nat) (ext : List Blk), t' ≤ t + 300 → (H.set p (srcB code t' u') ++ ext)[w]? = some ⟨ver, tyLL, 1, xss.map ilS⟩ → H.length ≤ w → (0 ≤ v ∧ v ≤ 1000) → smX xss → xss.length ≤ 100 → DesR H p code (t + 300) 100 (.agg [I v, .nm w ver 0 xss.length]) (H.set p (srcB code t' u') ++ ext) := fun t' u' v xss w ver ext h0 h1 h2 h3 h4 h5 => ⟨v, xss, u', t', _, ext, rfl, rfl, tabF_lit h1 h2, h3, h4, h0, h5⟩
  have hAset : ∀ t' u', (H.set p (srcB code t1 u1)).set p (srcB code t' u') = H.set p (srcB code t' u') := fun t' u' => List.set_set ..
  have hApp := hpp t1 u1
  have hfinA := hfin t1 u1
  generalize H.set p (srcB code t1 u1) = A at *
  have getA : ∀ (bs : List Blk) (j : Nat), (A ++ bs)[H.length + j]? = bs[j]? := fun bs j => by rw [List.getElem?_append_right (by omega)]; congr 1; omega
  simp (config := { maxSteps := 1000000 }) (disch := (first | omega | (simp only [go_sem]; try omega))) only [go_sem, Nat.reduceAdd, Nat.reduceEqDiff, Nat.reduceLeDiff, Nat.reduceMul, Nat.reduceLT, reduceIte, Int.reduceToNat, w64_id, cast_succ]
  refine SW.renKL (js := [some H.length]) (H2 := [⟨0, tyDz, 1, [I 0, nilS]⟩]) (E' := [(0, .pc p 0 0), (2, .pc H.length 0 0), (3, ilSS fanoD), (27, I x)]) hAl hAB (Nat.le_refl _) (renOk_oneK hAl (Nat.le_refl _) (ver := 0) (cells := [I 0, nilS]) (getA _ 0) (by omega) (Nat.le_refl _) (fun i c c' g1 g2 => ?_)) (.cons _ (.old _ (by simp [go_sem]; omega)) (.cons _ (.pc 0 H.length 0 0 ⟨0, tyDz, 1, [I 0, nilS]⟩ rfl (getA _ 0) rfl) (.cons _ ?_ (.cons _ (ren_I _) .nil)))) ?_
  · rw [g1] at g2; cases g2
    match i, g1 with
    | 0, g1 => cases g1; exact ren_I _
    | 1, g1 => cases g1; exact .old _ (.lit _)
    | i + 2, g1 => simp at g1
  · have h1 : ∀ (k : Nat) (xs : List Int), 1 ≤ k → (fanoD[k - 1]? = some xs) → Ren (A ++ [(⟨0, tyDz, 1, [I 0, nilS]⟩ : Blk), ⟨0, 2, 1, [I 0, I 1, I 3]⟩, ⟨0, 2, 1, [I 1, I 2, I 4]⟩, ⟨0, 2, 1, [I 2, I 3, I 5]⟩, ⟨0, 2, 1, [I 3, I 4, I 6]⟩, ⟨0, 2, 1, [I 0, I 4, I 5]⟩, ⟨0, 2, 1, [I 1, I 5, I 6]⟩, ⟨0, 2, 1, [I 0, I 2, I 6]⟩, ⟨0, tyLL, 1, [.nm (H.length + 1) 0 0 3, .nm (H.length + 2) 0 0 3, .nm (H.length + 3) 0 0 3, .nm (H.length + 4) 0 0 3, .nm (H.length + 5) 0 0 3, .nm (H.length + 6) 0 0 3, .nm (H.length + 7) 0 0 3]⟩]) H.length [some H.length] (.nm (H.length + k) 0 0 3) (ilS xs) := by
      intro k xs hk hx
      have hl : xs.length = 3 := by
        have hm := List.mem_of_getElem? hx
        unfold fanoD at hm
        simp at hm
        rcases hm with rfl | rfl | rfl | rfl | rfl | rfl | rfl <;> rfl
      have hg : (A ++ [(⟨0, tyDz, 1, [I 0, nilS]⟩ : Blk), ⟨0, 2, 1, [I 0, I 1, I 3]⟩, ⟨0, 2, 1, [I 1, I 2, I 4]⟩, ⟨0, 2, 1, [I 2, I 3, I 5]⟩, ⟨0, 2, 1, [I 3, I 4, I 6]⟩, ⟨0, 2, 1, [I 0, I 4, I 5]⟩, ⟨0, 2, 1, [I 1, I 5, I 6]⟩, ⟨0, 2, 1, [I 0, I 2, I 6]⟩, ⟨0, tyLL, 1, [.nm (H.length + 1) 0 0 3, .nm (H.length + 2) 0 0 3, .nm (H.length + 3) 0 0 3, .nm (H.length + 4) 0 0 3, .nm (H.length + 5) 0 0 3, .nm (H.length + 6) 0 0 3, .nm (H.length + 7) 0 0 3]⟩])[H.length + k]? = some ⟨0, 2, 1, xs.map I⟩ := by
        rw [getA]
        obtain ⟨k, rfl⟩ : ∃ q, k = q + 1 := ⟨k - 1, by omega⟩
        rw [Nat.add_sub_cancel] at hx
        rw [List.getElem?_cons_succ]
        match k, hx with
        | 0, hx => cases hx; rfl
        | 1, hx => cases hx; rfl
        | 2, hx => cases hx; rfl
        | 3, hx => cases hx; rfl
        | 4, hx => cases hx; rfl
        | 5, hx => cases hx; rfl
        | 6, hx => cases hx; rfl
        | k + 7, hx => simp [fanoD] at hx
      show Ren _ H.length _ _ (.il xs.length (xs.map I))
      rw [hl]
      refine ren_nmC (by omega) (by simp; omega) hg (by rw [List.length_map, hl]) rfl fun j c c' q1 q2 => ?_
      rw [q1] at q2; cases q2
      obtain ⟨x, _, rfl⟩ := List.mem_map.1 (List.mem_of_getElem? q1)
      exact ren_I x
    refine ren_nmC (ver := 0) (ty := tyLL) (sz := 1) (cells := [.nm (H.length + 1) 0 0 3, .nm (H.length + 2) 0 0 3, .nm (H.length + 3) 0 0 3, .nm (H.length + 4) 0 0 3, .nm (H.length + 5) 0 0 3, .nm (H.length + 6) 0 0 3, .nm (H.length + 7) 0 0 3]) (by omega) (by simp) (getA _ 8) rfl rfl fun j c c' q1 q2 => ?_
    match j, q1, q2 with
    | 0, q1, q2 => cases q1; cases q2; exact h1 1 _ (by omega) rfl
    | 1, q1, q2 => cases q1; cases q2; exact h1 2 _ (by omega) rfl
    | 2, q1, q2 => cases q1; cases q2; exact h1 3 _ (by omega) rfl
    | 3, q1, q2 => cases q1; cases q2; exact h1 4 _ (by omega) rfl
    | 4, q1, q2 => cases q1; cases q2; exact h1 5 _ (by omega) rfl
    | 5, q1, q2 => cases q1; cases q2; exact h1 6 _ (by omega) rfl
    | 6, q1, q2 => cases q1; cases q2; exact h1 7 _ (by omega) rfl
    | j + 7, q1, q2 => simp at q1
  by_cases hx0 : x = 0
  · have d0 : decide (x = 0) = true := decide_eq_true hx0
    repeat (first | (with_reducible first | refine SW.seq ?_ | refine SW.block ?_ | refine SW.rowC ?_ | refine SW.skip ?_ | refine SW.exit ?_ | intro _ | refine And.intro (by omega) ?_) | simp (config := { maxSteps := 1000000 }) (disch := (first | omega | (simp only [go_sem]; try omega))) only [go_sem, Nat.reduceAdd, Nat.reduceEqDiff, Nat.reduceLeDiff, Nat.reduceMul, Nat.reduceLT, reduceIte, Int.reduceToNat, w64_id, cast_succ, d0])
    refine SW.condT rfl ?_
    have hsm : smX fanoD := ⟨by simp [fanoD], fun x hm => by
      unfold fanoD at hm
      simp at hm
      rcases hm with rfl | rfl | rfl | rfl | rfl | rfl | rfl <;> (refine ⟨by simp, fun z hz => ?_⟩; simp at hz; omega)⟩
    repeat (first | (with_reducible first | refine SW.seq ?_ | refine SW.block ?_ | refine SW.rowC ?_ | refine SW.skip ?_ | refine SW.exit ?_ | intro _ | refine And.intro (by omega) ?_) | simp (config := { maxSteps := 1000000 }) (disch := (first | omega | (simp only [go_sem]; try omega))) only [go_sem, Nat.reduceAdd, Nat.reduceEqDiff, Nat.reduceLeDiff, Nat.reduceMul, Nat.reduceLT, reduceIte, Int.reduceToNat, w64_id, cast_succ])
    refine (l10Sort_newL _ (ilSS fanoD) fanoD rfl (by have := hsm.1; omega) (fun x hx => by have := (hsm.2 x hx).1; omega)).mono ?_
    rintro r Z ⟨ver, rfl, rfl⟩
    have hsp := (sortD_fact cmpL_tot fanoD).1
    have hsl : (sortD cmpL fanoD).length = fanoD.length := hsp.length_eq
    have hsx : smX (sortD cmpL fanoD) := ⟨by have := hsm.1; omega, fun x hx => hsm.2 x (hsp.mem_iff.1 hx)⟩
    generalize sortD cmpL fanoD = S at *
    have hzl : (A ++ [(⟨0, tyDz, 1, [I 0, nilS]⟩ : Blk)]).length = H.length + 1 := by simp; omega
    rw [hzl, List.append_assoc]
    have ws : ∀ a b : AV, astore (A ++ [(⟨0, tyDz, 1, [I 0, nilS]⟩ : Blk), ⟨ver, tyLL, 1, S.map ilS⟩]) [a, b] (.pc H.length 0 0) = some (A ++ [⟨0, tyDz, 1, [a, b]⟩, ⟨ver, tyLL, 1, S.map ilS⟩]) := fun a b => (st_at (A := A) (q := H.length) (j := 0) (ver := 0) (ty := tyDz) (sz := 1) (off := 0) (cells := [I 0, nilS]) (cs := [a, b]) (by omega) rfl (Nat.le_refl 2)).trans rfl
    repeat (first | (with_reducible first | refine SW.seq ?_ | refine SW.block ?_ | refine SW.rowC ?_ | refine SW.skip ?_ | refine SW.exit ?_ | intro _ | refine And.intro (by omega) ?_) | simp (config := { maxSteps := 1000000 }) (disch := (first | omega | (simp only [go_sem]; try omega))) only [go_sem, Nat.reduceAdd, Nat.reduceEqDiff, Nat.reduceLeDiff, Nat.reduceMul, Nat.reduceLT, reduceIte, Int.reduceToNat, w64_id, cast_succ, ws])
    refine SW.ret ?_
    refine FunPost.cell (cs := [I 7, .nm (H.length + 1) ver 0 fanoD.length]) ?_ ?_
    · show acells _ 2 (.pc H.length 0 0) = _
      rw [ld_at (A := A) (q := H.length) (j := 0) (ver := 0) (ty := tyDz) (sz := 1) (off := 0) (n := 2) (cells := [I 7, .nm (H.length + 1) ver 0 fanoD.length]) (by omega) rfl (Nat.le_refl 2)]; rfl
    rw [← hsl]
    exact GR.of (hfinA 7 S (H.length + 1) ver _ (by omega) (getA _ 1) (by omega) (by omega) hsx (by rw [hsl]; first | omega | decide))
  have d0 : decide (x = 0) = false := decide_eq_false hx0
  by_cases hx1 : x = 1
  · have d1 : decide (x = 1) = true := decide_eq_true hx1
    repeat (first | (with_reducible first | refine SW.seq ?_ | refine SW.block ?_ | refine SW.rowC ?_ | refine SW.skip ?_ | refine SW.exit ?_ | intro _ | refine And.intro (by omega) ?_) | simp (config := { maxSteps := 1000000 }) (disch := (first | omega | (simp only [go_sem]; try omega))) only [go_sem, Nat.reduceAdd, Nat.reduceEqDiff, Nat.reduceLeDiff, Nat.reduceMul, Nat.reduceLT, reduceIte, Int.reduceToNat, w64_id, cast_succ, d0])
    refine SW.condF rfl ?_
    repeat (first | (with_reducible first | refine SW.seq ?_ | refine SW.block ?_ | refine SW.rowC ?_ | refine SW.skip ?_ | refine SW.exit ?_ | intro _ | refine And.intro (by omega) ?_) | simp (config := { maxSteps := 1000000 }) (disch := (first | omega | (simp only [go_sem]; try omega))) only [go_sem, Nat.reduceAdd, Nat.reduceEqDiff, Nat.reduceLeDiff, Nat.reduceMul, Nat.reduceLT, reduceIte, Int.reduceToNat, w64_id, cast_succ, d1])
    refine SW.condT rfl ?_
    repeat (first | (with_reducible first | refine SW.seq ?_ | refine SW.block ?_ | refine SW.rowC ?_ | refine SW.skip ?_ | refine SW.exit ?_ | intro _ | refine And.intro (by omega) ?_) | simp (config := { maxSteps := 1000000 }) (disch := (first | omega | (simp only [go_sem]; try omega))) only [go_sem, Nat.reduceAdd, Nat.reduceEqDiff, Nat.reduceLeDiff, Nat.reduceMul, Nat.reduceLT, reduceIte, Int.reduceToNat, w64_id, cast_succ, hAl])
    refine (pick_ok _ p code ns t1 u1 4 (hApp _) hc (by omega)).mono ?_
    rintro r H1 ⟨y, u2, t2, rfl, y0, y1, ht2, rfl⟩
    rw [List.set_append_left _ _ (by omega), hAset]
    have hBB := hBG t2 u2
    have hBl := hlS t2 u2
    have hfinB := hfin t2 u2
    generalize H.set p (srcB code t2 u2) = B at *
    have getB : ∀ (bs : List Blk) (j : Nat), (B ++ bs)[H.length + j]? = bs[j]? := fun bs j => by rw [List.getElem?_append_right (by omega)]; congr 1; omega
    obtain ⟨y, rfl⟩ := Int.eq_ofNat_of_zero_le y0
    have hy3 : y ≤ 3 := by omega
    have e1 : (3 : Int) + (y : Int) = ((3 + y : Nat) : Int) := by omega
    repeat (first | (with_reducible first | refine SW.seq ?_ | refine SW.block ?_ | refine SW.rowC ?_ | refine SW.skip ?_ | refine SW.exit ?_ | intro _ | refine And.intro (by omega) ?_) | simp (config := { maxSteps := 1000000 }) (disch := (first | omega | (simp only [go_sem]; try omega))) only [go_sem, Nat.reduceAdd, Nat.reduceEqDiff, Nat.reduceLeDiff, Nat.reduceMul, Nat.reduceLT, reduceIte, Int.reduceToNat, w64_id, cast_succ, e1])
    refine SW.loopE (fun E0 H0 q E' Y => ∃ (a : Nat) (v : AV) (xss : List (List Int)), a ≤ 3 + y ∧ q = 3 + y - a ∧ E' = aput (aput E0 6 (I a)) 4 v ∧ Y[H.length]? = some ⟨0, tyDz, 1, [I 0, nilS]⟩ ∧ TabF Y (fun r => H.length + 1 ≤ r) v xss ∧ smX xss ∧ xss.length ≤ 6 * a ∧ H.length + 1 ≤ Y.length ∧ ∀ j, j < H.length → Y[j]? = B[j]?) (3 + y)
      ⟨0, _, [], by omega, by omega, rfl, getB _ 0, .inr ⟨H.length + 1, 0, [], rfl, by omega, getB _ 1, rfl, fun j c xs h => by simp at h⟩, ⟨by simp, by simp⟩, by simp, by simp; omega, fun j hj => by rw [List.getElem?_append_left (by omega)]⟩ ?_
    rintro q E' Y ⟨a, v, xss, ha, rfl, rfl, hb, htb, hsm, hxl, hYl, hYf⟩
    have hvo := htb.one
    simp (config := { maxSteps := 1000000 }) (disch := (first | omega | (simp only [go_sem]; try omega))) only [go_sem, Nat.reduceAdd, Nat.reduceEqDiff, Nat.reduceLeDiff, Nat.reduceMul, Nat.reduceLT, reduceIte, Int.reduceToNat, w64_id, cast_succ]
    by_cases han : a < 3 + y
    · have d3 : decide ((a : Int) < ((3 + y : Nat) : Int)) = true := decide_eq_true (by omega)
      have e2 : (a : Int) + 1 = ((a + 1 : Nat) : Int) := by omega
      repeat (first | (with_reducible first | refine SW.seq ?_ | refine SW.block ?_ | refine SW.rowC ?_ | refine SW.skip ?_ | refine SW.exit ?_ | intro _ | refine And.intro (by omega) ?_) | simp (config := { maxSteps := 1000000 }) (disch := (first | omega | (simp only [go_sem]; try omega))) only [go_sem, Nat.reduceAdd, Nat.reduceEqDiff, Nat.reduceLeDiff, Nat.reduceMul, Nat.reduceLT, reduceIte, Int.reduceToNat, w64_id, cast_succ, d3, e2])
      refine SW.condT rfl ?_
      repeat (first | (with_reducible first | refine SW.seq ?_ | refine SW.block ?_ | refine SW.rowC ?_ | refine SW.skip ?_ | refine SW.exit ?_ | intro _ | refine And.intro (by omega) ?_) | simp (config := { maxSteps := 1000000 }) (disch := (first | omega | (simp only [go_sem]; try omega))) only [go_sem, Nat.reduceAdd, Nat.reduceEqDiff, Nat.reduceLeDiff, Nat.reduceMul, Nat.reduceLT, reduceIte, Int.reduceToNat, w64_id, cast_succ, e2])
      refine SW.loopE (fun E0 H0 q E' Z => ∃ (b : Nat) (v : AV) (xss : List (List Int)), a + 1 ≤ b ∧ b ≤ 3 + y ∧ q = 3 + y - b ∧ E' = aput (aput E0 7 (I b)) 4 v ∧ Z[H.length]? = some ⟨0, tyDz, 1, [I 0, nilS]⟩ ∧ TabF Z (fun r => H.length + 1 ≤ r) v xss ∧ smX xss ∧ xss.length ≤ 6 * a + (b - a) ∧ H.length + 1 ≤ Z.length ∧ ∀ j, j < H.length → Z[j]? = B[j]?) (3 + y - (a + 1))
        ⟨a + 1, v, xss, by omega, by omega, by omega, by simp [go_sem], hb, htb, hsm, by omega, hYl, hYf⟩ ?_
      rintro q E' Z ⟨b, v, xss, hab, hbn, rfl, rfl, hb, htb, hsm, hxl, hZl, hZf⟩
      have hvo := htb.one
      simp (config := { maxSteps := 1000000 }) (disch := (first | omega | (simp only [go_sem]; try omega))) only [go_sem, Nat.reduceAdd, Nat.reduceEqDiff, Nat.reduceLeDiff, Nat.reduceMul, Nat.reduceLT, reduceIte, Int.reduceToNat, w64_id, cast_succ]
      by_cases hbl : b < 3 + y
      · have d4 : decide ((b : Int) < ((3 + y : Nat) : Int)) = true := decide_eq_true (by omega)
        repeat (first | (with_reducible first | refine SW.seq ?_ | refine SW.block ?_ | refine SW.rowC ?_ | refine SW.skip ?_ | refine SW.exit ?_ | intro _ | refine And.intro (by omega) ?_) | simp (config := { maxSteps := 1000000 }) (disch := (first | omega | (simp only [go_sem]; try omega))) only [go_sem, Nat.reduceAdd, Nat.reduceEqDiff, Nat.reduceLeDiff, Nat.reduceMul, Nat.reduceLT, reduceIte, Int.reduceToNat, w64_id, cast_succ, d4])
        refine SW.condT rfl ?_
        repeat (first | (with_reducible first | refine SW.seq ?_ | refine SW.block ?_ | refine SW.rowC ?_ | refine SW.skip ?_ | refine SW.exit ?_ | intro _ | refine And.intro (by omega) ?_) | simp (config := { maxSteps := 1000000 }) (disch := (first | omega | (simp only [go_sem]; try omega))) only [go_sem, Nat.reduceAdd, Nat.reduceEqDiff, Nat.reduceLeDiff, Nat.reduceMul, Nat.reduceLT, reduceIte, Int.reduceToNat, w64_id, cast_succ])
        refine TabF.app (N := fun r => H.length + 1 ≤ r) (yss := [[(a : Int), (b : Int)]]) (htb.same (fun r hr _ => hr) (fun j bl _ hbb => get_appB2 hbb _)) rfl (fun j c ys g1 g2 => ?_) (by simp; omega) (by have := hsm.1; simp; omega) ?_
        · cases j with
          | succ j => simp at g1
          | zero =>
            simp at g1 g2
            subst g1; subst g2
            exact .inr (.inr ⟨Z.length, 0, rfl, hZl, by rw [List.getElem?_append_right (Nat.le_refl _), Nat.sub_self]; rfl⟩)
        intro v' W c1 hWl hWt hWf hWn
        have hl0 := (List.getElem?_eq_some_iff.1 hb).1
        repeat (first | (with_reducible first | refine SW.seq ?_ | refine SW.block ?_ | refine SW.rowC ?_ | refine SW.skip ?_ | refine SW.exit ?_ | intro _ | refine And.intro (by omega) ?_) | simp (config := { maxSteps := 1000000 }) (disch := (first | omega | (simp only [go_sem]; try omega))) only [go_sem, Nat.reduceAdd, Nat.reduceEqDiff, Nat.reduceLeDiff, Nat.reduceMul, Nat.reduceLT, reduceIte, Int.reduceToNat, w64_id, cast_succ, c1.1, c1.2])
        refine SLoop.next (3 + y - (b + 1)) (by omega) ⟨b + 1, v', xss ++ [[(a : Int), (b : Int)]], by omega, by omega, rfl, by simp [go_sem], hWf _ _ (get_appB2 hb _) (show tyDz ≠ tyLL by decide), hWt, ⟨by simp; omega, fun x hx => ?_⟩, by simp; omega, by simp at hWl; omega, fun j hj => ?_⟩
        · rcases List.mem_append.1 hx with h | h
          · exact hsm.2 x h
          · rw [List.mem_singleton.1 h]
            exact ⟨by simp, fun z hz => by simp at hz; omega⟩
        · rw [hWn j (by omega) (by simp; omega), List.getElem?_append_left (by omega)]; exact hZf j hj
      · have d4 : decide ((b : Int) < ((3 + y : Nat) : Int)) = false := decide_eq_false (by omega)
        repeat (first | (with_reducible first | refine SW.seq ?_ | refine SW.block ?_ | refine SW.rowC ?_ | refine SW.skip ?_ | refine SW.exit ?_ | intro _ | refine And.intro (by omega) ?_) | simp (config := { maxSteps := 1000000 }) (disch := (first | omega | (simp only [go_sem]; try omega))) only [go_sem, Nat.reduceAdd, Nat.reduceEqDiff, Nat.reduceLeDiff, Nat.reduceMul, Nat.reduceLT, reduceIte, Int.reduceToNat, w64_id, cast_succ, d4])
        refine SW.condF rfl ?_
        repeat (first | (with_reducible first | refine SW.seq ?_ | refine SW.block ?_ | refine SW.rowC ?_ | refine SW.skip ?_ | refine SW.exit ?_ | intro _ | refine And.intro (by omega) ?_) | simp (config := { maxSteps := 1000000 }) (disch := (first | omega | (simp only [go_sem]; try omega))) only [go_sem, Nat.reduceAdd, Nat.reduceEqDiff, Nat.reduceLeDiff, Nat.reduceMul, Nat.reduceLT, reduceIte, Int.reduceToNat, w64_id, cast_succ, e2])
        exact SLoop.next (3 + y - (a + 1)) (by omega) ⟨a + 1, v, xss, by omega, rfl, by simp [go_sem], hb, htb, hsm, by omega, hZl, hZf⟩
    · have d3 : decide ((a : Int) < ((3 + y : Nat) : Int)) = false := decide_eq_false (by omega)
      repeat (first | (with_reducible first | refine SW.seq ?_ | refine SW.block ?_ | refine SW.rowC ?_ | refine SW.skip ?_ | refine SW.exit ?_ | intro _ | refine And.intro (by omega) ?_) | simp (config := { maxSteps := 1000000 }) (disch := (first | omega | (simp only [go_sem]; try omega))) only [go_sem, Nat.reduceAdd, Nat.reduceEqDiff, Nat.reduceLeDiff, Nat.reduceMul, Nat.reduceLT, reduceIte, Int.reduceToNat, w64_id, cast_succ, d3])
      obtain ⟨ext, he⟩ := ext_ofD (H := B) (H1 := Y) (by omega) (fun j hj => hYf j (by omega))
      subst he
      refine SW.renKL (js := [some H.length]) (H2 := [⟨0, tyDz, 1, [I 0, nilS]⟩]) (E' := [(2, .pc H.length 0 0), (4, ilSS xss), (5, I (3 + y : Nat)), (6, I a), (41, Bv false)]) hBl hBB (Nat.le_refl _) (renOk_oneK hBl (Nat.le_refl _) (ver := 0) (cells := [I 0, nilS]) hb (by omega) (Nat.le_refl _) (fun i c c' g1 g2 => box_ren g1 g2)) (.cons _ (.pc 0 H.length 0 0 _ rfl hb rfl) (.cons _ (ren_tabF htb (fun r hr => ⟨by omega, by simp; omega⟩)) (.cons _ (ren_I _) (.cons _ (ren_I _) (.cons _ (ren_B _) .nil))))) ?_
      refine SW.condF rfl ?_
      repeat (first | (with_reducible first | refine SW.seq ?_ | refine SW.block ?_ | refine SW.rowC ?_ | refine SW.skip ?_ | refine SW.exit ?_ | intro _ | refine And.intro (by omega) ?_) | simp (config := { maxSteps := 1000000 }) (disch := (first | omega | (simp only [go_sem]; try omega))) only [go_sem, Nat.reduceAdd, Nat.reduceEqDiff, Nat.reduceLeDiff, Nat.reduceMul, Nat.reduceLT, reduceIte, Int.reduceToNat, w64_id, cast_succ])
      refine (l10Sort_newL _ (ilSS xss) xss rfl (by have := hsm.1; omega) (fun x hx => by have := (hsm.2 x hx).1; omega)).mono ?_
      rintro r Z ⟨ver, rfl, rfl⟩
      have hsp := (sortD_fact cmpL_tot xss).1
      have hsl : (sortD cmpL xss).length = xss.length := hsp.length_eq
      have hsx : smX (sortD cmpL xss) := ⟨by have := hsm.1; omega, fun x hx => hsm.2 x (hsp.mem_iff.1 hx)⟩
      generalize sortD cmpL xss = S at *
      have hzl : (B ++ [(⟨0, tyDz, 1, [I 0, nilS]⟩ : Blk)]).length = H.length + 1 := by simp; omega
      rw [hzl, List.append_assoc]
      have ws : ∀ a b : AV, astore (B ++ [(⟨0, tyDz, 1, [I 0, nilS]⟩ : Blk), ⟨ver, tyLL, 1, S.map ilS⟩]) [a, b] (.pc H.length 0 0) = some (B ++ [⟨0, tyDz, 1, [a, b]⟩, ⟨ver, tyLL, 1, S.map ilS⟩]) := fun a b => (st_at (A := B) (q := H.length) (j := 0) (ver := 0) (ty := tyDz) (sz := 1) (off := 0) (cells := [I 0, nilS]) (cs := [a, b]) (by omega) rfl (Nat.le_refl 2)).trans rfl
      repeat (first | (with_reducible first | refine SW.seq ?_ | refine SW.block ?_ | refine SW.rowC ?_ | refine SW.skip ?_ | refine SW.exit ?_ | intro _ | refine And.intro (by omega) ?_) | simp (config := { maxSteps := 1000000 }) (disch := (first | omega | (simp only [go_sem]; try omega))) only [go_sem, Nat.reduceAdd, Nat.reduceEqDiff, Nat.reduceLeDiff, Nat.reduceMul, Nat.reduceLT, reduceIte, Int.reduceToNat, w64_id, cast_succ, ws])
      refine SW.ret ?_
      refine FunPost.cell (cs := [I ((3 + y : Nat) : Int), .nm (H.length + 1) ver 0 xss.length]) ?_ ?_
      · show acells _ 2 (.pc H.length 0 0) = _
        rw [ld_at (A := B) (q := H.length) (j := 0) (ver := 0) (ty := tyDz) (sz := 1) (off := 0) (n := 2) (cells := [I ((3 + y : Nat) : Int), .nm (H.length + 1) ver 0 xss.length]) (by omega) rfl (Nat.le_refl 2)]; rfl
      rw [← hsl]
      exact GR.of (hfinB ((3 + y : Nat) : Int) S (H.length + 1) ver _ (by omega) (getB _ 1) (by omega) (by omega) hsx (by rw [hsl]; first | omega | decide))
  have d1 : decide (x = 1) = false := decide_eq_false hx1
  by_cases hx2 : x = 2
  · have d2 : decide (x = 2) = true := decide_eq_true hx2
    repeat (first | (with_reducible first | refine SW.seq ?_ | refine SW.block ?_ | refine SW.rowC ?_ | refine SW.skip ?_ | refine SW.exit ?_ | intro _ | refine And.intro (by omega) ?_) | simp (config := { maxSteps := 1000000 }) (disch := (first | omega | (simp only [go_sem]; try omega))) only [go_sem, Nat.reduceAdd, Nat.reduceEqDiff, Nat.reduceLeDiff, Nat.reduceMul, Nat.reduceLT, reduceIte, Int.reduceToNat, w64_id, cast_succ, d0])
    refine SW.condF rfl ?_
    repeat (first | (with_reducible first | refine SW.seq ?_ | refine SW.block ?_ | refine SW.rowC ?_ | refine SW.skip ?_ | refine SW.exit ?_ | intro _ | refine And.intro (by omega) ?_) | simp (config := { maxSteps := 1000000 }) (disch := (first | omega | (simp only [go_sem]; try omega))) only [go_sem, Nat.reduceAdd, Nat.reduceEqDiff, Nat.reduceLeDiff, Nat.reduceMul, Nat.reduceLT, reduceIte, Int.reduceToNat, w64_id, cast_succ, d1])
    refine SW.condF rfl ?_
    repeat (first | (with_reducible first | refine SW.seq ?_ | refine SW.block ?_ | refine SW.rowC ?_ | refine SW.skip ?_ | refine SW.exit ?_ | intro _ | refine And.intro (by omega) ?_) | simp (config := { maxSteps := 1000000 }) (disch := (first | omega | (simp only [go_sem]; try omega))) only [go_sem, Nat.reduceAdd, Nat.reduceEqDiff, Nat.reduceLeDiff, Nat.reduceMul, Nat.reduceLT, reduceIte, Int.reduceToNat, w64_id, cast_succ, d2])
    refine SW.condT rfl ?_
    repeat (first | (with_reducible first | refine SW.seq ?_ | refine SW.block ?_ | refine SW.rowC ?_ | refine SW.skip ?_ | refine SW.exit ?_ | intro _ | refine And.intro (by omega) ?_) | simp (config := { maxSteps := 1000000 }) (disch := (first | omega | (simp only [go_sem]; try omega))) only [go_sem, Nat.reduceAdd, Nat.reduceEqDiff, Nat.reduceLeDiff, Nat.reduceMul, Nat.reduceLT, reduceIte, Int.reduceToNat, w64_id, cast_succ, hAl])
    refine SW.loopE (fun E0 H0 q E' Y => ∃ (a : Nat) (v : AV) (xss : List (List Int)), a ≤ 11 ∧ q = 11 - a ∧ E' = aput (aput E0 9 (I a)) 8 v ∧ Y[H.length]? = some ⟨0, tyDz, 1, [I 0, nilS]⟩ ∧ TabF Y (fun r => H.length + 1 ≤ r) v xss ∧ smX xss ∧ xss.length ≤ a ∧ H.length + 1 ≤ Y.length ∧ ∀ j, j < H.length → Y[j]? = A[j]?) 11
      ⟨0, _, [], by omega, by omega, rfl, getA _ 0, .inr ⟨H.length + 1, 0, [], rfl, by omega, getA _ 1, rfl, fun j c xs h => by simp at h⟩, ⟨by simp, by simp⟩, by simp, by simp; omega, fun j hj => by rw [List.getElem?_append_left (by omega)]⟩ ?_
    rintro q E' Y ⟨a, v, xss, ha, rfl, rfl, hb, htb, hsm, hxl, hYl, hYf⟩
    have hvo := htb.one
    simp (config := { maxSteps := 1000000 }) (disch := (first | omega | (simp only [go_sem]; try omega))) only [go_sem, Nat.reduceAdd, Nat.reduceEqDiff, Nat.reduceLeDiff, Nat.reduceMul, Nat.reduceLT, reduceIte, Int.reduceToNat, w64_id, cast_succ]
    by_cases han : a < 11
    · have d3 : decide ((a : Int) < 11) = true := decide_eq_true (by omega)
      repeat (first | (with_reducible first | refine SW.seq ?_ | refine SW.block ?_ | refine SW.rowC ?_ | refine SW.skip ?_ | refine SW.exit ?_ | intro _ | refine And.intro (by omega) ?_) | simp (config := { maxSteps := 1000000 }) (disch := (first | omega | (simp only [go_sem]; try omega))) only [go_sem, Nat.reduceAdd, Nat.reduceEqDiff, Nat.reduceLeDiff, Nat.reduceMul, Nat.reduceLT, reduceIte, Int.reduceToNat, w64_id, cast_succ, d3])
      refine SW.condT rfl ?_
      repeat (first | (with_reducible first | refine SW.seq ?_ | refine SW.block ?_ | refine SW.rowC ?_ | refine SW.skip ?_ | refine SW.exit ?_ | intro _ | refine And.intro (by omega) ?_) | simp (config := { maxSteps := 1000000 }) (disch := (first | omega | (simp only [go_sem]; try omega))) only [go_sem, Nat.reduceAdd, Nat.reduceEqDiff, Nat.reduceLeDiff, Nat.reduceMul, Nat.reduceLT, reduceIte, Int.reduceToNat, w64_id, cast_succ])
      have hcb0 : ∀ c ∈ ([1, 3, 4, 5, 9] : List Int), 0 ≤ c ∧ c ≤ 13 := by decide
      have hl0 := (List.getElem?_eq_some_iff.1 hb).1
      refine SW.loopE (fun E0 H0 q E' Z => ∃ (j i : Nat) (s : List Int), j ≤ 5 ∧ q = 5 - j ∧ E' = aput (aput E0 71 (I j)) 10 (.nm i 0 0 s.length) ∧ Z[i]? = some ⟨0, 2, 1, s.map I⟩ ∧ Y.length ≤ i ∧ Z[Y.length + 1]? = some ⟨0, 2, 1, ([1, 3, 4, 5, 9] : List Int).map I⟩ ∧ s.length ≤ j ∧ (∀ z ∈ s, 0 ≤ z ∧ z ≤ 1000) ∧ Y.length ≤ Z.length ∧ ∀ j, j < Y.length → Z[j]? = Y[j]?) 5
        ⟨0, Y.length, [], by omega, by omega, rfl, by simp, Nat.le_refl _, by rw [List.getElem?_append_right (by omega), show Y.length + 1 - Y.length = 1 by omega]; rfl, by simp, by simp, by simp, fun j hj => by rw [List.getElem?_append_left hj]⟩ ?_
      rintro q E' Z ⟨j, i, s, hj, rfl, rfl, hZi, hii, hZc, hsl, hsb, hZl, hZf⟩
      have hvc : aview Z (.nm (Y.length + 1) 0 0 5) = some (5, ([1, 3, 4, 5, 9] : List Int).map I) := view_nm hZc rfl
      have hZil := (List.getElem?_eq_some_iff.1 hZi).1
      simp (config := { maxSteps := 1000000 }) (disch := (first | omega | (simp only [go_sem]; try omega))) only [go_sem, Nat.reduceAdd, Nat.reduceEqDiff, Nat.reduceLeDiff, Nat.reduceMul, Nat.reduceLT, reduceIte, Int.reduceToNat, w64_id, cast_succ]
      by_cases hjn : j < 5
      · have d4 : decide ((j : Int) < ((5 : Nat) : Int)) = true := decide_eq_true (by omega)
        have hcj : (([1, 3, 4, 5, 9] : List Int).map I)[j]? = some (I (([1, 3, 4, 5, 9] : List Int).getD j 0)) := by
          rw [List.getElem?_map, List.getElem?_eq_getElem (show j < ([1, 3, 4, 5, 9] : List Int).length from hjn), getD_getC (show j < ([1, 3, 4, 5, 9] : List Int).length from hjn)]; rfl
        have hcj2 : ([I 1, I 3, I 4, I 5, I 9] : List AV)[j]? = some (I (([1, 3, 4, 5, 9] : List Int).getD j 0)) := hcj
        have hcb1 := hcb0 (([1, 3, 4, 5, 9] : List Int).getD j 0) (by rw [getD_getC (show j < ([1, 3, 4, 5, 9] : List Int).length from hjn)]; exact List.getElem_mem _)
        generalize ([1, 3, 4, 5, 9] : List Int).getD j 0 = c0 at *
        have htm : 0 ≤ (c0 + (a : Int)).tmod 11 ∧ (c0 + (a : Int)).tmod 11 < 11 := by
          rw [Int.tmod_eq_emod_of_nonneg (by omega)]; omega
        repeat (first | (with_reducible first | refine SW.seq ?_ | refine SW.block ?_ | refine SW.rowC ?_ | refine SW.skip ?_ | refine SW.exit ?_ | intro _ | refine And.intro (by omega) ?_) | simp (config := { maxSteps := 1000000 }) (disch := (first | omega | (simp only [go_sem]; try omega))) only [go_sem, Nat.reduceAdd, Nat.reduceEqDiff, Nat.reduceLeDiff, Nat.reduceMul, Nat.reduceLT, reduceIte, Int.reduceToNat, w64_id, cast_succ, d4])
        refine SW.condT rfl ?_
        clear hcj
        repeat (first | (with_reducible first | refine SW.seq ?_ | refine SW.block ?_ | refine SW.rowC ?_ | refine SW.skip ?_ | refine SW.exit ?_ | intro _ | refine And.intro (by omega) ?_) | simp (config := { maxSteps := 1000000 }) (disch := (first | omega | (simp only [go_sem]; try omega))) only [go_sem, Nat.reduceAdd, Nat.reduceEqDiff, Nat.reduceLeDiff, Nat.reduceMul, Nat.reduceLT, reduceIte, Int.reduceToNat, w64_id, cast_succ, hvc, hcj2])
        have hne : ¬ (11 : Int) = 0 := by omega
        refine ((l00Put_new s ((c0 + (a : Int)).tmod 11) (by omega)).lend (.cons (froz_rowI (Nat.zero_le _) hZi) (.cons (froz_I' _) .nil))).mono ?_
        rintro r W ⟨rfl, rfl⟩
        have hpl := putL_len ((c0 + (a : Int)).tmod 11) s
        have hpm := putL_mem ((c0 + (a : Int)).tmod 11) s
        generalize putL ((c0 + (a : Int)).tmod 11) s = s2 at *
        repeat (first | (with_reducible first | refine SW.seq ?_ | refine SW.block ?_ | refine SW.rowC ?_ | refine SW.skip ?_ | refine SW.exit ?_ | intro _ | refine And.intro (by omega) ?_) | simp (config := { maxSteps := 1000000 }) (disch := (first | omega | (simp only [go_sem]; try omega))) only [go_sem, Nat.reduceAdd, Nat.reduceEqDiff, Nat.reduceLeDiff, Nat.reduceMul, Nat.reduceLT, reduceIte, Int.reduceToNat, w64_id, cast_succ])
        refine SLoop.next (5 - (j + 1)) (by omega) ⟨j + 1, Z.length, s2, by omega, rfl, by simp [go_sem], by rw [List.getElem?_append_right (Nat.le_refl _), Nat.sub_self]; rfl, hZl, get_appB2 hZc _, by omega, fun z hz => ?_, by simp; omega, fun j hj => by rw [List.getElem?_append_left (by omega)]; exact hZf j hj⟩
        rcases (hpm z).1 hz with h | rfl
        · exact hsb z h
        · omega
      · have d4 : decide ((j : Int) < ((5 : Nat) : Int)) = false := decide_eq_false (by omega)
        repeat (first | (with_reducible first | refine SW.seq ?_ | refine SW.block ?_ | refine SW.rowC ?_ | refine SW.skip ?_ | refine SW.exit ?_ | intro _ | refine And.intro (by omega) ?_) | simp (config := { maxSteps := 1000000 }) (disch := (first | omega | (simp only [go_sem]; try omega))) only [go_sem, Nat.reduceAdd, Nat.reduceEqDiff, Nat.reduceLeDiff, Nat.reduceMul, Nat.reduceLT, reduceIte, Int.reduceToNat, w64_id, cast_succ, d4])
        refine SW.condF rfl ?_
        repeat (first | (with_reducible first | refine SW.seq ?_ | refine SW.block ?_ | refine SW.rowC ?_ | refine SW.skip ?_ | refine SW.exit ?_ | intro _ | refine And.intro (by omega) ?_) | simp (config := { maxSteps := 1000000 }) (disch := (first | omega | (simp only [go_sem]; try omega))) only [go_sem, Nat.reduceAdd, Nat.reduceEqDiff, Nat.reduceLeDiff, Nat.reduceMul, Nat.reduceLT, reduceIte, Int.reduceToNat, w64_id, cast_succ])
        have htz : TabF Z (fun r => H.length + 1 ≤ r) v xss := htb.same (fun r hr _ => hr) (fun j bl _ hbb => by rw [hZf j (List.getElem?_eq_some_iff.1 hbb).1]; exact hbb)
        have hbz : Z[H.length]? = some ⟨0, tyDz, 1, [I 0, nilS]⟩ := (hZf _ hl0).trans hb
        refine TabF.app (N := fun r => H.length + 1 ≤ r) (yss := [s]) (htz.same (fun r hr _ => hr) (fun j bl _ hbb => get_appB2 hbb _)) rfl (fun j c ys g1 g2 => ?_) (by simp; omega) (by have := hsm.1; simp; omega) ?_
        · cases j with
          | succ j => simp at g1
          | zero =>
            simp at g1 g2
            subst g1; subst g2
            exact .inr (.inr ⟨i, 0, rfl, by omega, get_appB2 hZi _⟩)
        intro v' W c1 hWl hWt hWf hWn
        repeat (first | (with_reducible first | refine SW.seq ?_ | refine SW.block ?_ | refine SW.rowC ?_ | refine SW.skip ?_ | refine SW.exit ?_ | intro _ | refine And.intro (by omega) ?_) | simp (config := { maxSteps := 1000000 }) (disch := (first | omega | (simp only [go_sem]; try omega))) only [go_sem, Nat.reduceAdd, Nat.reduceEqDiff, Nat.reduceLeDiff, Nat.reduceMul, Nat.reduceLT, reduceIte, Int.reduceToNat, w64_id, cast_succ, c1.1, c1.2])
        refine SLoop.next (11 - (a + 1)) (by omega) ⟨a + 1, v', xss ++ [s], by omega, rfl, by simp [go_sem], hWf _ _ (get_appB2 hbz _) (show tyDz ≠ tyLL by decide), hWt, ⟨by simp; omega, fun x hx => ?_⟩, by simp; omega, by simp at hWl; omega, fun j hj => ?_⟩
        · rcases List.mem_append.1 hx with h | h
          · exact hsm.2 x h
          · rw [List.mem_singleton.1 h]; exact ⟨by omega, hsb⟩
        · rw [hWn j (by omega) (by simp; omega), List.getElem?_append_left (by omega), hZf j (by omega)]; exact hYf j hj
    · have d3 : decide ((a : Int) < 11) = false := decide_eq_false (by omega)
      repeat (first | (with_reducible first | refine SW.seq ?_ | refine SW.block ?_ | refine SW.rowC ?_ | refine SW.skip ?_ | refine SW.exit ?_ | intro _ | refine And.intro (by omega) ?_) | simp (config := { maxSteps := 1000000 }) (disch := (first | omega | (simp only [go_sem]; try omega))) only [go_sem, Nat.reduceAdd, Nat.reduceEqDiff, Nat.reduceLeDiff, Nat.reduceMul, Nat.reduceLT, reduceIte, Int.reduceToNat, w64_id, cast_succ, d3])
      obtain ⟨ext, he⟩ := ext_ofD (H := A) (H1 := Y) (by omega) (fun j hj => hYf j (by omega))
      subst he
      refine SW.renKL (js := [some H.length]) (H2 := [⟨0, tyDz, 1, [I 0, nilS]⟩]) (E' := [(2, .pc H.length 0 0), (8, ilSS xss), (9, I a), (65, Bv false)]) hAl hAB (Nat.le_refl _) (renOk_oneK hAl (Nat.le_refl _) (ver := 0) (cells := [I 0, nilS]) hb (by omega) (Nat.le_refl _) (fun i c c' g1 g2 => box_ren g1 g2)) (.cons _ (.pc 0 H.length 0 0 _ rfl hb rfl) (.cons _ (ren_tabF htb (fun r hr => ⟨by omega, by simp; omega⟩)) (.cons _ (ren_I _) (.cons _ (ren_B _) .nil)))) ?_
      refine SW.condF rfl ?_
      repeat (first | (with_reducible first | refine SW.seq ?_ | refine SW.block ?_ | refine SW.rowC ?_ | refine SW.skip ?_ | refine SW.exit ?_ | intro _ | refine And.intro (by omega) ?_) | simp (config := { maxSteps := 1000000 }) (disch := (first | omega | (simp only [go_sem]; try omega))) only [go_sem, Nat.reduceAdd, Nat.reduceEqDiff, Nat.reduceLeDiff, Nat.reduceMul, Nat.reduceLT, reduceIte, Int.reduceToNat, w64_id, cast_succ])
      refine (l10Sort_newL _ (ilSS xss) xss rfl (by have := hsm.1; omega) (fun x hx => by have := (hsm.2 x hx).1; omega)).mono ?_
      rintro r Z ⟨ver, rfl, rfl⟩
      have hsp := (sortD_fact cmpL_tot xss).1
      have hsl : (sortD cmpL xss).length = xss.length := hsp.length_eq
      have hsx : smX (sortD cmpL xss) := ⟨by have := hsm.1; omega, fun x hx => hsm.2 x (hsp.mem_iff.1 hx)⟩
      generalize sortD cmpL xss = S at *
      have hzl : (A ++ [(⟨0, tyDz, 1, [I 0, nilS]⟩ : Blk)]).length = H.length + 1 := by simp; omega
      rw [hzl, List.append_assoc]
      have ws : ∀ a b : AV, astore (A ++ [(⟨0, tyDz, 1, [I 0, nilS]⟩ : Blk), ⟨ver, tyLL, 1, S.map ilS⟩]) [a, b] (.pc H.length 0 0) = some (A ++ [⟨0, tyDz, 1, [a, b]⟩, ⟨ver, tyLL, 1, S.map ilS⟩]) := fun a b => (st_at (A := A) (q := H.length) (j := 0) (ver := 0) (ty := tyDz) (sz := 1) (off := 0) (cells := [I 0, nilS]) (cs := [a, b]) (by omega) rfl (Nat.le_refl 2)).trans rfl
      repeat (first | (with_reducible first | refine SW.seq ?_ | refine SW.block ?_ | refine SW.rowC ?_ | refine SW.skip ?_ | refine SW.exit ?_ | intro _ | refine And.intro (by omega) ?_) | simp (config := { maxSteps := 1000000 }) (disch := (first | omega | (simp only [go_sem]; try omega))) only [go_sem, Nat.reduceAdd, Nat.reduceEqDiff, Nat.reduceLeDiff, Nat.reduceMul, Nat.reduceLT, reduceIte, Int.reduceToNat, w64_id, cast_succ, ws])
      refine SW.ret ?_
      refine FunPost.cell (cs := [I 11, .nm (H.length + 1) ver 0 xss.length]) ?_ ?_
      · show acells _ 2 (.pc H.length 0 0) = _
        rw [ld_at (A := A) (q := H.length) (j := 0) (ver := 0) (ty := tyDz) (sz := 1) (off := 0) (n := 2) (cells := [I 11, .nm (H.length + 1) ver 0 xss.length]) (by omega) rfl (Nat.le_refl 2)]; rfl
      rw [← hsl]
      exact GR.of (hfinA 11 S (H.length + 1) ver _ (by omega) (getA _ 1) (by omega) (by omega) hsx (by rw [hsl]; first | omega | decide))
  have d2 : decide (x = 2) = false := decide_eq_false hx2
  repeat (first | (with_reducible first | refine SW.seq ?_ | refine SW.block ?_ | refine SW.rowC ?_ | refine SW.skip ?_ | refine SW.exit ?_ | intro _ | refine And.intro (by omega) ?_) | simp (config := { maxSteps := 1000000 }) (disch := (first | omega | (simp only [go_sem]; try omega))) only [go_sem, Nat.reduceAdd, Nat.reduceEqDiff, Nat.reduceLeDiff, Nat.reduceMul, Nat.reduceLT, reduceIte, Int.reduceToNat, w64_id, cast_succ, d0])
  refine SW.condF rfl ?_
  repeat (first | (with_reducible first | refine SW.seq ?_ | refine SW.block ?_ | refine SW.rowC ?_ | refine SW.skip ?_ | refine SW.exit ?_ | intro _ | refine And.intro (by omega) ?_) | simp (config := { maxSteps := 1000000 }) (disch := (first | omega | (simp only [go_sem]; try omega))) only [go_sem, Nat.reduceAdd, Nat.reduceEqDiff, Nat.reduceLeDiff, Nat.reduceMul, Nat.reduceLT, reduceIte, Int.reduceToNat, w64_id, cast_succ, d1])
  refine SW.condF rfl ?_
  repeat (first | (with_reducible first | refine SW.seq ?_ | refine SW.block ?_ | refine SW.rowC ?_ | refine SW.skip ?_ | refine SW.exit ?_ | intro _ | refine And.intro (by omega) ?_) | simp (config := { maxSteps := 1000000 }) (disch := (first | omega | (simp only [go_sem]; try omega))) only [go_sem, Nat.reduceAdd, Nat.reduceEqDiff, Nat.reduceLeDiff, Nat.reduceMul, Nat.reduceLT, reduceIte, Int.reduceToNat, w64_id, cast_succ, d2])
  refine SW.condF rfl ?_
  repeat (first | (with_reducible first | refine SW.seq ?_ | refine SW.block ?_ | refine SW.rowC ?_ | refine SW.skip ?_ | refine SW.exit ?_ | intro _ | refine And.intro (by omega) ?_) | simp (config := { maxSteps := 1000000 }) (disch := (first | omega | (simp only [go_sem]; try omega))) only [go_sem, Nat.reduceAdd, Nat.reduceEqDiff, Nat.reduceLeDiff, Nat.reduceMul, Nat.reduceLT, reduceIte, Int.reduceToNat, w64_id, cast_succ, hAl])
  refine SW.loopE (fun E0 H0 q E' Y => ∃ (a : Nat) (v : AV) (xss : List (List Int)), a ≤ 13 ∧ q = 13 - a ∧ E' = aput (aput E0 14 (I a)) 13 v ∧ Y[H.length]? = some ⟨0, tyDz, 1, [I 0, nilS]⟩ ∧ TabF Y (fun r => H.length + 1 ≤ r) v xss ∧ smX xss ∧ xss.length ≤ a ∧ H.length + 1 ≤ Y.length ∧ ∀ j, j < H.length → Y[j]? = A[j]?) 13
    ⟨0, _, [], by omega, by omega, rfl, getA _ 0, .inr ⟨H.length + 1, 0, [], rfl, by omega, getA _ 1, rfl, fun j c xs h => by simp at h⟩, ⟨by simp, by simp⟩, by simp, by simp; omega, fun j hj => by rw [List.getElem?_append_left (by omega)]⟩ ?_
  rintro q E' Y ⟨a, v, xss, ha, rfl, rfl, hb, htb, hsm, hxl, hYl, hYf⟩
  have hvo := htb.one
  simp (config := { maxSteps := 1000000 }) (disch := (first | omega | (simp only [go_sem]; try omega))) only [go_sem, Nat.reduceAdd, Nat.reduceEqDiff, Nat.reduceLeDiff, Nat.reduceMul, Nat.reduceLT, reduceIte, Int.reduceToNat, w64_id, cast_succ]
  by_cases han : a < 13
  · have d3 : decide ((a : Int) < 13) = true := decide_eq_true (by omega)
    repeat (first | (with_reducible first | refine SW.seq ?_ | refine SW.block ?_ | refine SW.rowC ?_ | refine SW.skip ?_ | refine SW.exit ?_ | intro _ | refine And.intro (by omega) ?_) | simp (config := { maxSteps := 1000000 }) (disch := (first | omega | (simp only [go_sem]; try omega))) only [go_sem, Nat.reduceAdd, Nat.reduceEqDiff, Nat.reduceLeDiff, Nat.reduceMul, Nat.reduceLT, reduceIte, Int.reduceToNat, w64_id, cast_succ, d3])
    refine SW.condT rfl ?_
    repeat (first | (with_reducible first | refine SW.seq ?_ | refine SW.block ?_ | refine SW.rowC ?_ | refine SW.skip ?_ | refine SW.exit ?_ | intro _ | refine And.intro (by omega) ?_) | simp (config := { maxSteps := 1000000 }) (disch := (first | omega | (simp only [go_sem]; try omega))) only [go_sem, Nat.reduceAdd, Nat.reduceEqDiff, Nat.reduceLeDiff, Nat.reduceMul, Nat.reduceLT, reduceIte, Int.reduceToNat, w64_id, cast_succ])
    have hcb0 : ∀ c ∈ ([0, 1, 3, 9] : List Int), 0 ≤ c ∧ c ≤ 13 := by decide
    have hl0 := (List.getElem?_eq_some_iff.1 hb).1
    refine SW.loopE (fun E0 H0 q E' Z => ∃ (j i : Nat) (s : List Int), j ≤ 4 ∧ q = 4 - j ∧ E' = aput (aput E0 97 (I j)) 15 (.nm i 0 0 s.length) ∧ Z[i]? = some ⟨0, 2, 1, s.map I⟩ ∧ Y.length ≤ i ∧ Z[Y.length + 1]? = some ⟨0, 2, 1, ([0, 1, 3, 9] : List Int).map I⟩ ∧ s.length ≤ j ∧ (∀ z ∈ s, 0 ≤ z ∧ z ≤ 1000) ∧ Y.length ≤ Z.length ∧ ∀ j, j < Y.length → Z[j]? = Y[j]?) 4
      ⟨0, Y.length, [], by omega, by omega, rfl, by simp, Nat.le_refl _, by rw [List.getElem?_append_right (by omega), show Y.length + 1 - Y.length = 1 by omega]; rfl, by simp, by simp, by simp, fun j hj => by rw [List.getElem?_append_left hj]⟩ ?_
    rintro q E' Z ⟨j, i, s, hj, rfl, rfl, hZi, hii, hZc, hsl, hsb, hZl, hZf⟩
    have hvc : aview Z (.nm (Y.length + 1) 0 0 4) = some (4, ([0, 1, 3, 9] : List Int).map I) := view_nm hZc rfl
    have hZil := (List.getElem?_eq_some_iff.1 hZi).1
    simp (config := { maxSteps := 1000000 }) (disch := (first | omega | (simp only [go_sem]; try omega))) only [go_sem, Nat.reduceAdd, Nat.reduceEqDiff, Nat.reduceLeDiff, Nat.reduceMul, Nat.reduceLT, reduceIte, Int.reduceToNat, w64_id, cast_succ]
    by_cases hjn : j < 4
    · have d4 : decide ((j : Int) < ((4 : Nat) : Int)) = true := decide_eq_true (by omega)
      have hcj : (([0, 1, 3, 9] : List Int).map I)[j]? = some (I (([0, 1, 3, 9] : List Int).getD j 0)) := by
        rw [List.getElem?_map, List.getElem?_eq_getElem (show j < ([0, 1, 3, 9] : List Int).length from hjn), getD_getC (show j < ([0, 1, 3, 9] : List Int).length from hjn)]; rfl
      have hcj2 : ([I 0, I 1, I 3, I 9] : List AV)[j]? = some (I (([0, 1, 3, 9] : List Int).getD j 0)) := hcj
      have hcb1 := hcb0 (([0, 1, 3, 9] : List Int).getD j 0) (by rw [getD_getC (show j < ([0, 1, 3, 9] : List Int).length from hjn)]; exact List.getElem_mem _)
      generalize ([0, 1, 3, 9] : List Int).getD j 0 = c0 at *
      have htm : 0 ≤ (c0 + (a : Int)).tmod 13 ∧ (c0 + (a : Int)).tmod 13 < 13 := by
        rw [Int.tmod_eq_emod_of_nonneg (by omega)]; omega
      repeat (first | (with_reducible first | refine SW.seq ?_ | refine SW.block ?_ | refine SW.rowC ?_ | refine SW.skip ?_ | refine SW.exit ?_ | intro _ | refine And.intro (by omega) ?_) | simp (config := { maxSteps := 1000000 }) (disch := (first | omega | (simp only [go_sem]; try omega))) only [go_sem, Nat.reduceAdd, Nat.reduceEqDiff, Nat.reduceLeDiff, Nat.reduceMul, Nat.reduceLT, reduceIte, Int.reduceToNat, w64_id, cast_succ, d4])
      refine SW.condT rfl ?_
      clear hcj
      repeat (first | (with_reducible first | refine SW.seq ?_ | refine SW.block ?_ | refine SW.rowC ?_ | refine SW.skip ?_ | refine SW.exit ?_ | intro _ | refine And.intro (by omega) ?_) | simp (config := { maxSteps := 1000000 }) (disch := (first | omega | (simp only [go_sem]; try omega))) only [go_sem, Nat.reduceAdd, Nat.reduceEqDiff, Nat.reduceLeDiff, Nat.reduceMul, Nat.reduceLT, reduceIte, Int.reduceToNat, w64_id, cast_succ, hvc, hcj2])
      have hne : ¬ (13 : Int) = 0 := by omega
      refine ((l00Put_new s ((c0 + (a : Int)).tmod 13) (by omega)).lend (.cons (froz_rowI (Nat.zero_le _) hZi) (.cons (froz_I' _) .nil))).mono ?_
      rintro r W ⟨rfl, rfl⟩
      have hpl := putL_len ((c0 + (a : Int)).tmod 13) s
      have hpm := putL_mem ((c0 + (a : Int)).tmod 13) s
      generalize putL ((c0 + (a : Int)).tmod 13) s = s2 at *
      repeat (first | (with_reducible first | refine SW.seq ?_ | refine SW.block ?_ | refine SW.rowC ?_ | refine SW.skip ?_ | refine SW.exit ?_ | intro _ | refine And.intro (by omega) ?_) | simp (config := { maxSteps := 1000000 }) (disch := (first | omega | (simp only [go_sem]; try omega))) only [go_sem, Nat.reduceAdd, Nat.reduceEqDiff, Nat.reduceLeDiff, Nat.reduceMul, Nat.reduceLT, reduceIte, Int.reduceToNat, w64_id, cast_succ])
      refine SLoop.next (4 - (j + 1)) (by omega) ⟨j + 1, Z.length, s2, by omega, rfl, by simp [go_sem], by rw [List.getElem?_append_right (Nat.le_refl _), Nat.sub_self]; rfl, hZl, get_appB2 hZc _, by omega, fun z hz => ?_, by simp; omega, fun j hj => by rw [List.getElem?_append_left (by omega)]; exact hZf j hj⟩
      rcases (hpm z).1 hz with h | rfl
      · exact hsb z h
      · omega
    · have d4 : decide ((j : Int) < ((4 : Nat) : Int)) = false := decide_eq_false (by omega)
      repeat (first | (with_reducible first | refine SW.seq ?_ | refine SW.block ?_ | refine SW.rowC ?_ | refine SW.skip ?_ | refine SW.exit ?_ | intro _ | refine And.intro (by omega) ?_) | simp (config := { maxSteps := 1000000 }) (disch := (first | omega | (simp only [go_sem]; try omega))) only [go_sem, Nat.reduceAdd, Nat.reduceEqDiff, Nat.reduceLeDiff, Nat.reduceMul, Nat.reduceLT, reduceIte, Int.reduceToNat, w64_id, cast_succ, d4])
      refine SW.condF rfl ?_
      repeat (first | (with_reducible first | refine SW.seq ?_ | refine SW.block ?_ | refine SW.rowC ?_ | refine SW.skip ?_ | refine SW.exit ?_ | intro _ | refine And.intro (by omega) ?_) | simp (config := { maxSteps := 1000000 }) (disch := (first | omega | (simp only [go_sem]; try omega))) only [go_sem, Nat.reduceAdd, Nat.reduceEqDiff, Nat.reduceLeDiff, Nat.reduceMul, Nat.reduceLT, reduceIte, Int.reduceToNat, w64_id, cast_succ])
      have htz : TabF Z (fun r => H.length + 1 ≤ r) v xss := htb.same (fun r hr _ => hr) (fun j bl _ hbb => by rw [hZf j (List.getElem?_eq_some_iff.1 hbb).1]; exact hbb)
      have hbz : Z[H.length]? = some ⟨0, tyDz, 1, [I 0, nilS]⟩ := (hZf _ hl0).trans hb
      refine TabF.app (N := fun r => H.length + 1 ≤ r) (yss := [s]) (htz.same (fun r hr _ => hr) (fun j bl _ hbb => get_appB2 hbb _)) rfl (fun j c ys g1 g2 => ?_) (by simp; omega) (by have := hsm.1; simp; omega) ?_
      · cases j with
        | succ j => simp at g1
        | zero =>
          simp at g1 g2
          subst g1; subst g2
          exact .inr (.inr ⟨i, 0, rfl, by omega, get_appB2 hZi _⟩)
      intro v' W c1 hWl hWt hWf hWn
      repeat (first | (with_reducible first | refine SW.seq ?_ | refine SW.block ?_ | refine SW.rowC ?_ | refine SW.skip ?_ | refine SW.exit ?_ | intro _ | refine And.intro (by omega) ?_) | simp (config := { maxSteps := 1000000 }) (disch := (first | omega | (simp only [go_sem]; try omega))) only [go_sem, Nat.reduceAdd, Nat.reduceEqDiff, Nat.reduceLeDiff, Nat.reduceMul, Nat.reduceLT, reduceIte, Int.reduceToNat, w64_id, cast_succ, c1.1, c1.2])
      refine SLoop.next (13 - (a + 1)) (by omega) ⟨a + 1, v', xss ++ [s], by omega, rfl, by simp [go_sem], hWf _ _ (get_appB2 hbz _) (show tyDz ≠ tyLL by decide), hWt, ⟨by simp; omega, fun x hx => ?_⟩, by simp; omega, by simp at hWl; omega, fun j hj => ?_⟩
      · rcases List.mem_append.1 hx with h | h
        · exact hsm.2 x h
        · rw [List.mem_singleton.1 h]; exact ⟨by omega, hsb⟩
      · rw [hWn j (by omega) (by simp; omega), List.getElem?_append_left (by omega), hZf j (by omega)]; exact hYf j hj
  · have d3 : decide ((a : Int) < 13) = false := decide_eq_false (by omega)
    repeat (first | (with_reducible first | refine SW.seq ?_ | refine SW.block ?_ | refine SW.rowC ?_ | refine SW.skip ?_ | refine SW.exit ?_ | intro _ | refine And.intro (by omega) ?_) | simp (config := { maxSteps := 1000000 }) (disch := (first | omega | (simp only [go_sem]; try omega))) only [go_sem, Nat.reduceAdd, Nat.reduceEqDiff, Nat.reduceLeDiff, Nat.reduceMul, Nat.reduceLT, reduceIte, Int.reduceToNat, w64_id, cast_succ, d3])
    obtain ⟨ext, he⟩ := ext_ofD (H := A) (H1 := Y) (by omega) (fun j hj => hYf j (by omega))
    subst he
    refine SW.renKL (js := [some H.length]) (H2 := [⟨0, tyDz, 1, [I 0, nilS]⟩]) (E' := [(2, .pc H.length 0 0), (13, ilSS xss), (14, I a), (91, Bv false)]) hAl hAB (Nat.le_refl _) (renOk_oneK hAl (Nat.le_refl _) (ver := 0) (cells := [I 0, nilS]) hb (by omega) (Nat.le_refl _) (fun i c c' g1 g2 => box_ren g1 g2)) (.cons _ (.pc 0 H.length 0 0 _ rfl hb rfl) (.cons _ (ren_tabF htb (fun r hr => ⟨by omega, by simp; omega⟩)) (.cons _ (ren_I _) (.cons _ (ren_B _) .nil)))) ?_
    refine SW.condF rfl ?_
    repeat (first | (with_reducible first | refine SW.seq ?_ | refine SW.block ?_ | refine SW.rowC ?_ | refine SW.skip ?_ | refine SW.exit ?_ | intro _ | refine And.intro (by omega) ?_) | simp (config := { maxSteps := 1000000 }) (disch := (first | omega | (simp only [go_sem]; try omega))) only [go_sem, Nat.reduceAdd, Nat.reduceEqDiff, Nat.reduceLeDiff, Nat.reduceMul, Nat.reduceLT, reduceIte, Int.reduceToNat, w64_id, cast_succ])
    refine (l10Sort_newL _ (ilSS xss) xss rfl (by have := hsm.1; omega) (fun x hx => by have := (hsm.2 x hx).1; omega)).mono ?_
    rintro r Z ⟨ver, rfl, rfl⟩
    have hsp := (sortD_fact cmpL_tot xss).1
    have hsl : (sortD cmpL xss).length = xss.length := hsp.length_eq
    have hsx : smX (sortD cmpL xss) := ⟨by have := hsm.1; omega, fun x hx => hsm.2 x (hsp.mem_iff.1 hx)⟩
    generalize sortD cmpL xss = S at *
    have hzl : (A ++ [(⟨0, tyDz, 1, [I 0, nilS]⟩ : Blk)]).length = H.length + 1 := by simp; omega
    rw [hzl, List.append_assoc]
    have ws : ∀ a b : AV, astore (A ++ [(⟨0, tyDz, 1, [I 0, nilS]⟩ : Blk), ⟨ver, tyLL, 1, S.map ilS⟩]) [a, b] (.pc H.length 0 0) = some (A ++ [⟨0, tyDz, 1, [a, b]⟩, ⟨ver, tyLL, 1, S.map ilS⟩]) := fun a b => (st_at (A := A) (q := H.length) (j := 0) (ver := 0) (ty := tyDz) (sz := 1) (off := 0) (cells := [I 0, nilS]) (cs := [a, b]) (by omega) rfl (Nat.le_refl 2)).trans rfl
    repeat (first | (with_reducible first | refine SW.seq ?_ | refine SW.block ?_ | refine SW.rowC ?_ | refine SW.skip ?_ | refine SW.exit ?_ | intro _ | refine And.intro (by omega) ?_) | simp (config := { maxSteps := 1000000 }) (disch := (first | omega | (simp only [go_sem]; try omega))) only [go_sem, Nat.reduceAdd, Nat.reduceEqDiff, Nat.reduceLeDiff, Nat.reduceMul, Nat.reduceLT, reduceIte, Int.reduceToNat, w64_id, cast_succ, ws])
    refine SW.ret ?_
    refine FunPost.cell (cs := [I 13, .nm (H.length + 1) ver 0 xss.length]) ?_ ?_
    · show acells _ 2 (.pc H.length 0 0) = _
      rw [ld_at (A := A) (q := H.length) (j := 0) (ver := 0) (ty := tyDz) (sz := 1) (off := 0) (n := 2) (cells := [I 13, .nm (H.length + 1) ver 0 xss.length]) (by omega) rfl (Nat.le_refl 2)]; rfl
    rw [← hsl]
    exact GR.of (hfinA 13 S (H.length + 1) ver _ (by omega) (getA _ 1) (by omega) (by omega) hsx (by rw [hsl]; first | omega | decide))
end Go.Proofs.Ytnlfokkljgbaaaa
namespace Go.Proofs.Ytnlfokkljgbaaaa
open Go.Av
abbrev f_spec_l10Draw : Nat := 41
def c_spec_l10Draw : SC :=
 .seq (.reg [
     ⟨(some 2), .alloc 26 [(.int .i64 0), (.slice none 0 0)], none⟩] [0, 2])
 (.seq (.seq (.reg [
     ⟨(some 4), .mv (.tmp 0), none⟩,
     ⟨(some 5), .call 19 [(.tmp 4), (.const (.int .i64 2))], none⟩] [0, 2, 5])
 (.cond (.tmp 5)
  (.seq (.reg [
      ⟨(some 6), .mv (.tmp 0), none⟩,
      ⟨(some 7), .call 65 [(.tmp 6)], none⟩,
      ⟨none, .store 2 (.tmp 2) (.tmp 7), none⟩] [2])
  (.ret))
  (.skip)))
 (.seq (.reg [
     ⟨(some 8), .mv (.tmp 0), none⟩,
     ⟨(some 9), .call 21 [(.tmp 8), (.const (.int .i64 9))], none⟩,
     ⟨(some 10), .bin .add (.const (.int .i64 1)) (.tmp 9), none⟩,
     ⟨(some 3), .mv (.tmp 10), none⟩] [0, 2, 3])
 (.seq (.reg [
     ⟨(some 11), .mv (.tmp 3), none⟩,
     ⟨(some 12), .mv (.tmp 0), none⟩,
     ⟨(some 13), .mv (.tmp 3), none⟩,
     ⟨(some 14), .call 48 [(.tmp 12), (.tmp 13)], none⟩,
     ⟨(some 15), .call 61 [(.tmp 14)], none⟩,
     ⟨(some 16), .build [(.int .i64 0), (.slice none 0 0)] [(0, 1, (.tmp 11)), (1, 1, (.tmp 15))], none⟩,
     ⟨none, .store 2 (.tmp 2) (.tmp 16), none⟩] [2])
 (.ret))))
theorem s_spec_l10Draw : stripF Try.prog 41 [[0, 2], [0, 2, 5], [2], [0, 2, 3], [2]] = some (c_spec_l10Draw, [.cell 2 2], 17) := by kernel_rfl
theorem get_skip {A ext : List Blk} {a b : Blk} {w : Nat} (h : A.length < w) : (A ++ (a :: ext))[w]? = (A ++ (b :: ext))[w]? := by
  obtain ⟨j, rfl⟩ : ∃ j, w = A.length + (j + 1) := ⟨w - A.length - 1, by omega⟩
  rw [List.getElem?_append_right (by omega), List.getElem?_append_right (by omega), Nat.add_sub_cancel_left, List.getElem?_cons_succ, List.getElem?_cons_succ]
theorem l10Draw_ok (H : List Blk) (p : Nat) (code : AV) (ns : List Int) (t : Nat) (u : Int) (hp : H[p]? = some (srcB code t u)) (hc : CodeOk code ns) (hcb : ∀ k, Bel k code) (ht : t ≤ 600000000) :
    ACalls Try.prog f_spec_l10Draw [.pc p 0 0] H (DesR H p code (t + 400) 100) := by
  have hlt := (List.getElem?_eq_some_iff.1 hp).1
  have hpp : ∀ t u ext, (H.set p (srcB code t u) ++ ext)[p]? = some (srcB code t u) := fun t u ext => (List.getElem?_append_left (by simpa using hlt)).trans (List.getElem?_set_self hlt)
  have hlS : ∀ t u, (H.set p (srcB code t u)).length = H.length := fun t u => List.length_set
  have hset : ∀ t u t' u' (ext : List Blk), (H.set p (srcB code t u) ++ ext).set p (srcB code t' u') = H.set p (srcB code t' u') ++ ext := fun t u t' u' ext => by
    rw [List.set_append_left _ _ (by simpa using hlt), List.set_set]
  have hst : ∀ t u (a b x y : AV) (ext : List Blk), astore (H.set p (srcB code t u) ++ ((⟨0, tyDz, 1, [x, y]⟩ : Blk) :: ext)) [a, b] (.pc H.length 0 0) = some (H.set p (srcB code t u) ++ (⟨0, tyDz, 1, [a, b]⟩ :: ext)) := fun t u a b x y ext =>
    (st_at (A := H.set p (srcB code t u)) (q := H.length) (j := 0) (ver := 0) (ty := tyDz) (sz := 1) (off := 0) (cells := [x, y]) (cs := [a, b]) (by rw [hlS]; rfl) rfl (Nat.le_refl 2)).trans rfl
  have hld : ∀ t u (x y : AV) (ext : List Blk), acells (H.set p (srcB code t u) ++ ((⟨0, tyDz, 1, [x, y]⟩ : Blk) :: ext)) 2 (.pc H.length 0 0) = some [x, y] := fun t u x y ext =>
    (ld_at (A := H.set p (srcB code t u)) (q := H.length) (j := 0) (ver := 0) (ty := tyDz) (sz := 1) (off := 0) (n := 2) (cells := [x, y]) (by rw [hlS]; rfl) rfl (Nat.le_refl 2)).trans rfl
  refine ACalls.introB s_spec_l10Draw (by simp) ?_; intro hB hA; unfold c_spec_l10Draw; simp (config := { maxSteps := 1000000 }) (disch := (first | omega | (simp only [go_sem]; try omega))) only [go_sem, Nat.reduceAdd, Nat.reduceEqDiff, Nat.reduceLeDiff, Nat.reduceMul, Nat.reduceLT, reduceIte, Int.reduceToNat, w64_id, cast_succ]
  repeat (first | (with_reducible first | refine SW.seq ?_ | refine SW.block ?_ | refine SW.rowC ?_ | refine SW.skip ?_ | refine SW.exit ?_ | intro _ | refine And.intro (by omega) ?_) | simp (config := { maxSteps := 1000000 }) (disch := (first | omega | (simp only [go_sem]; try omega))) only [go_sem, Nat.reduceAdd, Nat.reduceEqDiff, Nat.reduceLeDiff, Nat.reduceMul, Nat.reduceLT, reduceIte, Int.reduceToNat, w64_id, cast_succ])
  refine (one_ok _ p code ns t u 2 (get_appU hp _) hc (by omega)).mono ?_
  rintro r H1 ⟨b, u1, t1, rfl, ht1, rfl⟩
  rw [List.set_append_left _ _ hlt]
  cases b
  · repeat (first | (with_reducible first | refine SW.seq ?_ | refine SW.block ?_ | refine SW.rowC ?_ | refine SW.skip ?_ | refine SW.exit ?_ | intro _ | refine And.intro (by omega) ?_) | simp (config := { maxSteps := 1000000 }) (disch := (first | omega | (simp only [go_sem]; try omega))) only [go_sem, Nat.reduceAdd, Nat.reduceEqDiff, Nat.reduceLeDiff, Nat.reduceMul, Nat.reduceLT, reduceIte, Int.reduceToNat, w64_id, cast_succ])
    refine SW.condF rfl ?_
    repeat (first | (with_reducible first | refine SW.seq ?_ | refine SW.block ?_ | refine SW.rowC ?_ | refine SW.skip ?_ | refine SW.exit ?_ | intro _ | refine And.intro (by omega) ?_) | simp (config := { maxSteps := 1000000 }) (disch := (first | omega | (simp only [go_sem]; try omega))) only [go_sem, Nat.reduceAdd, Nat.reduceEqDiff, Nat.reduceLeDiff, Nat.reduceMul, Nat.reduceLT, reduceIte, Int.reduceToNat, w64_id, cast_succ])
    refine (pick_ok _ p code ns t1 u1 9 (hpp _ _ _) hc (by omega)).mono ?_
    rintro r H1 ⟨y, u2, t2, rfl, y0, y1, ht2, rfl⟩
    rw [hset]
    obtain ⟨y, rfl⟩ := Int.eq_ofNat_of_zero_le y0
    have hy : y ≤ 8 := by omega
    have e1 : (1 : Int) + (y : Int) = ((1 + y : Nat) : Int) := by omega
    repeat (first | (with_reducible first | refine SW.seq ?_ | refine SW.block ?_ | refine SW.rowC ?_ | refine SW.skip ?_ | refine SW.exit ?_ | intro _ | refine And.intro (by omega) ?_) | simp (config := { maxSteps := 1000000 }) (disch := (first | omega | (simp only [go_sem]; try omega))) only [go_sem, Nat.reduceAdd, Nat.reduceEqDiff, Nat.reduceLeDiff, Nat.reduceMul, Nat.reduceLT, reduceIte, Int.reduceToNat, w64_id, cast_succ, e1])
    refine (l10DrawBlocks_ok _ p code ns t2 u2 ((1 + y : Nat) : Int) (hpp _ _ _) hc hcb (by omega) (by omega)).mono ?_
    rintro r H1 ⟨bl, u3, t3, rfl, hbl, ht3, rfl⟩
    rw [hset]
    repeat (first | (with_reducible first | refine SW.seq ?_ | refine SW.block ?_ | refine SW.rowC ?_ | refine SW.skip ?_ | refine SW.exit ?_ | intro _ | refine And.intro (by omega) ?_) | simp (config := { maxSteps := 1000000 }) (disch := (first | omega | (simp only [go_sem]; try omega))) only [go_sem, Nat.reduceAdd, Nat.reduceEqDiff, Nat.reduceLeDiff, Nat.reduceMul, Nat.reduceLT, reduceIte, Int.reduceToNat, w64_id, cast_succ])
    refine (l10Sort_newL _ (ilSS bl) bl rfl (by have := hbl.1; omega) (fun x hx => by have := (hbl.2 x hx).1; omega)).mono ?_
    rintro r Z ⟨ver, rfl, rfl⟩
    have hsp := (sortD_fact cmpL_tot bl).1
    have hsl : (sortD cmpL bl).length = bl.length := hsp.length_eq
    have hsx : smX (sortD cmpL bl) := ⟨by have := hbl.1; omega, fun x hx => by
      obtain ⟨q1, q2⟩ := hbl.2 x (hsp.mem_iff.1 hx)
      exact ⟨by omega, fun z hz => by have := q2 z hz; omega⟩⟩
    generalize sortD cmpL bl = S at *
    have hzl : (H.set p (srcB code t3 u3) ++ [(⟨0, tyDz, 1, [I 0, nilS]⟩ : Blk)]).length = H.length + 1 := by simp
    rw [hzl, List.append_assoc]
    repeat (first | (with_reducible first | refine SW.seq ?_ | refine SW.block ?_ | refine SW.rowC ?_ | refine SW.skip ?_ | refine SW.exit ?_ | intro _ | refine And.intro (by omega) ?_) | simp (config := { maxSteps := 1000000 }) (disch := (first | omega | (simp only [go_sem]; try omega))) only [go_sem, Nat.reduceAdd, Nat.reduceEqDiff, Nat.reduceLeDiff, Nat.reduceMul, Nat.reduceLT, reduceIte, Int.reduceToNat, w64_id, cast_succ, hst])
    refine SW.ret ?_
    refine FunPost.cell (cs := [I ((1 + y : Nat) : Int), .nm (H.length + 1) ver 0 bl.length]) (hld _ _ _ _ _) ?_
    rw [← hsl]
    exact GR.of ⟨_, S, u3, t3, _, _, rfl, rfl, tabF_lit (by rw [List.getElem?_append_right (by rw [hlS]; omega), hlS, Nat.add_sub_cancel_left]; rfl) (show H.length ≤ H.length + 1 by omega), by omega, hsx, by omega, by have := hbl.1; omega⟩
  · repeat (first | (with_reducible first | refine SW.seq ?_ | refine SW.block ?_ | refine SW.rowC ?_ | refine SW.skip ?_ | refine SW.exit ?_ | intro _ | refine And.intro (by omega) ?_) | simp (config := { maxSteps := 1000000 }) (disch := (first | omega | (simp only [go_sem]; try omega))) only [go_sem, Nat.reduceAdd, Nat.reduceEqDiff, Nat.reduceLeDiff, Nat.reduceMul, Nat.reduceLT, reduceIte, Int.reduceToNat, w64_id, cast_succ])
    refine SW.condT rfl ?_
    repeat (first | (with_reducible first | refine SW.seq ?_ | refine SW.block ?_ | refine SW.rowC ?_ | refine SW.skip ?_ | refine SW.exit ?_ | intro _ | refine And.intro (by omega) ?_) | simp (config := { maxSteps := 1000000 }) (disch := (first | omega | (simp only [go_sem]; try omega))) only [go_sem, Nat.reduceAdd, Nat.reduceEqDiff, Nat.reduceLeDiff, Nat.reduceMul, Nat.reduceLT, reduceIte, Int.reduceToNat, w64_id, cast_succ])
    refine (l10Known_ok _ p code ns t1 u1 (hpp _ _ _) hc hcb (by omega)).mono ?_
    rintro r H1 ⟨v, xss, u2, t2, bv, ext, rfl, rfl, hw, hv, hsm, ht2, hxl⟩
    have hone := hw.one
    rw [List.length_append, hlS] at hw
    simp only [List.length_cons, List.length_nil] at hw
    rw [hset] at hw ⊢
    rw [List.append_assoc] at hw ⊢
    repeat (first | (with_reducible first | refine SW.seq ?_ | refine SW.block ?_ | refine SW.rowC ?_ | refine SW.skip ?_ | refine SW.exit ?_ | intro _ | refine And.intro (by omega) ?_) | simp (config := { maxSteps := 1000000 }) (disch := (first | omega | (simp only [go_sem]; try omega))) only [go_sem, Nat.reduceAdd, Nat.reduceEqDiff, Nat.reduceLeDiff, Nat.reduceMul, Nat.reduceLT, reduceIte, Int.reduceToNat, w64_id, cast_succ, hst, hone.1, hone.2])
    refine SW.ret ?_
    refine FunPost.cell (cs := [I v, bv]) (hld _ _ _ _ _) ?_
    refine GR.of ⟨v, xss, u2, t2, bv, _, rfl, rfl, hw.same (fun r hr _ => by omega) (fun j b hj hb => ?_), hv, hsm, by omega, hxl⟩
    rw [← hb]
    exact get_skip (by rw [hlS]; omega)
end Go.Proofs.Ytnlfokkljgbaaaa
namespace Go.Proofs.Ytnlfokkljgbaaaa
open Go.Av
abbrev f_spec_l10Bent : Nat := 22
def c_spec_l10Bent : SC :=
 .seq (.reg [
     ⟨(some 2), .alloc 26 [(.int .i64 0), (.slice none 0 0)], none⟩] [0, 2])
 (.seq (.reg [
     ⟨(some 5), .mv (.tmp 0), none⟩,
     ⟨(some 6), .call 41 [(.tmp 5)], none⟩,
     ⟨(some 3), .alloc 26 [(.int .i64 0), (.slice none 0 0)], none⟩,
     ⟨none, .store 2 (.tmp 3) (.tmp 6), none⟩] [0, 2, 3])
 (.seq (.seq (.reg [
     ⟨(some 7), .mv (.tmp 0), none⟩,
     ⟨(some 8), .call 21 [(.tmp 7), (.const (.int .i64 24))], none⟩] [0, 2, 3, 8])
 (.block 0 (.seq (.reg [
      ⟨(some 10), .bin .eql (.tmp 8) (.const (.int .i64 0)), none⟩,
      ⟨(some 9), .mv (.tmp 10), none⟩] [0, 2, 3, 8, 9])
  (.cond (.tmp 9)
   (.reg [
       ⟨(some 11), .mv (.tmp 0), none⟩,
       ⟨(some 12), .bslice 2 1 3 [(.int .i64 0), (.int .i64 0), (.int .i64 0)] [(0, (.const (.int .i64 0))), (1, (.const (.int .i64 32))), (2, (.const (.int .i64 33)))], none⟩,
       ⟨(some 13), .call 35 [(.tmp 11), (.tmp 12)], none⟩,
       ⟨(some 14), .faddr 0 (.tmp 3), none⟩,
       ⟨none, .store 1 (.tmp 14) (.tmp 13), none⟩] [2, 3])
   (.seq (.reg [
       ⟨(some 16), .bin .eql (.tmp 8) (.const (.int .i64 1)), none⟩,
       ⟨(some 15), .mv (.tmp 16), none⟩] [0, 2, 3, 8, 15])
   (.cond (.tmp 15)
    (.reg [
        ⟨(some 17), .faddr 1 (.tmp 3), none⟩,
        ⟨(some 18), .load 1 false (.tmp 17), none⟩,
        ⟨(some 19), .bslice 2 1 0 [] [], none⟩,
        ⟨(some 20), .bslice 29 1 1 [(.slice none 0 0)] [(0, (.tmp 19))], none⟩,
        ⟨(some 21), .app 29 1 24 (.tmp 18) (.tmp 20), none⟩,
        ⟨(some 22), .faddr 1 (.tmp 3), none⟩,
        ⟨none, .store 1 (.tmp 22) (.tmp 21), none⟩] [2, 3])
    (.seq (.reg [
        ⟨(some 24), .bin .eql (.tmp 8) (.const (.int .i64 2)), none⟩,
        ⟨(some 23), .mv (.tmp 24), none⟩] [0, 2, 3, 8, 23])
    (.cond (.tmp 23)
     (.reg [
         ⟨(some 25), .faddr 1 (.tmp 3), none⟩,
         ⟨(some 26), .load 1 false (.tmp 25), none⟩,
         ⟨(some 27), .bslice 2 1 1 [(.int .i64 0)] [(0, (.const (.int .i64 0)))], none⟩,
         ⟨(some 28), .bslice 29 1 1 [(.slice none 0 0)] [(0, (.tmp 27))], none⟩,
         ⟨(some 29), .app 29 1 24 (.tmp 26) (.tmp 28), none⟩,
         ⟨(some 30), .faddr 1 (.tmp 3), none⟩,
         ⟨none, .store 1 (.tmp 30) (.tmp 29), none⟩] [2, 3])
     (.seq (.reg [
         ⟨(some 32), .bin .eql (.tmp 8) (.const (.int .i64 3)), none⟩,
         ⟨(some 31), .mv (.tmp 32), none⟩] [0, 2, 3, 8, 31])
     (.cond (.tmp 31)
      (.reg [
          ⟨(some 33), .faddr 1 (.tmp 3), none⟩,
          ⟨(some 34), .load 1 false (.tmp 33), none⟩,
          ⟨(some 35), .faddr 0 (.tmp 3), none⟩,
          ⟨(some 36), .load 1 false (.tmp 35), none⟩,
          ⟨(some 37), .bslice 2 1 1 [(.int .i64 0)] [(0, (.tmp 36))], none⟩,
          ⟨(some 38), .bslice 29 1 1 [(.slice none 0 0)] [(0, (.tmp 37))], none⟩,
          ⟨(some 39), .app 29 1 24 (.tmp 34) (.tmp 38), none⟩,
          ⟨(some 40), .faddr 1 (.tmp 3), none⟩,
          ⟨none, .store 1 (.tmp 40) (.tmp 39), none⟩] [2, 3])
      (.seq (.reg [
          ⟨(some 42), .bin .eql (.tmp 8) (.const (.int .i64 4)), none⟩,
          ⟨(some 41), .mv (.tmp 42), none⟩] [0, 2, 3, 41])
      (.cond (.tmp 41)
       (.seq (.reg [
           ⟨(some 43), .build [(.int .i64 0), (.slice none 0 0)] [(0, 1, (.const (.int .i64 3)))], none⟩,
           ⟨none, .store 2 (.tmp 3) (.tmp 43), none⟩] [0, 2, 3])
       (.seq (.reg [
           ⟨(some 44), .mv (.tmp 0), none⟩,
           ⟨(some 45), .call 21 [(.tmp 44), (.const (.int .i64 3))], none⟩,
           ⟨(some 46), .bin .add (.const (.int .i64 127)) (.tmp 45), none⟩,
           ⟨(some 4), .mv (.tmp 46), none⟩] [2, 3, 4])
       (.block 1 (.loop [2, 3, 4]
         (.seq (.seq (.reg [
             ⟨(some 47), .faddr 1 (.tmp 3), none⟩,
             ⟨(some 48), .load 1 false (.tmp 47), none⟩,
             ⟨(some 49), .len (.tmp 48), none⟩,
             ⟨(some 50), .mv (.tmp 4), none⟩,
             ⟨(some 51), .bin .lss (.tmp 49) (.tmp 50), none⟩] [2, 3, 4, 51])
         (.cond (.tmp 51)
          (.skip)
          (.exit 1)))
         (.block 2 (.reg [
              ⟨(some 52), .faddr 1 (.tmp 3), none⟩,
              ⟨(some 53), .load 1 false (.tmp 52), none⟩,
              ⟨(some 54), .bslice 2 1 3 [(.int .i64 0), (.int .i64 0), (.int .i64 0)] [(0, (.const (.int .i64 0))), (1, (.const (.int .i64 1))), (2, (.const (.int .i64 2)))], none⟩,
              ⟨(some 55), .bslice 29 1 1 [(.slice none 0 0)] [(0, (.tmp 54))], none⟩,
              ⟨(some 56), .app 29 1 24 (.tmp 53) (.tmp 55), none⟩,
              ⟨(some 57), .faddr 1 (.tmp 3), none⟩,
              ⟨none, .store 1 (.tmp 57) (.tmp 56), none⟩] [2, 3, 4])))))))
       (.skip)))))))))))))
 (.seq (.reg [
     ⟨(some 58), .load 2 true (.tmp 3), none⟩,
     ⟨none, .store 2 (.tmp 2) (.tmp 58), none⟩] [2])
 (.ret))))
theorem s_spec_l10Bent : stripF Try.prog 22 [[0, 2], [0, 2, 3], [0, 2, 3, 8], [0, 2, 3, 8, 9], [2, 3], [0, 2, 3, 8, 15], [2, 3], [0, 2, 3, 8, 23], [2, 3], [0, 2, 3, 8, 31], [2, 3], [0, 2, 3, 41], [0, 2, 3], [2, 3, 4], [2, 3, 4], [2, 3, 4, 51], [2, 3, 4], [2]] = some (c_spec_l10Bent, [.cell 2 2], 59) := by kernel_rfl
structure BnT (H Y : List Blk) (p : Nat) (code : AV) (t : Nat) (u : Int) (q : Nat) (v : Int) (bv : AV) (xss : List (List Int)) : Prop where
  src : Y[p]? = some (srcB code t u)
  res : Y[H.length]? = some ⟨0, tyDz, 1, [I 0, nilS]⟩
  box : Y[q]? = some ⟨0, tyDz, 1, [I v, bv]⟩
  tab : TabF Y (fun r => H.length + 1 ≤ r) bv xss
  qn : H.length + 1 ≤ q
  fr : ∀ j, j < H.length → j ≠ p → Y[j]? = H[j]?
section
variable {H Y : List Blk} {p t t' q : Nat} {code bv : AV} {u u' v : Int} {xss : List (List Int)}
theorem TabF.setD {N : Nat → Prop} (h : TabF Y N bv xss) {q ver : Nat} {cs : List AV} {k : Blk} (hq : Y[q]? = some ⟨ver, tyDz, 1, cs⟩) (hk : k.ty = tyDz) : TabF (Y.set q k) N bv xss := by
  rcases h with h | ⟨t, ver', cells, h1, h2, h3, h4, h5⟩
  · exact .inl h
  · have g : ∀ (j : Nat) (b : Blk), Y[j]? = some b → b.ty ≠ tyDz → (Y.set q k)[j]? = some b := fun j b hb ht => by
      rw [List.getElem?_set_ne (fun e => by subst e; rw [hq] at hb; cases hb; exact ht rfl)]; exact hb
    exact .inr ⟨t, ver', cells, h1, h2, g _ _ h3 (show tyLL ≠ tyDz by decide), h4, fun j c xs g1 g2 => (h5 j c xs g1 g2).same (fun r hr _ => hr) fun j b _ hb hty => g j b hb (by rw [hty]; decide)⟩
theorem BnT.src' (h : BnT H Y p code t u q v bv xss) (hp : p < H.length) : BnT H (Y.set p (srcB code t' u')) p code t' u' q v bv xss := by
  have hpl := (List.getElem?_eq_some_iff.1 h.src).1
  have g : ∀ j, j ≠ p → (Y.set p (srcB code t' u'))[j]? = Y[j]? := fun j hj => List.getElem?_set_ne (Ne.symm hj)
  have := h.qn
  exact ⟨List.getElem?_set_self hpl, (g _ (by omega)).trans h.res, (g _ (by omega)).trans h.box, h.tab.same (fun r hr _ => hr) (fun j b hj hb => by rw [g j (by omega)]; exact hb), h.qn, fun j hj hjp => (g j hjp).trans (h.fr j hj hjp)⟩
theorem BnT.grow (h : BnT H Y p code t u q v bv xss) (ext : List Blk) : BnT H (Y ++ ext) p code t u q v bv xss :=
  ⟨get_appU h.src ext, get_appU h.res ext, get_appU h.box ext, h.tab.same (fun r hr _ => hr) (fun j b _ hb => get_appU hb ext), h.qn, fun j hj hjp => by
    have := (List.getElem?_eq_some_iff.1 h.res).1
    rw [List.getElem?_append_left (by omega)]; exact h.fr j hj hjp⟩
theorem BnT.upd {Z : List Blk} {v2 : Int} {bv' : AV} {yss : List (List Int)} (h : BnT H Y p code t u q v bv xss) (hp : p < H.length) (ht : TabF Z (fun r => H.length + 1 ≤ r) bv' yss) (hf : ∀ (j : Nat) (bl : Blk), Y[j]? = some bl → bl.ty ≠ tyLL → Z[j]? = some bl) (hf2 : ∀ j, j < H.length → Z[j]? = Y[j]?) :
    BnT H (Z.set q ⟨0, tyDz, 1, [I v2, bv']⟩) p code t u q v2 bv' yss := by
  have hZs := hf _ _ h.src (show tySrc ≠ tyLL by decide)
  have hZr := hf _ _ h.res (show tyDz ≠ tyLL by decide)
  have hZb := hf _ _ h.box (show tyDz ≠ tyLL by decide)
  have hbl := (List.getElem?_eq_some_iff.1 hZb).1
  have hq := h.qn
  have g : ∀ j, j ≠ q → (Z.set q ⟨0, tyDz, 1, [I v2, bv']⟩)[j]? = Z[j]? := fun j hj => List.getElem?_set_ne (Ne.symm hj)
  exact ⟨(g _ (by omega)).trans hZs, (g _ (by omega)).trans hZr, List.getElem?_set_self hbl, ht.setD hZb rfl, hq, fun j hj hjp => by rw [g j (by omega), hf2 j hj]; exact h.fr j hj hjp⟩
theorem BnT.fin (h : BnT H Y p code t u q v bv xss) (hp : p < H.length) {tb mb : Nat} (hv : 0 ≤ v ∧ v ≤ 1000) (hs : smX xss) (ht : t ≤ tb) (hm : xss.length ≤ mb) : DesR H p code tb mb (.agg [I v, bv]) (Y.set H.length ⟨0, tyDz, 1, [I v, bv]⟩) := by
  have hrl := (List.getElem?_eq_some_iff.1 h.res).1
  obtain ⟨ext, he⟩ := ext_ofD (H := H.set p (srcB code t u)) (H1 := Y.set H.length ⟨0, tyDz, 1, [I v, bv]⟩) (by rw [List.length_set, List.length_set]; omega) (fun j hj => by
    rw [List.length_set] at hj
    rw [List.getElem?_set_ne (by omega)]
    by_cases hjp : j = p
    · subst hjp; rw [List.getElem?_set_self hp]; exact h.src
    · rw [List.getElem?_set_ne (Ne.symm hjp)]; exact h.fr j hj hjp)
  exact ⟨v, xss, u, t, bv, ext, rfl, he, (h.tab.setD h.res rfl).same (fun r hr _ => by omega) (fun j b _ hb => hb), hv, hs, ht, hm⟩
end
theorem l10Bent_ok (H : List Blk) (p : Nat) (code : AV) (ns : List Int) (t : Nat) (u : Int) (hp : H[p]? = some (srcB code t u)) (hc : CodeOk code ns) (hcb : ∀ k, Bel k code) (ht : t ≤ 500000000) :
    ACalls Try.prog f_spec_l10Bent [.pc p 0 0] H (DesR H p code (t + 500) 200) := by
  have hlt := (List.getElem?_eq_some_iff.1 hp).1
  have hpp : ∀ t u ext, (H.set p (srcB code t u) ++ ext)[p]? = some (srcB code t u) := fun t u ext => (List.getElem?_append_left (by simpa using hlt)).trans (List.getElem?_set_self hlt)
  have hlS : ∀ t u, (H.set p (srcB code t u)).length = H.length := fun t u => List.length_set
  have hset : ∀ t u t' u' (ext : List Blk), (H.set p (srcB code t u) ++ ext).set p (srcB code t' u') = H.set p (srcB code t' u') ++ ext := fun t u t' u' ext => by
    rw [List.set_append_left _ _ (by simpa using hlt), List.set_set]
  have get : ∀ t u (bs : List Blk) (j : Nat), (H.set p (srcB code t u) ++ bs)[H.length + j]? = bs[j]? := fun t u bs j => by rw [List.getElem?_append_right (by rw [hlS]; omega), hlS, Nat.add_sub_cancel_left]
  refine ACalls.introB s_spec_l10Bent (by simp) ?_; intro hB hA; unfold c_spec_l10Bent; simp (config := { maxSteps := 1000000 }) (disch := (first | omega | (simp only [go_sem]; try omega))) only [go_sem, Nat.reduceAdd, Nat.reduceEqDiff, Nat.reduceLeDiff, Nat.reduceMul, Nat.reduceLT, reduceIte, Int.reduceToNat, w64_id, cast_succ]
  repeat (first | (with_reducible first | refine SW.seq ?_ | refine SW.block ?_ | refine SW.rowC ?_ | refine SW.skip ?_ | refine SW.exit ?_ | intro _ | refine And.intro (by omega) ?_) | simp (config := { maxSteps := 1000000 }) (disch := (first | omega | (simp only [go_sem]; try omega))) only [go_sem, Nat.reduceAdd, Nat.reduceEqDiff, Nat.reduceLeDiff, Nat.reduceMul, Nat.reduceLT, reduceIte, Int.reduceToNat, w64_id, cast_succ])
  refine (l10Draw_ok _ p code ns t u (get_appU hp _) hc hcb (by omega)).mono ?_
  rintro r H1 ⟨v, xss, u1, t1, bv, ext, rfl, rfl, hw, hv, hsm, ht1, hxl⟩
  have hone := hw.one
  rw [List.set_append_left _ _ hlt] at hw ⊢
  rw [List.length_append] at hw
  simp only [List.length_cons, List.length_nil] at hw
  rw [List.append_assoc] at hw ⊢
  repeat (first | (with_reducible first | refine SW.seq ?_ | refine SW.block ?_ | refine SW.rowC ?_ | refine SW.skip ?_ | refine SW.exit ?_ | intro _ | refine And.intro (by omega) ?_) | simp (config := { maxSteps := 1000000 }) (disch := (first | omega | (simp only [go_sem]; try omega))) only [go_sem, Nat.reduceAdd, Nat.reduceEqDiff, Nat.reduceLeDiff, Nat.reduceMul, Nat.reduceLT, reduceIte, Int.reduceToNat, w64_id, cast_succ, hone.1, hone.2])
  obtain ⟨q, hq⟩ : ∃ q, q = H.length + (ext.length + 1) := ⟨_, rfl⟩
  have hd0 : BnT H (H.set p (srcB code t1 u1) ++ ((⟨0, tyDz, 1, [I 0, nilS]⟩ : Blk) :: (ext ++ [(⟨0, tyDz, 1, [I 0, nilS]⟩ : Blk)]))) p code t1 u1 q 0 nilS [] :=
    ⟨hpp _ _ _, get _ _ _ 0, by rw [hq, get, List.getElem?_cons_succ, List.getElem?_append_right (Nat.le_refl _), Nat.sub_self]; rfl, .inl ⟨rfl, rfl⟩, by omega, fun j hj hjp => by rw [List.getElem?_append_left (by rw [hlS]; exact hj), List.getElem?_set_ne (Ne.symm hjp)]⟩
  have hw2 : TabF (H.set p (srcB code t1 u1) ++ ((⟨0, tyDz, 1, [I 0, nilS]⟩ : Blk) :: (ext ++ [(⟨0, tyDz, 1, [I 0, nilS]⟩ : Blk)]))) (fun r => H.length + 1 ≤ r) bv xss := hw.same (fun r hr _ => by simpa using hr) (fun j b _ hb => by
    have := get_appU hb [(⟨0, tyDz, 1, [I 0, nilS]⟩ : Blk)]
    rw [List.append_assoc] at this
    exact this)
  have hd1 := hd0.upd hlt (v2 := v) hw2 (fun j b hb _ => hb) (fun j _ => rfl)
  rw [← hq]
  have hws : ∀ a b : AV, astore (H.set p (srcB code t1 u1) ++ ((⟨0, tyDz, 1, [I 0, nilS]⟩ : Blk) :: (ext ++ [(⟨0, tyDz, 1, [I 0, nilS]⟩ : Blk)]))) [a, b] (.pc q 0 0) = some ((H.set p (srcB code t1 u1) ++ ((⟨0, tyDz, 1, [I 0, nilS]⟩ : Blk) :: (ext ++ [(⟨0, tyDz, 1, [I 0, nilS]⟩ : Blk)]))).set q ⟨0, tyDz, 1, [a, b]⟩) := fun a b => by rw [pc_st hd0.box (by simp)]; rfl
  generalize H.set p (srcB code t1 u1) ++ ((⟨0, tyDz, 1, [I 0, nilS]⟩ : Blk) :: (ext ++ [(⟨0, tyDz, 1, [I 0, nilS]⟩ : Blk)])) = Y0 at *
  rw [hws]
  clear hws hw2 hd0
  generalize Y0.set q ⟨0, tyDz, 1, [I v, bv]⟩ = Y1 at *
  repeat (first | (with_reducible first | refine SW.seq ?_ | refine SW.block ?_ | refine SW.rowC ?_ | refine SW.skip ?_ | refine SW.exit ?_ | intro _ | refine And.intro (by omega) ?_) | simp (config := { maxSteps := 1000000 }) (disch := (first | omega | (simp only [go_sem]; try omega))) only [go_sem, Nat.reduceAdd, Nat.reduceEqDiff, Nat.reduceLeDiff, Nat.reduceMul, Nat.reduceLT, reduceIte, Int.reduceToNat, w64_id, cast_succ])
  refine (pick_ok _ p code ns t1 u1 24 hd1.src hc (by omega)).mono ?_
  rintro r H1 ⟨x, u2, t2, rfl, x0, x1, ht2, rfl⟩
  have hd2 := hd1.src' (t' := t2) (u' := u2) hlt
  generalize Y1.set p (srcB code t2 u2) = Y at *
  have ya := fun o => pc_alive (off := o) hd2.box
  have yl := fun o => pc_ld (off := o) hd2.box
  have yae := fun o e => pc_alive (off := o) (get_appU hd2.box e)
  have yle := fun o e => pc_ld (off := o) (get_appU hd2.box e)
  have hYr := (List.getElem?_eq_some_iff.1 hd2.res).1
  by_cases hx0 : x = 0
  · have d0 : decide (x = 0) = true := decide_eq_true hx0
    repeat (first | (with_reducible first | refine SW.seq ?_ | refine SW.block ?_ | refine SW.rowC ?_ | refine SW.skip ?_ | refine SW.exit ?_ | intro _ | refine And.intro (by omega) ?_) | simp (config := { maxSteps := 1000000 }) (disch := (first | omega | (simp only [go_sem]; try omega))) only [go_sem, Nat.reduceAdd, Nat.reduceEqDiff, Nat.reduceLeDiff, Nat.reduceMul, Nat.reduceLT, reduceIte, Int.reduceToNat, w64_id, cast_succ, d0])
    refine SW.condT rfl ?_
    repeat (first | (with_reducible first | refine SW.seq ?_ | refine SW.block ?_ | refine SW.rowC ?_ | refine SW.skip ?_ | refine SW.exit ?_ | intro _ | refine And.intro (by omega) ?_) | simp (config := { maxSteps := 1000000 }) (disch := (first | omega | (simp only [go_sem]; try omega))) only [go_sem, Nat.reduceAdd, Nat.reduceEqDiff, Nat.reduceLeDiff, Nat.reduceMul, Nat.reduceLT, reduceIte, Int.reduceToNat, w64_id, cast_succ, ya, yl])
    have hlit : ∀ t u, aview (List.set (Y ++ [(⟨0, 2, 1, [I 0, I 32, I 33]⟩ : Blk)]) p (srcB code t u)) (.nm Y.length 0 0 3) = some (([0, 32, 33] : List Int).length, ([0, 32, 33] : List Int).map I) := fun t u => view_nm (ver := 0) (ty := 2) (by rw [List.getElem?_set_ne (by omega), List.getElem?_append_right (Nat.le_refl _), Nat.sub_self]; rfl) rfl
    refine (among_ok _ p code ns t2 u2 (.nm Y.length 0 0 3) [0, 32, 33] (get_appU hd2.src _) hc (by omega) hlit (by simp)).mono ?_
    rintro r H1 ⟨z, u3, t3, rfl, hz, ht3, rfl⟩
    have hd3 := (hd2.grow [(⟨0, 2, 1, [I 0, I 32, I 33]⟩ : Blk)]).src' (t' := t3) (u' := u3) hlt
    generalize (Y ++ [(⟨0, 2, 1, [I 0, I 32, I 33]⟩ : Blk)]).set p (srcB code t3 u3) = Y3 at *
    have za := fun o => pc_alive (off := o) hd3.box
    have zw : astore Y3 [I z] (.pc q 0 0) = some (Y3.set q ⟨0, tyDz, 1, [I z, bv]⟩) := by rw [pc_st hd3.box (by simp)]; rfl
    have hd4 := hd3.upd hlt (v2 := z) hd3.tab (fun j b hb _ => hb) (fun j _ => rfl)
    repeat (first | (with_reducible first | refine SW.seq ?_ | refine SW.block ?_ | refine SW.rowC ?_ | refine SW.skip ?_ | refine SW.exit ?_ | intro _ | refine And.intro (by omega) ?_) | simp (config := { maxSteps := 1000000 }) (disch := (first | omega | (simp only [go_sem]; try omega))) only [go_sem, Nat.reduceAdd, Nat.reduceEqDiff, Nat.reduceLeDiff, Nat.reduceMul, Nat.reduceLT, reduceIte, Int.reduceToNat, w64_id, cast_succ, za, zw])
    generalize Y3.set q ⟨0, tyDz, 1, [I z, bv]⟩ = Y4 at *
    have hvF : 0 ≤ z ∧ z ≤ 1000 := by simp at hz; omega
    have hsF := hsm
    have xls : acells Y4 2 (.pc q 0 0) = some [I z, bv] := pc_lds hd4.box (by simp)
    have xa := fun o => pc_alive (off := o) hd4.box
    have ra := fun o => pc_alive (off := o) hd4.res
    have bone := hd4.tab.one
    have rw1 : astore Y4 [I z, bv] (.pc H.length 0 0) = some (List.set Y4 H.length ⟨0, tyDz, 1, [I z, bv]⟩) := by rw [pc_st hd4.res (by simp)]; rfl
    repeat (first | (with_reducible first | refine SW.seq ?_ | refine SW.block ?_ | refine SW.rowC ?_ | refine SW.skip ?_ | refine SW.exit ?_ | intro _ | refine And.intro (by omega) ?_) | simp (config := { maxSteps := 1000000 }) (disch := (first | omega | (simp only [go_sem]; try omega))) only [go_sem, Nat.reduceAdd, Nat.reduceEqDiff, Nat.reduceLeDiff, Nat.reduceMul, Nat.reduceLT, reduceIte, Int.reduceToNat, w64_id, cast_succ, xls, xa, ra, rw1, bone.1, bone.2])
    refine SW.ret ?_
    refine FunPost.cell (cs := [I z, bv]) ?_ ?_
    · show acells _ 2 (.pc H.length 0 0) = _
      rw [pc_lds (List.getElem?_set_self (List.getElem?_eq_some_iff.1 hd4.res).1) (by simp)]; rfl
    exact GR.of (hd4.fin hlt hvF hsF (by omega) (by first | omega | (simp; omega)))
  have d0 : decide (x = 0) = false := decide_eq_false hx0
  by_cases hx1 : x = 1
  · have d1 : decide (x = 1) = true := decide_eq_true hx1
    repeat (first | (with_reducible first | refine SW.seq ?_ | refine SW.block ?_ | refine SW.rowC ?_ | refine SW.skip ?_ | refine SW.exit ?_ | intro _ | refine And.intro (by omega) ?_) | simp (config := { maxSteps := 1000000 }) (disch := (first | omega | (simp only [go_sem]; try omega))) only [go_sem, Nat.reduceAdd, Nat.reduceEqDiff, Nat.reduceLeDiff, Nat.reduceMul, Nat.reduceLT, reduceIte, Int.reduceToNat, w64_id, cast_succ, d0])
    refine SW.condF rfl ?_
    repeat (first | (with_reducible first | refine SW.seq ?_ | refine SW.block ?_ | refine SW.rowC ?_ | refine SW.skip ?_ | refine SW.exit ?_ | intro _ | refine And.intro (by omega) ?_) | simp (config := { maxSteps := 1000000 }) (disch := (first | omega | (simp only [go_sem]; try omega))) only [go_sem, Nat.reduceAdd, Nat.reduceEqDiff, Nat.reduceLeDiff, Nat.reduceMul, Nat.reduceLT, reduceIte, Int.reduceToNat, w64_id, cast_succ, d1])
    refine SW.condT rfl ?_
    repeat (first | (with_reducible first | refine SW.seq ?_ | refine SW.block ?_ | refine SW.rowC ?_ | refine SW.skip ?_ | refine SW.exit ?_ | intro _ | refine And.intro (by omega) ?_) | simp (config := { maxSteps := 1000000 }) (disch := (first | omega | (simp only [go_sem]; try omega))) only [go_sem, Nat.reduceAdd, Nat.reduceEqDiff, Nat.reduceLeDiff, Nat.reduceMul, Nat.reduceLT, reduceIte, Int.reduceToNat, w64_id, cast_succ, ya, yl, yae, yle])
    refine TabF.app (N := fun r => H.length + 1 ≤ r) (yss := [[]]) (hd2.grow [(⟨0, 2, 1, []⟩ : Blk), ⟨0, tyLL, 1, [.nm Y.length 0 0 0]⟩]).tab rfl (fun j c ys g1 g2 => ?_) (by simp; omega) (by have := hsm.1; simp; omega) ?_
    · cases j with
      | succ j => simp at g1
      | zero =>
        simp at g1 g2
        subst g1; subst g2
        exact .inr (.inr ⟨Y.length, 0, rfl, by omega, by rw [List.getElem?_append_right (Nat.le_refl _), Nat.sub_self]; rfl⟩)
    intro v' W c1 hWl hWt hWf hWn
    have hWb := hWf _ _ (get_appU hd2.box _) (show tyDz ≠ tyLL by decide)
    have za := fun o => pc_alive (off := o) hWb
    have zw : astore W [v'] (.pc q 0 1) = some (W.set q ⟨0, tyDz, 1, [I v, v']⟩) := by rw [pc_st hWb (by simp)]; rfl
    have hd3 := (hd2.grow [(⟨0, 2, 1, []⟩ : Blk), ⟨0, tyLL, 1, [.nm Y.length 0 0 0]⟩]).upd hlt (v2 := v) hWt hWf (fun j hj => hWn j (by omega) (by simp; omega))
    repeat (first | (with_reducible first | refine SW.seq ?_ | refine SW.block ?_ | refine SW.rowC ?_ | refine SW.skip ?_ | refine SW.exit ?_ | intro _ | refine And.intro (by omega) ?_) | simp (config := { maxSteps := 1000000 }) (disch := (first | omega | (simp only [go_sem]; try omega))) only [go_sem, Nat.reduceAdd, Nat.reduceEqDiff, Nat.reduceLeDiff, Nat.reduceMul, Nat.reduceLT, reduceIte, Int.reduceToNat, w64_id, cast_succ, za, zw, c1.1, c1.2])
    generalize W.set q ⟨0, tyDz, 1, [I v, v']⟩ = Y3 at *
    have hvF := hv
    have hsF : smX (xss ++ [[]]) := ⟨by have := hsm.1; simp; omega, fun x hx => by
      rcases List.mem_append.1 hx with h | h
      · exact hsm.2 x h
      · rw [List.mem_singleton.1 h]
        exact ⟨by simp, fun z hz => by first | (simp at hz; done) | (simp at hz; omega)⟩⟩
    have xls : acells Y3 2 (.pc q 0 0) = some [I v, v'] := pc_lds hd3.box (by simp)
    have xa := fun o => pc_alive (off := o) hd3.box
    have ra := fun o => pc_alive (off := o) hd3.res
    have bone := hd3.tab.one
    have rw1 : astore Y3 [I v, v'] (.pc H.length 0 0) = some (List.set Y3 H.length ⟨0, tyDz, 1, [I v, v']⟩) := by rw [pc_st hd3.res (by simp)]; rfl
    repeat (first | (with_reducible first | refine SW.seq ?_ | refine SW.block ?_ | refine SW.rowC ?_ | refine SW.skip ?_ | refine SW.exit ?_ | intro _ | refine And.intro (by omega) ?_) | simp (config := { maxSteps := 1000000 }) (disch := (first | omega | (simp only [go_sem]; try omega))) only [go_sem, Nat.reduceAdd, Nat.reduceEqDiff, Nat.reduceLeDiff, Nat.reduceMul, Nat.reduceLT, reduceIte, Int.reduceToNat, w64_id, cast_succ, xls, xa, ra, rw1, bone.1, bone.2])
    refine SW.ret ?_
    refine FunPost.cell (cs := [I v, v']) ?_ ?_
    · show acells _ 2 (.pc H.length 0 0) = _
      rw [pc_lds (List.getElem?_set_self (List.getElem?_eq_some_iff.1 hd3.res).1) (by simp)]; rfl
    exact GR.of (hd3.fin hlt hvF hsF (by omega) (by first | omega | (simp; omega)))
  have d1 : decide (x = 1) = false := decide_eq_false hx1
  by_cases hx2 : x = 2
  · have d2 : decide (x = 2) = true := decide_eq_true hx2
    repeat (first | (with_reducible first | refine SW.seq ?_ | refine SW.block ?_ | refine SW.rowC ?_ | refine SW.skip ?_ | refine SW.exit ?_ | intro _ | refine And.intro (by omega) ?_) | simp (config := { maxSteps := 1000000 }) (disch := (first | omega | (simp only [go_sem]; try omega))) only [go_sem, Nat.reduceAdd, Nat.reduceEqDiff, Nat.reduceLeDiff, Nat.reduceMul, Nat.reduceLT, reduceIte, Int.reduceToNat, w64_id, cast_succ, d0])
    refine SW.condF rfl ?_
    repeat (first | (with_reducible first | refine SW.seq ?_ | refine SW.block ?_ | refine SW.rowC ?_ | refine SW.skip ?_ | refine SW.exit ?_ | intro _ | refine And.intro (by omega) ?_) | simp (config := { maxSteps := 1000000 }) (disch := (first | omega | (simp only [go_sem]; try omega))) only [go_sem, Nat.reduceAdd, Nat.reduceEqDiff, Nat.reduceLeDiff, Nat.reduceMul, Nat.reduceLT, reduceIte, Int.reduceToNat, w64_id, cast_succ, d1])
    refine SW.condF rfl ?_
    repeat (first | (with_reducible first | refine SW.seq ?_ | refine SW.block ?_ | refine SW.rowC ?_ | refine SW.skip ?_ | refine SW.exit ?_ | intro _ | refine And.intro (by omega) ?_) | simp (config := { maxSteps := 1000000 }) (disch := (first | omega | (simp only [go_sem]; try omega))) only [go_sem, Nat.reduceAdd, Nat.reduceEqDiff, Nat.reduceLeDiff, Nat.reduceMul, Nat.reduceLT, reduceIte, Int.reduceToNat, w64_id, cast_succ, d2])
    refine SW.condT rfl ?_
    repeat (first | (with_reducible first | refine SW.seq ?_ | refine SW.block ?_ | refine SW.rowC ?_ | refine SW.skip ?_ | refine SW.exit ?_ | intro _ | refine And.intro (by omega) ?_) | simp (config := { maxSteps := 1000000 }) (disch := (first | omega | (simp only [go_sem]; try omega))) only [go_sem, Nat.reduceAdd, Nat.reduceEqDiff, Nat.reduceLeDiff, Nat.reduceMul, Nat.reduceLT, reduceIte, Int.reduceToNat, w64_id, cast_succ, ya, yl, yae, yle])
    refine TabF.app (N := fun r => H.length + 1 ≤ r) (yss := [[0]]) (hd2.grow [(⟨0, 2, 1, [I 0]⟩ : Blk), ⟨0, tyLL, 1, [.nm Y.length 0 0 1]⟩]).tab rfl (fun j c ys g1 g2 => ?_) (by simp; omega) (by have := hsm.1; simp; omega) ?_
    · cases j with
      | succ j => simp at g1
      | zero =>
        simp at g1 g2
        subst g1; subst g2
        exact .inr (.inr ⟨Y.length, 0, rfl, by omega, by rw [List.getElem?_append_right (Nat.le_refl _), Nat.sub_self]; rfl⟩)
    intro v' W c1 hWl hWt hWf hWn
    have hWb := hWf _ _ (get_appU hd2.box _) (show tyDz ≠ tyLL by decide)
    have za := fun o => pc_alive (off := o) hWb
    have zw : astore W [v'] (.pc q 0 1) = some (W.set q ⟨0, tyDz, 1, [I v, v']⟩) := by rw [pc_st hWb (by simp)]; rfl
    have hd3 := (hd2.grow [(⟨0, 2, 1, [I 0]⟩ : Blk), ⟨0, tyLL, 1, [.nm Y.length 0 0 1]⟩]).upd hlt (v2 := v) hWt hWf (fun j hj => hWn j (by omega) (by simp; omega))
    repeat (first | (with_reducible first | refine SW.seq ?_ | refine SW.block ?_ | refine SW.rowC ?_ | refine SW.skip ?_ | refine SW.exit ?_ | intro _ | refine And.intro (by omega) ?_) | simp (config := { maxSteps := 1000000 }) (disch := (first | omega | (simp only [go_sem]; try omega))) only [go_sem, Nat.reduceAdd, Nat.reduceEqDiff, Nat.reduceLeDiff, Nat.reduceMul, Nat.reduceLT, reduceIte, Int.reduceToNat, w64_id, cast_succ, za, zw, c1.1, c1.2])
    generalize W.set q ⟨0, tyDz, 1, [I v, v']⟩ = Y3 at *
    have hvF := hv
    have hsF : smX (xss ++ [[0]]) := ⟨by have := hsm.1; simp; omega, fun x hx => by
      rcases List.mem_append.1 hx with h | h
      · exact hsm.2 x h
      · rw [List.mem_singleton.1 h]
        exact ⟨by simp, fun z hz => by first | (simp at hz; done) | (simp at hz; omega)⟩⟩
    have xls : acells Y3 2 (.pc q 0 0) = some [I v, v'] := pc_lds hd3.box (by simp)
    have xa := fun o => pc_alive (off := o) hd3.box
    have ra := fun o => pc_alive (off := o) hd3.res
    have bone := hd3.tab.one
    have rw1 : astore Y3 [I v, v'] (.pc H.length 0 0) = some (List.set Y3 H.length ⟨0, tyDz, 1, [I v, v']⟩) := by rw [pc_st hd3.res (by simp)]; rfl
    repeat (first | (with_reducible first | refine SW.seq ?_ | refine SW.block ?_ | refine SW.rowC ?_ | refine SW.skip ?_ | refine SW.exit ?_ | intro _ | refine And.intro (by omega) ?_) | simp (config := { maxSteps := 1000000 }) (disch := (first | omega | (simp only [go_sem]; try omega))) only [go_sem, Nat.reduceAdd, Nat.reduceEqDiff, Nat.reduceLeDiff, Nat.reduceMul, Nat.reduceLT, reduceIte, Int.reduceToNat, w64_id, cast_succ, xls, xa, ra, rw1, bone.1, bone.2])
    refine SW.ret ?_
    refine FunPost.cell (cs := [I v, v']) ?_ ?_
    · show acells _ 2 (.pc H.length 0 0) = _
      rw [pc_lds (List.getElem?_set_self (List.getElem?_eq_some_iff.1 hd3.res).1) (by simp)]; rfl
    exact GR.of (hd3.fin hlt hvF hsF (by omega) (by first | omega | (simp; omega)))
  have d2 : decide (x = 2) = false := decide_eq_false hx2
  by_cases hx3 : x = 3
  · have d3 : decide (x = 3) = true := decide_eq_true hx3
    repeat (first | (with_reducible first | refine SW.seq ?_ | refine SW.block ?_ | refine SW.rowC ?_ | refine SW.skip ?_ | refine SW.exit ?_ | intro _ | refine And.intro (by omega) ?_) | simp (config := { maxSteps := 1000000 }) (disch := (first | omega | (simp only [go_sem]; try omega))) only [go_sem, Nat.reduceAdd, Nat.reduceEqDiff, Nat.reduceLeDiff, Nat.reduceMul, Nat.reduceLT, reduceIte, Int.reduceToNat, w64_id, cast_succ, d0])
    refine SW.condF rfl ?_
    repeat (first | (with_reducible first | refine SW.seq ?_ | refine SW.block ?_ | refine SW.rowC ?_ | refine SW.skip ?_ | refine SW.exit ?_ | intro _ | refine And.intro (by omega) ?_) | simp (config := { maxSteps := 1000000 }) (disch := (first | omega | (simp only [go_sem]; try omega))) only [go_sem, Nat.reduceAdd, Nat.reduceEqDiff, Nat.reduceLeDiff, Nat.reduceMul, Nat.reduceLT, reduceIte, Int.reduceToNat, w64_id, cast_succ, d1])
    refine SW.condF rfl ?_
    repeat (first | (with_reducible first | refine SW.seq ?_ | refine SW.block ?_ | refine SW.rowC ?_ | refine SW.skip ?_ | refine SW.exit ?_ | intro _ | refine And.intro (by omega) ?_) | simp (config := { maxSteps := 1000000 }) (disch := (first | omega | (simp only [go_sem]; try omega))) only [go_sem, Nat.reduceAdd, Nat.reduceEqDiff, Nat.reduceLeDiff, Nat.reduceMul, Nat.reduceLT, reduceIte, Int.reduceToNat, w64_id, cast_succ, d2])
    refine SW.condF rfl ?_
    repeat (first | (with_reducible first | refine SW.seq ?_ | refine SW.block ?_ | refine SW.rowC ?_ | refine SW.skip ?_ | refine SW.exit ?_ | intro _ | refine And.intro (by omega) ?_) | simp (config := { maxSteps := 1000000 }) (disch := (first | omega | (simp only [go_sem]; try omega))) only [go_sem, Nat.reduceAdd, Nat.reduceEqDiff, Nat.reduceLeDiff, Nat.reduceMul, Nat.reduceLT, reduceIte, Int.reduceToNat, w64_id, cast_succ, d3])
    refine SW.condT rfl ?_
    repeat (first | (with_reducible first | refine SW.seq ?_ | refine SW.block ?_ | refine SW.rowC ?_ | refine SW.skip ?_ | refine SW.exit ?_ | intro _ | refine And.intro (by omega) ?_) | simp (config := { maxSteps := 1000000 }) (disch := (first | omega | (simp only [go_sem]; try omega))) only [go_sem, Nat.reduceAdd, Nat.reduceEqDiff, Nat.reduceLeDiff, Nat.reduceMul, Nat.reduceLT, reduceIte, Int.reduceToNat, w64_id, cast_succ, ya, yl, yae, yle])
    refine TabF.app (N := fun r => H.length + 1 ≤ r) (yss := [[v]]) (hd2.grow [(⟨0, 2, 1, [I v]⟩ : Blk), ⟨0, tyLL, 1, [.nm Y.length 0 0 1]⟩]).tab rfl (fun j c ys g1 g2 => ?_) (by simp; omega) (by have := hsm.1; simp; omega) ?_
    · cases j with
      | succ j => simp at g1
      | zero =>
        simp at g1 g2
        subst g1; subst g2
        exact .inr (.inr ⟨Y.length, 0, rfl, by omega, by rw [List.getElem?_append_right (Nat.le_refl _), Nat.sub_self]; rfl⟩)
    intro v' W c1 hWl hWt hWf hWn
    have hWb := hWf _ _ (get_appU hd2.box _) (show tyDz ≠ tyLL by decide)
    have za := fun o => pc_alive (off := o) hWb
    have zw : astore W [v'] (.pc q 0 1) = some (W.set q ⟨0, tyDz, 1, [I v, v']⟩) := by rw [pc_st hWb (by simp)]; rfl
    have hd3 := (hd2.grow [(⟨0, 2, 1, [I v]⟩ : Blk), ⟨0, tyLL, 1, [.nm Y.length 0 0 1]⟩]).upd hlt (v2 := v) hWt hWf (fun j hj => hWn j (by omega) (by simp; omega))
    repeat (first | (with_reducible first | refine SW.seq ?_ | refine SW.block ?_ | refine SW.rowC ?_ | refine SW.skip ?_ | refine SW.exit ?_ | intro _ | refine And.intro (by omega) ?_) | simp (config := { maxSteps := 1000000 }) (disch := (first | omega | (simp only [go_sem]; try omega))) only [go_sem, Nat.reduceAdd, Nat.reduceEqDiff, Nat.reduceLeDiff, Nat.reduceMul, Nat.reduceLT, reduceIte, Int.reduceToNat, w64_id, cast_succ, za, zw, c1.1, c1.2])
    generalize W.set q ⟨0, tyDz, 1, [I v, v']⟩ = Y3 at *
    have hvF := hv
    have hsF : smX (xss ++ [[v]]) := ⟨by have := hsm.1; simp; omega, fun x hx => by
      rcases List.mem_append.1 hx with h | h
      · exact hsm.2 x h
      · rw [List.mem_singleton.1 h]
        exact ⟨by simp, fun z hz => by first | (simp at hz; done) | (simp at hz; omega)⟩⟩
    have xls : acells Y3 2 (.pc q 0 0) = some [I v, v'] := pc_lds hd3.box (by simp)
    have xa := fun o => pc_alive (off := o) hd3.box
    have ra := fun o => pc_alive (off := o) hd3.res
    have bone := hd3.tab.one
    have rw1 : astore Y3 [I v, v'] (.pc H.length 0 0) = some (List.set Y3 H.length ⟨0, tyDz, 1, [I v, v']⟩) := by rw [pc_st hd3.res (by simp)]; rfl
    repeat (first | (with_reducible first | refine SW.seq ?_ | refine SW.block ?_ | refine SW.rowC ?_ | refine SW.skip ?_ | refine SW.exit ?_ | intro _ | refine And.intro (by omega) ?_) | simp (config := { maxSteps := 1000000 }) (disch := (first | omega | (simp only [go_sem]; try omega))) only [go_sem, Nat.reduceAdd, Nat.reduceEqDiff, Nat.reduceLeDiff, Nat.reduceMul, Nat.reduceLT, reduceIte, Int.reduceToNat, w64_id, cast_succ, xls, xa, ra, rw1, bone.1, bone.2])
    refine SW.ret ?_
    refine FunPost.cell (cs := [I v, v']) ?_ ?_
    · show acells _ 2 (.pc H.length 0 0) = _
      rw [pc_lds (List.getElem?_set_self (List.getElem?_eq_some_iff.1 hd3.res).1) (by simp)]; rfl
    exact GR.of (hd3.fin hlt hvF hsF (by omega) (by first | omega | (simp; omega)))
  have d3 : decide (x = 3) = false := decide_eq_false hx3
  by_cases hx4 : x = 4
  · have d4 : decide (x = 4) = true := decide_eq_true hx4
    repeat (first | (with_reducible first | refine SW.seq ?_ | refine SW.block ?_ | refine SW.rowC ?_ | refine SW.skip ?_ | refine SW.exit ?_ | intro _ | refine And.intro (by omega) ?_) | simp (config := { maxSteps := 1000000 }) (disch := (first | omega | (simp only [go_sem]; try omega))) only [go_sem, Nat.reduceAdd, Nat.reduceEqDiff, Nat.reduceLeDiff, Nat.reduceMul, Nat.reduceLT, reduceIte, Int.reduceToNat, w64_id, cast_succ, d0])
    refine SW.condF rfl ?_
    repeat (first | (with_reducible first | refine SW.seq ?_ | refine SW.block ?_ | refine SW.rowC ?_ | refine SW.skip ?_ | refine SW.exit ?_ | intro _ | refine And.intro (by omega) ?_) | simp (config := { maxSteps := 1000000 }) (disch := (first | omega | (simp only [go_sem]; try omega))) only [go_sem, Nat.reduceAdd, Nat.reduceEqDiff, Nat.reduceLeDiff, Nat.reduceMul, Nat.reduceLT, reduceIte, Int.reduceToNat, w64_id, cast_succ, d1])
    refine SW.condF rfl ?_
    repeat (first | (with_reducible first | refine SW.seq ?_ | refine SW.block ?_ | refine SW.rowC ?_ | refine SW.skip ?_ | refine SW.exit ?_ | intro _ | refine And.intro (by omega) ?_) | simp (config := { maxSteps := 1000000 }) (disch := (first | omega | (simp only [go_sem]; try omega))) only [go_sem, Nat.reduceAdd, Nat.reduceEqDiff, Nat.reduceLeDiff, Nat.reduceMul, Nat.reduceLT, reduceIte, Int.reduceToNat, w64_id, cast_succ, d2])
    refine SW.condF rfl ?_
    repeat (first | (with_reducible first | refine SW.seq ?_ | refine SW.block ?_ | refine SW.rowC ?_ | refine SW.skip ?_ | refine SW.exit ?_ | intro _ | refine And.intro (by omega) ?_) | simp (config := { maxSteps := 1000000 }) (disch := (first | omega | (simp only [go_sem]; try omega))) only [go_sem, Nat.reduceAdd, Nat.reduceEqDiff, Nat.reduceLeDiff, Nat.reduceMul, Nat.reduceLT, reduceIte, Int.reduceToNat, w64_id, cast_succ, d3])
    refine SW.condF rfl ?_
    repeat (first | (with_reducible first | refine SW.seq ?_ | refine SW.block ?_ | refine SW.rowC ?_ | refine SW.skip ?_ | refine SW.exit ?_ | intro _ | refine And.intro (by omega) ?_) | simp (config := { maxSteps := 1000000 }) (disch := (first | omega | (simp only [go_sem]; try omega))) only [go_sem, Nat.reduceAdd, Nat.reduceEqDiff, Nat.reduceLeDiff, Nat.reduceMul, Nat.reduceLT, reduceIte, Int.reduceToNat, w64_id, cast_succ, d4])
    refine SW.condT rfl ?_
    have zw : astore Y [I 3, nilS] (.pc q 0 0) = some (Y.set q ⟨0, tyDz, 1, [I 3, nilS]⟩) := by rw [pc_st hd2.box (by simp)]; rfl
    have hd3 := hd2.upd hlt (v2 := 3) (bv' := nilS) (yss := []) (.inl ⟨rfl, rfl⟩) (fun j b hb _ => hb) (fun j _ => rfl)
    repeat (first | (with_reducible first | refine SW.seq ?_ | refine SW.block ?_ | refine SW.rowC ?_ | refine SW.skip ?_ | refine SW.exit ?_ | intro _ | refine And.intro (by omega) ?_) | simp (config := { maxSteps := 1000000 }) (disch := (first | omega | (simp only [go_sem]; try omega))) only [go_sem, Nat.reduceAdd, Nat.reduceEqDiff, Nat.reduceLeDiff, Nat.reduceMul, Nat.reduceLT, reduceIte, Int.reduceToNat, w64_id, cast_succ, ya, zw])
    generalize Y.set q ⟨0, tyDz, 1, [I 3, nilS]⟩ = Y3 at *
    refine (pick_ok _ p code ns t2 u2 3 hd3.src hc (by omega)).mono ?_
    rintro r H1 ⟨y, u3, t3, rfl, y0, y1, ht3, rfl⟩
    have hd4 := hd3.src' (t' := t3) (u' := u3) hlt
    generalize Y3.set p (srcB code t3 u3) = Y4 at *
    obtain ⟨y, rfl⟩ := Int.eq_ofNat_of_zero_le y0
    have hy2 : y ≤ 2 := by omega
    have e1 : (127 : Int) + (y : Int) = ((127 + y : Nat) : Int) := by omega
    repeat (first | (with_reducible first | refine SW.seq ?_ | refine SW.block ?_ | refine SW.rowC ?_ | refine SW.skip ?_ | refine SW.exit ?_ | intro _ | refine And.intro (by omega) ?_) | simp (config := { maxSteps := 1000000 }) (disch := (first | omega | (simp only [go_sem]; try omega))) only [go_sem, Nat.reduceAdd, Nat.reduceEqDiff, Nat.reduceLeDiff, Nat.reduceMul, Nat.reduceLT, reduceIte, Int.reduceToNat, w64_id, cast_succ, e1])
    refine SW.loopE (fun E0 H0 m E' Z => ∃ (k : Nat) (bz : AV) (zss : List (List Int)), k ≤ 127 + y ∧ m = 127 + y - k ∧ E' = E0 ∧ BnT H Z p code t3 u3 q 3 bz zss ∧ smX zss ∧ zss.length = k) (127 + y)
      ⟨0, nilS, [], by omega, by omega, rfl, hd4, ⟨by simp, by simp⟩, rfl⟩ ?_
    rintro m E' Z ⟨k, bz, zss, hk, rfl, rfl, hz, hsz, hzl⟩
    have za := fun o => pc_alive (off := o) hz.box
    have zl := fun o => pc_ld (off := o) hz.box
    have zae := fun o e => pc_alive (off := o) (get_appU hz.box e)
    have zle := fun o e => pc_ld (off := o) (get_appU hz.box e)
    have hzone := hz.tab.one
    have hZr := (List.getElem?_eq_some_iff.1 hz.res).1
    obtain ⟨zc, hzv⟩ := hz.tab.view
    rw [hzl] at hzv
    simp (config := { maxSteps := 1000000 }) (disch := (first | omega | (simp only [go_sem]; try omega))) only [go_sem, Nat.reduceAdd, Nat.reduceEqDiff, Nat.reduceLeDiff, Nat.reduceMul, Nat.reduceLT, reduceIte, Int.reduceToNat, w64_id, cast_succ]
    by_cases hkm : k < 127 + y
    · have d5 : decide ((k : Int) < ((127 + y : Nat) : Int)) = true := decide_eq_true (by omega)
      repeat (first | (with_reducible first | refine SW.seq ?_ | refine SW.block ?_ | refine SW.rowC ?_ | refine SW.skip ?_ | refine SW.exit ?_ | intro _ | refine And.intro (by omega) ?_) | simp (config := { maxSteps := 1000000 }) (disch := (first | omega | (simp only [go_sem]; try omega))) only [go_sem, Nat.reduceAdd, Nat.reduceEqDiff, Nat.reduceLeDiff, Nat.reduceMul, Nat.reduceLT, reduceIte, Int.reduceToNat, w64_id, cast_succ, za, zl, hzv, hzone.1, hzone.2, d5])
      refine SW.condT rfl ?_
      repeat (first | (with_reducible first | refine SW.seq ?_ | refine SW.block ?_ | refine SW.rowC ?_ | refine SW.skip ?_ | refine SW.exit ?_ | intro _ | refine And.intro (by omega) ?_) | simp (config := { maxSteps := 1000000 }) (disch := (first | omega | (simp only [go_sem]; try omega))) only [go_sem, Nat.reduceAdd, Nat.reduceEqDiff, Nat.reduceLeDiff, Nat.reduceMul, Nat.reduceLT, reduceIte, Int.reduceToNat, w64_id, cast_succ, za, zl, zae, zle, hzone.1, hzone.2])
      refine TabF.app (N := fun r => H.length + 1 ≤ r) (yss := [[0, 1, 2]]) (hz.grow [(⟨0, 2, 1, [I 0, I 1, I 2]⟩ : Blk), ⟨0, tyLL, 1, [.nm Z.length 0 0 3]⟩]).tab rfl (fun j c ys g1 g2 => ?_) (by simp; omega) (by have := hsz.1; simp; omega) ?_
      · cases j with
        | succ j => simp at g1
        | zero =>
          simp at g1 g2
          subst g1; subst g2
          exact .inr (.inr ⟨Z.length, 0, rfl, by omega, by rw [List.getElem?_append_right (Nat.le_refl _), Nat.sub_self]; rfl⟩)
      intro v' W c1 hWl hWt hWf hWn
      have hWb := hWf _ _ (get_appU hz.box _) (show tyDz ≠ tyLL by decide)
      have wa := fun o => pc_alive (off := o) hWb
      have ww : astore W [v'] (.pc q 0 1) = some (W.set q ⟨0, tyDz, 1, [I 3, v']⟩) := by rw [pc_st hWb (by simp)]; rfl
      have hd5 := (hz.grow [(⟨0, 2, 1, [I 0, I 1, I 2]⟩ : Blk), ⟨0, tyLL, 1, [.nm Z.length 0 0 3]⟩]).upd hlt (v2 := 3) hWt hWf (fun j hj => hWn j (by omega) (by simp; omega))
      repeat (first | (with_reducible first | refine SW.seq ?_ | refine SW.block ?_ | refine SW.rowC ?_ | refine SW.skip ?_ | refine SW.exit ?_ | intro _ | refine And.intro (by omega) ?_) | simp (config := { maxSteps := 1000000 }) (disch := (first | omega | (simp only [go_sem]; try omega))) only [go_sem, Nat.reduceAdd, Nat.reduceEqDiff, Nat.reduceLeDiff, Nat.reduceMul, Nat.reduceLT, reduceIte, Int.reduceToNat, w64_id, cast_succ, wa, ww, c1.1, c1.2])
      refine SLoop.next (127 + y - (k + 1)) (by omega) ⟨k + 1, v', zss ++ [[0, 1, 2]], by omega, rfl, by simp [go_sem], hd5, ⟨by have := hsz.1; simp; omega, fun x hx => ?_⟩, by simp; omega⟩
      rcases List.mem_append.1 hx with h | h
      · exact hsz.2 x h
      · rw [List.mem_singleton.1 h]
        exact ⟨by simp, fun z hz => by simp at hz; omega⟩
    · have d5 : decide ((k : Int) < ((127 + y : Nat) : Int)) = false := decide_eq_false (by omega)
      repeat (first | (with_reducible first | refine SW.seq ?_ | refine SW.block ?_ | refine SW.rowC ?_ | refine SW.skip ?_ | refine SW.exit ?_ | intro _ | refine And.intro (by omega) ?_) | simp (config := { maxSteps := 1000000 }) (disch := (first | omega | (simp only [go_sem]; try omega))) only [go_sem, Nat.reduceAdd, Nat.reduceEqDiff, Nat.reduceLeDiff, Nat.reduceMul, Nat.reduceLT, reduceIte, Int.reduceToNat, w64_id, cast_succ, za, zl, hzv, hzone.1, hzone.2, d5])
      refine SW.condF rfl ?_
      have hvF : (0 : Int) ≤ 3 ∧ (3 : Int) ≤ 1000 := by omega
      have hsF := hsz
      have xls : acells Z 2 (.pc q 0 0) = some [I 3, bz] := pc_lds hz.box (by simp)
      have xa := fun o => pc_alive (off := o) hz.box
      have ra := fun o => pc_alive (off := o) hz.res
      have bone := hz.tab.one
      have rw1 : astore Z [I 3, bz] (.pc H.length 0 0) = some (List.set Z H.length ⟨0, tyDz, 1, [I 3, bz]⟩) := by rw [pc_st hz.res (by simp)]; rfl
      repeat (first | (with_reducible first | refine SW.seq ?_ | refine SW.block ?_ | refine SW.rowC ?_ | refine SW.skip ?_ | refine SW.exit ?_ | intro _ | refine And.intro (by omega) ?_) | simp (config := { maxSteps := 1000000 }) (disch := (first | omega | (simp only [go_sem]; try omega))) only [go_sem, Nat.reduceAdd, Nat.reduceEqDiff, Nat.reduceLeDiff, Nat.reduceMul, Nat.reduceLT, reduceIte, Int.reduceToNat, w64_id, cast_succ, xls, xa, ra, rw1, bone.1, bone.2])
      refine SW.ret ?_
      refine FunPost.cell (cs := [I 3, bz]) ?_ ?_
      · show acells _ 2 (.pc H.length 0 0) = _
        rw [pc_lds (List.getElem?_set_self (List.getElem?_eq_some_iff.1 hz.res).1) (by simp)]; rfl
      exact GR.of (hz.fin hlt hvF hsF (by omega) (by first | omega | (simp; omega)))
  have d4 : decide (x = 4) = false := decide_eq_false hx4
  repeat (first | (with_reducible first | refine SW.seq ?_ | refine SW.block ?_ | refine SW.rowC ?_ | refine SW.skip ?_ | refine SW.exit ?_ | intro _ | refine And.intro (by omega) ?_) | simp (config := { maxSteps := 1000000 }) (disch := (first | omega | (simp only [go_sem]; try omega))) only [go_sem, Nat.reduceAdd, Nat.reduceEqDiff, Nat.reduceLeDiff, Nat.reduceMul, Nat.reduceLT, reduceIte, Int.reduceToNat, w64_id, cast_succ, d0])
  refine SW.condF rfl ?_
  repeat (first | (with_reducible first | refine SW.seq ?_ | refine SW.block ?_ | refine SW.rowC ?_ | refine SW.skip ?_ | refine SW.exit ?_ | intro _ | refine And.intro (by omega) ?_) | simp (config := { maxSteps := 1000000 }) (disch := (first | omega | (simp only [go_sem]; try omega))) only [go_sem, Nat.reduceAdd, Nat.reduceEqDiff, Nat.reduceLeDiff, Nat.reduceMul, Nat.reduceLT, reduceIte, Int.reduceToNat, w64_id, cast_succ, d1])
  refine SW.condF rfl ?_
  repeat (first | (with_reducible first | refine SW.seq ?_ | refine SW.block ?_ | refine SW.rowC ?_ | refine SW.skip ?_ | refine SW.exit ?_ | intro _ | refine And.intro (by omega) ?_) | simp (config := { maxSteps := 1000000 }) (disch := (first | omega | (simp only [go_sem]; try omega))) only [go_sem, Nat.reduceAdd, Nat.reduceEqDiff, Nat.reduceLeDiff, Nat.reduceMul, Nat.reduceLT, reduceIte, Int.reduceToNat, w64_id, cast_succ, d2])
  refine SW.condF rfl ?_
  repeat (first | (with_reducible first | refine SW.seq ?_ | refine SW.block ?_ | refine SW.rowC ?_ | refine SW.skip ?_ | refine SW.exit ?_ | intro _ | refine And.intro (by omega) ?_) | simp (config := { maxSteps := 1000000 }) (disch := (first | omega | (simp only [go_sem]; try omega))) only [go_sem, Nat.reduceAdd, Nat.reduceEqDiff, Nat.reduceLeDiff, Nat.reduceMul, Nat.reduceLT, reduceIte, Int.reduceToNat, w64_id, cast_succ, d3])
  refine SW.condF rfl ?_
  repeat (first | (with_reducible first | refine SW.seq ?_ | refine SW.block ?_ | refine SW.rowC ?_ | refine SW.skip ?_ | refine SW.exit ?_ | intro _ | refine And.intro (by omega) ?_) | simp (config := { maxSteps := 1000000 }) (disch := (first | omega | (simp only [go_sem]; try omega))) only [go_sem, Nat.reduceAdd, Nat.reduceEqDiff, Nat.reduceLeDiff, Nat.reduceMul, Nat.reduceLT, reduceIte, Int.reduceToNat, w64_id, cast_succ, d4])
  refine SW.condF rfl ?_
  have hvF := hv
  have hsF := hsm
  have xls : acells Y 2 (.pc q 0 0) = some [I v, bv] := pc_lds hd2.box (by simp)
  have xa := fun o => pc_alive (off := o) hd2.box
  have ra := fun o => pc_alive (off := o) hd2.res
  have bone := hd2.tab.one
  have rw1 : astore Y [I v, bv] (.pc H.length 0 0) = some (List.set Y H.length ⟨0, tyDz, 1, [I v, bv]⟩) := by rw [pc_st hd2.res (by simp)]; rfl
  repeat (first | (with_reducible first | refine SW.seq ?_ | refine SW.block ?_ | refine SW.rowC ?_ | refine SW.skip ?_ | refine SW.exit ?_ | intro _ | refine And.intro (by omega) ?_) | simp (config := { maxSteps := 1000000 }) (disch := (first | omega | (simp only [go_sem]; try omega))) only [go_sem, Nat.reduceAdd, Nat.reduceEqDiff, Nat.reduceLeDiff, Nat.reduceMul, Nat.reduceLT, reduceIte, Int.reduceToNat, w64_id, cast_succ, xls, xa, ra, rw1, bone.1, bone.2])
  refine SW.ret ?_
  refine FunPost.cell (cs := [I v, bv]) ?_ ?_
  · show acells _ 2 (.pc H.length 0 0) = _
    rw [pc_lds (List.getElem?_set_self (List.getElem?_eq_some_iff.1 hd2.res).1) (by simp)]; rfl
  exact GR.of (hd2.fin hlt hvF hsF (by omega) (by first | omega | (simp; omega)))
end Go.Proofs.Ytnlfokkljgbaaaa
namespace Go.Proofs.Ytnlfokkljgbaaaa
open Go.Av
abbrev f_spec_l03Digits : Nat := 83
def c_spec_l03Digits : SC :=
 .seq (.reg [
     ⟨(some 6), .mv (.const (.slice none 0 0)), none⟩] [0, 1, 2])
 (.seq (.reg [
     ⟨(some 8), .bslice 2 1 0 [] [], none⟩,
     ⟨(some 7), .mv (.tmp 8), none⟩] [0, 1, 2, 7])
 (.seq (.block 0 (.loop [0, 1, 2, 7]
   (.seq (.seq (.reg [
       ⟨(some 9), .mv (.tmp 2), none⟩,
       ⟨(some 10), .bin .gtr (.tmp 9) (.const (.int .i64 0)), none⟩] [0, 1, 2, 7, 10])
   (.cond (.tmp 10)
    (.skip)
    (.exit 0)))
   (.seq (.block 1 (.seq (.reg [
        ⟨(some 13), .mv (.tmp 7), none⟩,
        ⟨(some 14), .mv (.tmp 0), none⟩,
        ⟨(some 15), .mv (.tmp 1), none⟩,
        ⟨(some 16), .bin .rem (.tmp 14) (.tmp 15), none⟩,
        ⟨(some 17), .bslice 2 1 1 [(.int .i64 0)] [(0, (.tmp 16))], none⟩,
        ⟨(some 18), .app 2 1 8 (.tmp 13) (.tmp 17), none⟩,
        ⟨(some 7), .mv (.tmp 18), none⟩] [0, 1, 2, 7])
    (.reg [
        ⟨(some 19), .mv (.tmp 0), none⟩,
        ⟨(some 20), .mv (.tmp 1), none⟩,
        ⟨(some 21), .bin .quo (.tmp 19) (.tmp 20), none⟩,
        ⟨(some 0), .mv (.tmp 21), none⟩] [0, 1, 2, 7])))
   (.reg [
       ⟨(some 11), .mv (.tmp 2), none⟩,
       ⟨(some 12), .bin .sub (.tmp 11) (.const (.int .i64 1)), none⟩,
       ⟨(some 2), .mv (.tmp 12), none⟩] [0, 1, 2, 7])))))
 (.seq (.reg [
     ⟨(some 22), .mv (.tmp 7), none⟩,
     ⟨(some 6), .mv (.tmp 22), none⟩] [6])
 (.ret))))
theorem s_spec_l03Digits : stripF Try.prog 83 [[0, 1, 2], [0, 1, 2, 7], [0, 1, 2, 7], [0, 1, 2, 7, 10], [0, 1, 2, 7], [0, 1, 2, 7], [0, 1, 2, 7], [6]] = some (c_spec_l03Digits, [.tmp 6], 23) := by kernel_rfl
abbrev f_spec_l03Number : Nat := 85
def c_spec_l03Number : SC :=
 .seq (.reg [
     ⟨(some 4), .mv (.const (.int .i64 0)), none⟩] [0, 1])
 (.seq (.reg [
     ⟨(some 5), .mv (.const (.int .i64 0)), none⟩] [0, 1, 5])
 (.seq (.seq (.reg [
     ⟨(some 7), .mv (.tmp 0), none⟩,
     ⟨(some 8), .len (.tmp 7), none⟩,
     ⟨(some 9), .bin .sub (.tmp 8) (.const (.int .i64 1)), none⟩,
     ⟨(some 6), .mv (.tmp 9), none⟩] [0, 1, 5, 6])
 (.block 0 (.loop [0, 1, 5, 6]
   (.seq (.seq (.reg [
       ⟨(some 10), .mv (.tmp 6), none⟩,
       ⟨(some 11), .bin .geq (.tmp 10) (.const (.int .i64 0)), none⟩] [0, 1, 5, 6, 11])
   (.cond (.tmp 11)
    (.skip)
    (.exit 0)))
   (.seq (.block 1 (.reg [
        ⟨(some 14), .mv (.tmp 5), none⟩,
        ⟨(some 15), .mv (.tmp 1), none⟩,
        ⟨(some 16), .bin .mul (.tmp 14) (.tmp 15), none⟩,
        ⟨(some 17), .mv (.tmp 0), none⟩,
        ⟨(some 18), .mv (.tmp 6), none⟩,
        ⟨(some 19), .iaddr 1 (.tmp 17) (.tmp 18), none⟩,
        ⟨(some 20), .load 1 false (.tmp 19), none⟩,
        ⟨(some 21), .bin .add (.tmp 16) (.tmp 20), none⟩,
        ⟨(some 5), .mv (.tmp 21), none⟩] [0, 1, 5, 6]))
   (.reg [
       ⟨(some 12), .mv (.tmp 6), none⟩,
       ⟨(some 13), .bin .sub (.tmp 12) (.const (.int .i64 1)), none⟩,
       ⟨(some 6), .mv (.tmp 13), none⟩] [0, 1, 5, 6]))))))
 (.seq (.reg [
     ⟨(some 22), .mv (.tmp 5), none⟩,
     ⟨(some 4), .mv (.tmp 22), none⟩] [4])
 (.ret))))
theorem s_spec_l03Number : stripF Try.prog 85 [[0, 1], [0, 1, 5], [0, 1, 5, 6], [0, 1, 5, 6], [0, 1, 5, 6, 11], [0, 1, 5, 6], [0, 1, 5, 6], [4]] = some (c_spec_l03Number, [.tmp 4], 23) := by kernel_rfl
abbrev f_spec_l03Power : Nat := 98
def c_spec_l03Power : SC :=
 .seq (.reg [
     ⟨(some 4), .mv (.const (.int .i64 0)), none⟩] [0, 1])
 (.seq (.reg [
     ⟨(some 5), .mv (.const (.int .i64 1)), none⟩] [0, 1, 5])
 (.seq (.block 0 (.loop [0, 1, 5]
   (.seq (.seq (.reg [
       ⟨(some 6), .mv (.tmp 1), none⟩,
       ⟨(some 7), .bin .gtr (.tmp 6) (.const (.int .i64 0)), none⟩] [0, 1, 5, 7])
   (.cond (.tmp 7)
    (.skip)
    (.exit 0)))
   (.seq (.block 1 (.reg [
        ⟨(some 10), .mv (.tmp 5), none⟩,
        ⟨(some 11), .mv (.tmp 0), none⟩,
        ⟨(some 12), .bin .mul (.tmp 10) (.tmp 11), none⟩,
        ⟨(some 5), .mv (.tmp 12), none⟩] [0, 1, 5]))
   (.reg [
       ⟨(some 8), .mv (.tmp 1), none⟩,
       ⟨(some 9), .bin .sub (.tmp 8) (.const (.int .i64 1)), none⟩,
       ⟨(some 1), .mv (.tmp 9), none⟩] [0, 1, 5])))))
 (.seq (.reg [
     ⟨(some 13), .mv (.tmp 5), none⟩,
     ⟨(some 4), .mv (.tmp 13), none⟩] [4])
 (.ret))))
theorem s_spec_l03Power : stripF Try.prog 98 [[0, 1], [0, 1, 5], [0, 1, 5], [0, 1, 5, 7], [0, 1, 5], [0, 1, 5], [4]] = some (c_spec_l03Power, [.tmp 4], 14) := by kernel_rfl
def numL (p : Int) : List Int → Int
  | [] => 0
  | x :: xs => numL p xs * p + x
def digL (p : Nat) : Nat → Nat → List Int
  | 0, _ => []
  | n + 1, a => ((a % p : Nat) : Int) :: digL p n (a / p)
def OkD (p : Int) (xs : List Int) : Prop := ∀ z ∈ xs, 0 ≤ z ∧ z < p
theorem digL_len (p : Nat) : ∀ n a, (digL p n a).length = n
  | 0, _ => rfl
  | n + 1, a => by rw [digL, List.length_cons, digL_len p n]
theorem digL_ok {p : Nat} (hp : 1 ≤ p) : ∀ n a, OkD p (digL p n a)
  | 0, _ => fun z hz => by simp [digL] at hz
  | n + 1, a => fun z hz => by
    rw [digL] at hz
    rcases List.mem_cons.1 hz with rfl | h
    · have := Nat.mod_lt a (show 0 < p by omega)
      omega
    · exact digL_ok hp n _ z h
theorem numL_bd {p : Nat} (hp : 1 ≤ p) : ∀ (xs : List Int), OkD p xs → 0 ≤ numL p xs ∧ numL p xs + 1 ≤ ((p ^ xs.length : Nat) : Int)
  | [], _ => ⟨Int.le_refl _, by simp [numL]⟩
  | x :: xs, h => by
    obtain ⟨h1, h2⟩ := numL_bd hp xs fun z hz => h z (List.mem_cons_of_mem _ hz)
    have h3 := h x List.mem_cons_self
    have h4 : (numL p xs + 1) * (p : Int) ≤ ((p ^ xs.length : Nat) : Int) * (p : Int) := Int.mul_le_mul_of_nonneg_right h2 (by omega)
    have h5 : 0 ≤ numL p xs * (p : Int) := Int.mul_nonneg h1 (by omega)
    rw [Int.add_mul, Int.one_mul] at h4
    have h6 : ((p ^ xs.length : Nat) : Int) * (p : Int) = ((p ^ (xs.length + 1) : Nat) : Int) := by rw [Nat.pow_succ]; simp
    rw [List.length_cons, ← h6]
    unfold numL
    omega
theorem pow_le6 {p n : Nat} (hp : p ≤ 10) (hn : n ≤ 6) : p ^ n ≤ 1000000 := by
  refine Nat.le_trans (Nat.pow_le_pow_left hp n) ?_
  exact Nat.le_trans (Nat.pow_le_pow_right (by omega) hn) (by decide)
theorem l03Power_fn (p k : Nat) (h1 : 1 ≤ p) (hp : p ≤ 10) (hk : k ≤ 6) : PFn Try.prog f_spec_l03Power [I p, I k] (I (p ^ k : Nat)) := by
  intro H; refine ACalls.introB s_spec_l03Power (by simp) ?_; intro hB hA; unfold c_spec_l03Power; simp (config := { maxSteps := 1000000 }) (disch := (first | omega | (simp only [go_sem]; try omega))) only [go_sem, Nat.reduceAdd, Nat.reduceEqDiff, Nat.reduceLeDiff, Nat.reduceMul, Nat.reduceLT, reduceIte, Int.reduceToNat, w64_id, cast_succ]
  repeat (first | (with_reducible first | refine SW.seq ?_ | refine SW.block ?_ | refine SW.rowC ?_ | refine SW.skip ?_ | refine SW.exit ?_ | intro _ | refine And.intro (by omega) ?_) | simp (config := { maxSteps := 1000000 }) (disch := (first | omega | (simp only [go_sem]; try omega))) only [go_sem, Nat.reduceAdd, Nat.reduceEqDiff, Nat.reduceLeDiff, Nat.reduceMul, Nat.reduceLT, reduceIte, Int.reduceToNat, w64_id, cast_succ])
  refine SW.loopE (fun E0 H0 q E' H' => ∃ i, i ≤ k ∧ q = k - i ∧ E' = aput (aput E0 1 (I (k - i : Nat))) 5 (I (p ^ i : Nat)) ∧ H' = H0) k ⟨0, by omega, by omega, by simp [go_sem], rfl⟩ ?_
  rintro q E' H' ⟨i, hi, rfl, rfl, rfl⟩
  simp (config := { maxSteps := 1000000 }) (disch := (first | omega | (simp only [go_sem]; try omega))) only [go_sem, Nat.reduceAdd, Nat.reduceEqDiff, Nat.reduceLeDiff, Nat.reduceMul, Nat.reduceLT, reduceIte, Int.reduceToNat, w64_id, cast_succ]
  repeat (first | (with_reducible first | refine SW.seq ?_ | refine SW.block ?_ | refine SW.rowC ?_ | refine SW.skip ?_ | refine SW.exit ?_ | intro _ | refine And.intro (by omega) ?_) | simp (config := { maxSteps := 1000000 }) (disch := (first | omega | (simp only [go_sem]; try omega))) only [go_sem, Nat.reduceAdd, Nat.reduceEqDiff, Nat.reduceLeDiff, Nat.reduceMul, Nat.reduceLT, reduceIte, Int.reduceToNat, w64_id, cast_succ])
  (first | refine SW.condD rfl (fun h2 => ?_) (fun h2 => ?_) | refine SW.condN rfl (fun h2 => ?_) (fun h2 => ?_) | refine SW.condNB rfl (fun h2 => ?_) (fun h2 => ?_) | refine SW.condB rfl (fun h2 => ?_) (fun h2 => ?_))
  · have hik : i < k := by omega
    have e1 : ((p ^ i : Nat) : Int) * (p : Int) = ((p ^ (i + 1) : Nat) : Int) := by rw [Nat.pow_succ]; simp
    have e2 : ((k - i : Nat) : Int) - 1 = ((k - (i + 1) : Nat) : Int) := by omega
    have := pow_le6 hp (show i + 1 ≤ 6 by omega)
    generalize hP1 : p ^ (i + 1) = P1 at *
    repeat (first | (with_reducible first | refine SW.seq ?_ | refine SW.block ?_ | refine SW.rowC ?_ | refine SW.skip ?_ | refine SW.exit ?_ | intro _ | refine And.intro (by omega) ?_) | simp (config := { maxSteps := 1000000 }) (disch := (first | omega | (simp only [go_sem]; try omega))) only [go_sem, Nat.reduceAdd, Nat.reduceEqDiff, Nat.reduceLeDiff, Nat.reduceMul, Nat.reduceLT, reduceIte, Int.reduceToNat, w64_id, cast_succ, e1, e2])
    refine SLoop.next (k - (i + 1)) (by omega) ⟨i + 1, by omega, rfl, by simp [go_sem]; rw [← hP1]; simp, rfl⟩
  · have : i = k := by omega
    subst this
    repeat (first | (with_reducible first | refine SW.seq ?_ | refine SW.block ?_ | refine SW.rowC ?_ | refine SW.skip ?_ | refine SW.exit ?_ | intro _ | refine And.intro (by omega) ?_) | simp (config := { maxSteps := 1000000 }) (disch := (first | omega | (simp only [go_sem]; try omega))) only [go_sem, Nat.reduceAdd, Nat.reduceEqDiff, Nat.reduceLeDiff, Nat.reduceMul, Nat.reduceLT, reduceIte, Int.reduceToNat, w64_id, cast_succ])
    refine SW.ret ?_; (try simp only [go_sem]); (first | refine FunPost.one ?_ | refine FunPost.two ?_ | refine FunPost.three ?_); (try simp (config := { maxSteps := 1000000 }) (disch := (first | omega | (simp only [go_sem]; try omega))) only [go_sem, Nat.reduceAdd, Nat.reduceEqDiff, Nat.reduceLeDiff, Nat.reduceMul, Nat.reduceLT, reduceIte, Int.reduceToNat, w64_id, cast_succ]); (first | (with_reducible refine GR.drop ?_ ?_; (simp only [go_sem, and_self, and_true, true_and, implies_true, List.take_succ_cons, List.take_zero])) | refine GR.of ?_); refine ⟨?_, rfl⟩; (try with_reducible rfl)
theorem l03Digits_new (H : List Blk) (a p n : Nat) (h1 : 1 ≤ p) (hp : p ≤ 10) (ha : a ≤ 100000) (hn : n ≤ 64) : ACalls Try.prog f_spec_l03Digits [I a, I p, I n] H (fun r H' => ∃ ver, r = .nm H.length ver 0 n ∧ H' = H ++ [⟨ver, 2, 1, (digL p n a).map I⟩]) := by
  refine ACalls.introB s_spec_l03Digits (by simp) ?_; intro hB hA; unfold c_spec_l03Digits; simp (config := { maxSteps := 1000000 }) (disch := (first | omega | (simp only [go_sem]; try omega))) only [go_sem, Nat.reduceAdd, Nat.reduceEqDiff, Nat.reduceLeDiff, Nat.reduceMul, Nat.reduceLT, reduceIte, Int.reduceToNat, w64_id, cast_succ]
  repeat (first | (with_reducible first | refine SW.seq ?_ | refine SW.block ?_ | refine SW.rowC ?_ | refine SW.skip ?_ | refine SW.exit ?_ | intro _ | refine And.intro (by omega) ?_) | simp (config := { maxSteps := 1000000 }) (disch := (first | omega | (simp only [go_sem]; try omega))) only [go_sem, Nat.reduceAdd, Nat.reduceEqDiff, Nat.reduceLeDiff, Nat.reduceMul, Nat.reduceLT, reduceIte, Int.reduceToNat, w64_id, cast_succ])
  generalize hD : digL p n a = D
  refine SW.loopE (fun E0 H0 q E' H' => ∃ (i ver b : Nat) (acc : List Int), i ≤ n ∧ q = n - i ∧ acc.length = i ∧ D = acc ++ digL p (n - i) b ∧ b ≤ 100000 ∧ E' = aput (aput (aput E0 0 (I b)) 2 (I (n - i : Nat))) 7 (.nm H.length ver 0 i) ∧ H' = H ++ [⟨ver, 2, 1, acc.map I⟩]) n ⟨0, 0, a, [], by omega, by omega, rfl, by rw [← hD]; rfl, ha, by simp [go_sem], rfl⟩ ?_
  rintro q E' H' ⟨i, ver, b, acc, hi, rfl, rfl, hA, hb, rfl, rfl⟩
  have hp0 : ¬ (p : Int) = 0 := by omega
  simp (config := { maxSteps := 1000000 }) (disch := (first | omega | (simp only [go_sem]; try omega))) only [go_sem, Nat.reduceAdd, Nat.reduceEqDiff, Nat.reduceLeDiff, Nat.reduceMul, Nat.reduceLT, reduceIte, Int.reduceToNat, w64_id, cast_succ]
  repeat (first | (with_reducible first | refine SW.seq ?_ | refine SW.block ?_ | refine SW.rowC ?_ | refine SW.skip ?_ | refine SW.exit ?_ | intro _ | refine And.intro (by omega) ?_) | simp (config := { maxSteps := 1000000 }) (disch := (first | omega | (simp only [go_sem]; try omega))) only [go_sem, Nat.reduceAdd, Nat.reduceEqDiff, Nat.reduceLeDiff, Nat.reduceMul, Nat.reduceLT, reduceIte, Int.reduceToNat, w64_id, cast_succ])
  (first | refine SW.condD rfl (fun h2 => ?_) (fun h2 => ?_) | refine SW.condN rfl (fun h2 => ?_) (fun h2 => ?_) | refine SW.condNB rfl (fun h2 => ?_) (fun h2 => ?_) | refine SW.condB rfl (fun h2 => ?_) (fun h2 => ?_))
  · have hin : acc.length < n := by omega
    have htl : (acc.map I).take acc.length = acc.map I := List.take_of_length_le (by simp)
    have e2 : ((n - acc.length : Nat) : Int) - 1 = ((n - (acc.length + 1) : Nat) : Int) := by omega
    have hbd : b / p ≤ b := Nat.div_le_self _ _
    have hbm := Nat.mod_le b p
    have hbq : b / p ≤ 100000 := Nat.le_trans hbd hb
    have hw : w64 ((b / p : Nat) : Int) = ((b / p : Nat) : Int) := by generalize b / p = x at *; exact w64_id (by omega) (by omega)
    rw [show n - acc.length = (n - (acc.length + 1)) + 1 by omega, digL] at hA
    repeat (first | (with_reducible first | refine SW.seq ?_ | refine SW.block ?_ | refine SW.rowC ?_ | refine SW.skip ?_ | refine SW.exit ?_ | intro _ | refine And.intro (by omega) ?_) | simp (config := { maxSteps := 1000000 }) (disch := (first | omega | (simp only [go_sem]; try omega))) only [go_sem, Nat.reduceAdd, Nat.reduceEqDiff, Nat.reduceLeDiff, Nat.reduceMul, Nat.reduceLT, reduceIte, Int.reduceToNat, w64_id, cast_succ, htl, tmodN, tdivN, e2, hw])
    refine SLoop.nextT 1 (n - (acc.length + 1)) hB (by omega) (by omega) (by simp) ?_ ?_ ⟨acc.length + 1, ver + 1, b / p, acc ++ [((b % p : Nat) : Int)], by omega, rfl, by simp, by rw [hA]; simp, by omega, ?_, ?_⟩
    · (simp only [go_sem, Nat.reduceAdd, Nat.reduceEqDiff, reduceIte, go_sem, and_self, and_true, true_and, implies_true, List.take_succ_cons, List.take_zero, and_true, true_and]; try omega)
    · (simp only [go_sem, Nat.reduceAdd, Nat.reduceEqDiff, reduceIte, go_sem, and_self, and_true, true_and, implies_true, List.take_succ_cons, List.take_zero, and_true, true_and]; try omega)
    · simp only [go_sem, hw]; rfl
    · simp
  · have : acc.length = n := by omega
    subst this
    rw [Nat.sub_self, digL, List.append_nil] at hA
    subst hA
    repeat (first | (with_reducible first | refine SW.seq ?_ | refine SW.block ?_ | refine SW.rowC ?_ | refine SW.skip ?_ | refine SW.exit ?_ | intro _ | refine And.intro (by omega) ?_) | simp (config := { maxSteps := 1000000 }) (disch := (first | omega | (simp only [go_sem]; try omega))) only [go_sem, Nat.reduceAdd, Nat.reduceEqDiff, Nat.reduceLeDiff, Nat.reduceMul, Nat.reduceLT, reduceIte, Int.reduceToNat, w64_id, cast_succ])
    refine SW.ret ?_; (try simp only [go_sem]); (first | refine FunPost.one ?_ | refine FunPost.two ?_ | refine FunPost.three ?_); (try simp (config := { maxSteps := 1000000 }) (disch := (first | omega | (simp only [go_sem]; try omega))) only [go_sem, Nat.reduceAdd, Nat.reduceEqDiff, Nat.reduceLeDiff, Nat.reduceMul, Nat.reduceLT, reduceIte, Int.reduceToNat, w64_id, cast_succ])
    exact GR.of ⟨ver, rfl, rfl⟩
theorem numL_cons (p x : Int) (xs : List Int) : numL p xs * p + x = numL p (x :: xs) := rfl
theorem l03Number_fn (p : Nat) (xs : List Int) (h1 : 1 ≤ p) (hp : p ≤ 10) (hx : OkD p xs) (hl : xs.length ≤ 6) : PFn Try.prog f_spec_l03Number [ilS xs, I p] (I (numL p xs)) := by
  intro H; refine ACalls.introB s_spec_l03Number (by simp) ?_; intro hB hA; unfold c_spec_l03Number; simp (config := { maxSteps := 1000000 }) (disch := (first | omega | (simp only [go_sem]; try omega))) only [go_sem, Nat.reduceAdd, Nat.reduceEqDiff, Nat.reduceLeDiff, Nat.reduceMul, Nat.reduceLT, reduceIte, Int.reduceToNat, w64_id, cast_succ]
  repeat (first | (with_reducible first | refine SW.seq ?_ | refine SW.block ?_ | refine SW.rowC ?_ | refine SW.skip ?_ | refine SW.exit ?_ | intro _ | refine And.intro (by omega) ?_) | simp (config := { maxSteps := 1000000 }) (disch := (first | omega | (simp only [go_sem]; try omega))) only [go_sem, Nat.reduceAdd, Nat.reduceEqDiff, Nat.reduceLeDiff, Nat.reduceMul, Nat.reduceLT, reduceIte, Int.reduceToNat, w64_id, cast_succ])
  refine SW.loopE (fun E0 H0 q E' H' => ∃ k : Nat, k ≤ xs.length ∧ q = k ∧ E' = aput (aput E0 6 (I ((k : Int) - 1))) 5 (I (numL p (xs.drop k))) ∧ H' = H0) xs.length ⟨xs.length, by omega, rfl, by simp [go_sem, numL], rfl⟩ ?_
  rintro q E' H' ⟨_, hk, rfl, rfl, rfl⟩
  simp (config := { maxSteps := 1000000 }) (disch := (first | omega | (simp only [go_sem]; try omega))) only [go_sem, Nat.reduceAdd, Nat.reduceEqDiff, Nat.reduceLeDiff, Nat.reduceMul, Nat.reduceLT, reduceIte, Int.reduceToNat, w64_id, cast_succ]
  repeat (first | (with_reducible first | refine SW.seq ?_ | refine SW.block ?_ | refine SW.rowC ?_ | refine SW.skip ?_ | refine SW.exit ?_ | intro _ | refine And.intro (by omega) ?_) | simp (config := { maxSteps := 1000000 }) (disch := (first | omega | (simp only [go_sem]; try omega))) only [go_sem, Nat.reduceAdd, Nat.reduceEqDiff, Nat.reduceLeDiff, Nat.reduceMul, Nat.reduceLT, reduceIte, Int.reduceToNat, w64_id, cast_succ])
  (first | refine SW.condD rfl (fun h2 => ?_) (fun h2 => ?_) | refine SW.condN rfl (fun h2 => ?_) (fun h2 => ?_) | refine SW.condNB rfl (fun h2 => ?_) (fun h2 => ?_) | refine SW.condB rfl (fun h2 => ?_) (fun h2 => ?_))
  · obtain ⟨k, rfl⟩ : ∃ k, q = k + 1 := ⟨q - 1, by omega⟩
    have e1 : ((k + 1 : Nat) : Int) - 1 = (k : Int) := by omega
    have hd : xs.drop k = xs[k] :: xs.drop (k + 1) := List.drop_eq_getElem_cons (by omega)
    have hb := numL_bd h1 (xs.drop k) fun z hz => hx z (List.mem_of_mem_drop hz)
    have hb2 := numL_bd h1 (xs.drop (k + 1)) fun z hz => hx z (List.mem_of_mem_drop hz)
    have hl1 := pow_le6 hp (show (xs.drop k).length ≤ 6 by simp; omega)
    have hx1 := hx xs[k] (List.getElem_mem _)
    have hg : xs.getD k 0 = xs[k] := (List.getElem_eq_getD 0).symm
    rw [hd, ← numL_cons] at hb
    rw [hd] at hl1
    generalize hN : numL (p : Int) (xs.drop (k + 1)) = N at *
    have h0 : 0 ≤ N * (p : Int) := Int.mul_nonneg hb2.1 (by omega)
    generalize hx0 : xs[k] = x at *
    generalize p ^ (x :: xs.drop (k + 1)).length = P1 at *
    generalize p ^ (xs.drop (k + 1)).length = P2 at *
    repeat (first | (with_reducible first | refine SW.seq ?_ | refine SW.block ?_ | refine SW.rowC ?_ | refine SW.skip ?_ | refine SW.exit ?_ | intro _ | refine And.intro (by omega) ?_) | simp (config := { maxSteps := 1000000 }) (disch := (first | omega | (simp only [go_sem]; try omega))) only [go_sem, Nat.reduceAdd, Nat.reduceEqDiff, Nat.reduceLeDiff, Nat.reduceMul, Nat.reduceLT, reduceIte, Int.reduceToNat, w64_id, cast_succ, e1, hg])
    refine SLoop.next k (by omega) ⟨k, by omega, rfl, ?_, rfl⟩
    rw [hd, ← numL_cons, hN]
    simp [go_sem]
  · have : q = 0 := by omega
    subst this
    repeat (first | (with_reducible first | refine SW.seq ?_ | refine SW.block ?_ | refine SW.rowC ?_ | refine SW.skip ?_ | refine SW.exit ?_ | intro _ | refine And.intro (by omega) ?_) | simp (config := { maxSteps := 1000000 }) (disch := (first | omega | (simp only [go_sem]; try omega))) only [go_sem, Nat.reduceAdd, Nat.reduceEqDiff, Nat.reduceLeDiff, Nat.reduceMul, Nat.reduceLT, reduceIte, Int.reduceToNat, w64_id, cast_succ])
    refine SW.ret ?_; (try simp only [go_sem]); (first | refine FunPost.one ?_ | refine FunPost.two ?_ | refine FunPost.three ?_); (try simp (config := { maxSteps := 1000000 }) (disch := (first | omega | (simp only [go_sem]; try omega))) only [go_sem, Nat.reduceAdd, Nat.reduceEqDiff, Nat.reduceLeDiff, Nat.reduceMul, Nat.reduceLT, reduceIte, Int.reduceToNat, w64_id, cast_succ]); (first | (with_reducible refine GR.drop ?_ ?_; (simp only [go_sem, and_self, and_true, true_and, implies_true, List.take_succ_cons, List.take_zero])) | refine GR.of ?_); refine ⟨?_, rfl⟩; (try with_reducible rfl)
end Go.Proofs.Ytnlfokkljgbaaaa
