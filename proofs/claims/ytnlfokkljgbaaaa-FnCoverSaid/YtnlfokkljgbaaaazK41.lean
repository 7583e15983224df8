/- What is left of a cover: the program. -/
import Derived.Test.YtnlfokkljgbaaaaProg
import Derived.KernelRfl
import Derived.Test.YtnlfokkljgbaaaazK40
import Derived.Test.YtnlfokkljgbaaaazG1
import Derived.Test.YtnlfokkljgbaaaazM2
set_option linter.unusedSimpArgs false
set_option linter.unusedVariables false
set_option maxHeartbeats 4000000
set_option maxRecDepth 100000
namespace Go.Proofs.Ytnlfokkljgbaaaa
open Go.Av
abbrev f_impl_RestCover : Nat := 17
def c_impl_RestCover : SC :=
 .seq (.reg [
     ⟨(some 2), .box 34 (.tmp 0), none⟩,
     ⟨(some 4), .alloc 34 [(.int .i64 0), (.slice none 0 0)], none⟩,
     ⟨(some 5), .mv (.const (.slice none 0 0)), none⟩,
     ⟨(some 6), .mv (.const (.int .i64 0)), none⟩] [1, 2, 4])
 (.seq (.seq (.reg [
     ⟨(some 18), .load 2 true (.tmp 2), none⟩,
     ⟨(some 19), .call 29 [(.tmp 18)], none⟩,
     ⟨(some 20), .un .not (.tmp 19), none⟩] [1, 2, 4, 20])
 (.cond (.tmp 20)
  (.seq (.reg [
      ⟨(some 21), .build [(.int .i64 0), (.slice none 0 0)] [], none⟩,
      ⟨none, .store 2 (.tmp 4) (.tmp 21), none⟩,
      ⟨(some 5), .mv (.const (.slice none 0 0)), none⟩,
      ⟨(some 6), .mv (.const (.int .i64 1)), none⟩] [4, 5, 6])
  (.ret))
  (.skip)))
 (.seq (.seq (.reg [
     ⟨(some 22), .mv (.tmp 1), none⟩,
     ⟨(some 23), .faddr 1 (.tmp 2), none⟩,
     ⟨(some 24), .load 1 false (.tmp 23), none⟩,
     ⟨(some 25), .call 28 [(.tmp 24)], none⟩,
     ⟨(some 26), .call 30 [(.tmp 22), (.tmp 25)], none⟩,
     ⟨(some 27), .un .not (.tmp 26), none⟩] [1, 2, 4, 27])
 (.cond (.tmp 27)
  (.seq (.reg [
      ⟨(some 28), .build [(.int .i64 0), (.slice none 0 0)] [], none⟩,
      ⟨none, .store 2 (.tmp 4) (.tmp 28), none⟩,
      ⟨(some 5), .mv (.const (.slice none 0 0)), none⟩,
      ⟨(some 6), .mv (.const (.int .i64 2)), none⟩] [4, 5, 6])
  (.ret))
  (.skip)))
 (.seq (.reg [
     ⟨(some 30), .load 2 true (.tmp 2), none⟩,
     ⟨(some 31), .mv (.tmp 1), none⟩,
     ⟨(some 32), .call 31 [(.tmp 30), (.tmp 31)], none⟩,
     ⟨(some 29), .mv (.tmp 32), none⟩,
     ⟨(some 33), .ext (.tmp 29) 0, none⟩,
     ⟨(some 34), .ext (.tmp 29) 1, none⟩,
     ⟨(some 7), .alloc 61 [(.slice none 0 0)], none⟩,
     ⟨none, .store 1 (.tmp 7) (.tmp 33), none⟩,
     ⟨(some 8), .mv (.tmp 34), none⟩] [2, 4, 7, 8])
 (.seq (.seq (.reg [
     ⟨(some 35), .mv (.tmp 8), none⟩,
     ⟨(some 36), .un .not (.tmp 35), none⟩,
     ⟨(some 37), .mv (.tmp 36), none⟩,
     ⟨(some 38), .load 1 false (.tmp 7), (some (37, false))⟩,
     ⟨(some 39), .call 32 [(.tmp 38), (.const (.bool false))], (some (37, false))⟩,
     ⟨(some 40), .un .not (.tmp 39), (some (37, false))⟩,
     ⟨(some 41), .pick (.tmp 37) (.const (.bool true)) (.tmp 40), none⟩] [2, 4, 7, 41])
 (.cond (.tmp 41)
  (.seq (.reg [
      ⟨(some 42), .build [(.int .i64 0), (.slice none 0 0)] [], none⟩,
      ⟨none, .store 2 (.tmp 4) (.tmp 42), none⟩,
      ⟨(some 5), .mv (.const (.slice none 0 0)), none⟩,
      ⟨(some 6), .mv (.const (.int .i64 6)), none⟩] [4, 5, 6])
  (.ret))
  (.skip)))
 (.seq (.reg [
     ⟨(some 43), .faddr 0 (.tmp 2), none⟩,
     ⟨(some 44), .load 1 false (.tmp 43), none⟩,
     ⟨(some 45), .mslice 2 8 (.int .i64 0) (.tmp 44) (.tmp 44), none⟩,
     ⟨(some 9), .mv (.tmp 45), none⟩] [2, 4, 7, 9])
 (.seq (.reg [
     ⟨(some 10), .alloc 34 [(.int .i64 0), (.slice none 0 0)], none⟩] [2, 4, 7, 9, 10])
 (.seq (.seq (.reg [
     ⟨(some 46), .mv (.tmp 9), none⟩,
     ⟨(some 47), .len (.tmp 46), none⟩,
     ⟨(some 48), .mv (.const (.int .i64 0)), none⟩] [2, 4, 7, 9, 10, 47, 48])
 (.block 0 (.loop [2, 4, 7, 9, 10, 47, 48]
   (.seq (.reg [
       ⟨(some 49), .bin .lss (.tmp 48) (.tmp 47), none⟩] [2, 4, 7, 9, 10, 47, 48, 49])
   (.seq (.cond (.tmp 49)
    (.skip)
    (.exit 0))
   (.seq (.block 1 (.seq (.reg [
        ⟨(some 50), .mv (.tmp 48), none⟩,
        ⟨(some 11), .mv (.tmp 50), none⟩] [2, 4, 7, 9, 10, 11, 47, 48])
    (.seq (.reg [
        ⟨(some 51), .load 1 false (.tmp 7), none⟩,
        ⟨(some 52), .mv (.tmp 11), none⟩,
        ⟨(some 53), .iaddr 1 (.tmp 51) (.tmp 52), none⟩,
        ⟨(some 54), .load 1 false (.tmp 53), none⟩,
        ⟨(some 55), .un .not (.tmp 54), none⟩] [2, 4, 7, 9, 10, 11, 47, 48, 55])
    (.cond (.tmp 55)
     (.seq (.reg [
         ⟨(some 56), .mv (.tmp 9), none⟩,
         ⟨(some 57), .mv (.tmp 11), none⟩,
         ⟨(some 58), .faddr 0 (.tmp 10), none⟩,
         ⟨(some 59), .load 1 false (.tmp 58), none⟩,
         ⟨(some 60), .iaddr 1 (.tmp 56) (.tmp 57), none⟩,
         ⟨none, .store 1 (.tmp 60) (.tmp 59), none⟩] [2, 4, 7, 9, 10, 47, 48])
     (.reg [
         ⟨(some 61), .faddr 0 (.tmp 10), none⟩,
         ⟨(some 62), .load 1 false (.tmp 61), none⟩,
         ⟨(some 63), .bin .add (.tmp 62) (.const (.int .i64 1)), none⟩,
         ⟨(some 64), .faddr 0 (.tmp 10), none⟩,
         ⟨none, .store 1 (.tmp 64) (.tmp 63), none⟩] [2, 4, 7, 9, 10, 47, 48]))
     (.skip)))))
   (.reg [
       ⟨(some 65), .bin .add (.tmp 48) (.const (.int .i64 1)), none⟩,
       ⟨(some 48), .mv (.tmp 65), none⟩] [2, 4, 7, 9, 10, 47, 48])))))))
 (.seq (.reg [
     ⟨(some 12), .mv (.const (.slice none 0 0)), none⟩] [2, 4, 7, 9, 10, 12])
 (.seq (.seq (.reg [
     ⟨(some 66), .faddr 1 (.tmp 2), none⟩,
     ⟨(some 67), .load 1 false (.tmp 66), none⟩,
     ⟨(some 68), .len (.tmp 67), none⟩,
     ⟨(some 69), .mv (.const (.int .i64 0)), none⟩] [4, 7, 9, 10, 12, 67, 68, 69])
 (.block 2 (.loop [4, 7, 9, 10, 12, 67, 68, 69]
   (.seq (.reg [
       ⟨(some 70), .bin .lss (.tmp 69) (.tmp 68), none⟩] [4, 7, 9, 10, 12, 67, 68, 69, 70])
   (.seq (.cond (.tmp 70)
    (.skip)
    (.exit 2))
   (.seq (.block 3 (.seq (.reg [
        ⟨(some 71), .mv (.tmp 69), none⟩,
        ⟨(some 72), .iaddr 1 (.tmp 67) (.tmp 69), none⟩,
        ⟨(some 73), .load 1 false (.tmp 72), none⟩,
        ⟨(some 13), .mv (.tmp 71), none⟩,
        ⟨(some 14), .mv (.tmp 73), none⟩] [4, 7, 9, 10, 12, 13, 14, 67, 68, 69])
    (.seq (.seq (.reg [
        ⟨(some 74), .mv (.tmp 14), none⟩,
        ⟨(some 75), .mkf 34 [(.tmp 7)], none⟩,
        ⟨(some 76), .call 33 [(.tmp 74), (.tmp 75)], none⟩] [4, 7, 9, 10, 12, 13, 14, 67, 68, 69, 76])
    (.cond (.tmp 76)
     (.exit 3)
     (.skip)))
    (.seq (.reg [
        ⟨(some 15), .mv (.const (.slice none 0 0)), none⟩] [4, 7, 9, 10, 12, 13, 14, 15, 67, 68, 69])
    (.seq (.seq (.reg [
        ⟨(some 77), .mv (.tmp 14), none⟩,
        ⟨(some 78), .len (.tmp 77), none⟩,
        ⟨(some 79), .mv (.const (.int .i64 0)), none⟩] [4, 7, 9, 10, 12, 13, 15, 67, 68, 69, 77, 78, 79])
    (.block 4 (.loop [4, 7, 9, 10, 12, 13, 15, 67, 68, 69, 77, 78, 79]
      (.seq (.reg [
          ⟨(some 80), .bin .lss (.tmp 79) (.tmp 78), none⟩] [4, 7, 9, 10, 12, 13, 15, 67, 68, 69, 77, 78, 79, 80])
      (.seq (.cond (.tmp 80)
       (.skip)
       (.exit 4))
      (.seq (.block 5 (.seq (.reg [
           ⟨(some 81), .iaddr 1 (.tmp 77) (.tmp 79), none⟩,
           ⟨(some 82), .load 1 false (.tmp 81), none⟩,
           ⟨(some 17), .mv (.tmp 82), none⟩] [4, 7, 9, 10, 12, 13, 15, 17, 67, 68, 69, 77, 78, 79])
       (.reg [
           ⟨(some 83), .mv (.tmp 15), none⟩,
           ⟨(some 84), .mv (.tmp 9), none⟩,
           ⟨(some 85), .mv (.tmp 17), none⟩,
           ⟨(some 86), .iaddr 1 (.tmp 84) (.tmp 85), none⟩,
           ⟨(some 87), .load 1 false (.tmp 86), none⟩,
           ⟨(some 88), .bslice 2 1 1 [(.int .i64 0)] [(0, (.tmp 87))], none⟩,
           ⟨(some 89), .app 2 1 8 (.tmp 83) (.tmp 88), none⟩,
           ⟨(some 15), .mv (.tmp 89), none⟩] [4, 7, 9, 10, 12, 13, 15, 67, 68, 69, 77, 78, 79])))
      (.reg [
          ⟨(some 90), .bin .add (.tmp 79) (.const (.int .i64 1)), none⟩,
          ⟨(some 79), .mv (.tmp 90), none⟩] [4, 7, 9, 10, 12, 13, 15, 67, 68, 69, 77, 78, 79])))))))
    (.seq (.reg [
        ⟨(some 91), .faddr 1 (.tmp 10), none⟩,
        ⟨(some 92), .load 1 false (.tmp 91), none⟩,
        ⟨(some 93), .mv (.tmp 15), none⟩,
        ⟨(some 94), .bslice 29 1 1 [(.slice none 0 0)] [(0, (.tmp 93))], none⟩,
        ⟨(some 95), .app 29 1 24 (.tmp 92) (.tmp 94), none⟩,
        ⟨(some 96), .faddr 1 (.tmp 10), none⟩,
        ⟨none, .store 1 (.tmp 96) (.tmp 95), none⟩] [4, 7, 9, 10, 12, 13, 67, 68, 69])
    (.reg [
        ⟨(some 97), .mv (.tmp 12), none⟩,
        ⟨(some 98), .mv (.tmp 13), none⟩,
        ⟨(some 99), .bslice 2 1 1 [(.int .i64 0)] [(0, (.tmp 98))], none⟩,
        ⟨(some 100), .app 2 1 8 (.tmp 97) (.tmp 99), none⟩,
        ⟨(some 12), .mv (.tmp 100), none⟩] [4, 7, 9, 10, 12, 67, 68, 69])))))))
   (.reg [
       ⟨(some 101), .bin .add (.tmp 69) (.const (.int .i64 1)), none⟩,
       ⟨(some 69), .mv (.tmp 101), none⟩] [4, 7, 9, 10, 12, 67, 68, 69])))))))
 (.seq (.reg [
     ⟨(some 102), .load 2 true (.tmp 10), none⟩,
     ⟨(some 103), .mv (.tmp 12), none⟩,
     ⟨none, .store 2 (.tmp 4) (.tmp 102), none⟩,
     ⟨(some 5), .mv (.tmp 103), none⟩,
     ⟨(some 6), .mv (.const (.int .i64 0)), none⟩] [4, 5, 6])
 (.ret)))))))))))
theorem s_impl_RestCover : stripF Try.prog 17 [[1, 2, 4], [1, 2, 4, 20], [4, 5, 6], [1, 2, 4, 27], [4, 5, 6], [2, 4, 7, 8], [2, 4, 7, 41], [4, 5, 6], [2, 4, 7, 9], [2, 4, 7, 9, 10], [2, 4, 7, 9, 10, 47, 48], [2, 4, 7, 9, 10, 47, 48], [2, 4, 7, 9, 10, 47, 48, 49], [2, 4, 7, 9, 10, 11, 47, 48], [2, 4, 7, 9, 10, 11, 47, 48, 55], [2, 4, 7, 9, 10, 47, 48], [2, 4, 7, 9, 10, 47, 48], [2, 4, 7, 9, 10, 47, 48], [2, 4, 7, 9, 10, 12], [4, 7, 9, 10, 12, 67, 68, 69], [4, 7, 9, 10, 12, 67, 68, 69], [4, 7, 9, 10, 12, 67, 68, 69, 70], [4, 7, 9, 10, 12, 13, 14, 67, 68, 69], [4, 7, 9, 10, 12, 13, 14, 67, 68, 69, 76], [4, 7, 9, 10, 12, 13, 14, 15, 67, 68, 69], [4, 7, 9, 10, 12, 13, 15, 67, 68, 69, 77, 78, 79], [4, 7, 9, 10, 12, 13, 15, 67, 68, 69, 77, 78, 79], [4, 7, 9, 10, 12, 13, 15, 67, 68, 69, 77, 78, 79, 80], [4, 7, 9, 10, 12, 13, 15, 17, 67, 68, 69, 77, 78, 79], [4, 7, 9, 10, 12, 13, 15, 67, 68, 69, 77, 78, 79], [4, 7, 9, 10, 12, 13, 15, 67, 68, 69, 77, 78, 79], [4, 7, 9, 10, 12, 13, 67, 68, 69], [4, 7, 9, 10, 12, 67, 68, 69], [4, 7, 9, 10, 12, 67, 68, 69], [4, 5, 6]] = some (c_impl_RestCover, [.cell 4 2, .tmp 5, .tmp 6], 104) := by kernel_rfl
abbrev f_impl_RestCover_c1 : Nat := 34
def c_impl_RestCover_c1 : SC :=
 .seq (.reg [
     ⟨(some 3), .mv (.const (.bool false)), none⟩] [0, 1])
 (.seq (.reg [
     ⟨(some 4), .load 1 false (.tmp 1), none⟩,
     ⟨(some 5), .mv (.tmp 0), none⟩,
     ⟨(some 6), .iaddr 1 (.tmp 4) (.tmp 5), none⟩,
     ⟨(some 7), .load 1 false (.tmp 6), none⟩,
     ⟨(some 3), .mv (.tmp 7), none⟩] [3])
 (.ret))
theorem s_impl_RestCover_c1 : stripF Try.prog 34 [[0, 1], [3]] = some (c_impl_RestCover_c1, [.tmp 3], 8) := by kernel_rfl
def RcR (H : List Blk) (V : (Int × List (List Int)) × List Int × Int) (r : AV) (H' : List Blk) : Prop :=
  ∃ ext v u q, H' = H ++ ext ∧ r = .tup [.agg [I V.1.1, v], u, I V.2.2] ∧ H.length ≤ q ∧ q ≤ H'.length ∧ OwnSS H' (Btw q H'.length) v V.1.2 ∧ OwnS H' (Btw H.length q) H'.length u V.2.1
theorem nilRc {H ext : List Blk} {code : Int} : RcR H ((0, []), [], code) (.tup [.agg [I 0, nilS], nilS, I code]) (H ++ ext) :=
  ⟨ext, nilS, nilS, H.length, rfl, rfl, Nat.le_refl _, by simp, .inr ⟨rfl, .inl rfl⟩, .inr ⟨rfl, .inl rfl⟩⟩
theorem RestCover_c1_ok (H : List Blk) (p : Nat) (n : Nat) (D : List Int) (x : Int) (h0 : 0 ≤ x) (h1 : x < n) (hp : H[p]? = some ⟨0, 61, 1, [ilB (marks n D)]⟩) :
    ACalls Try.prog f_impl_RestCover_c1 [I x, .pc p 0 0] H (fun r H' => r = Bv (D.contains x) ∧ H' = H) := by
  have hlt : x.toNat < (marks n D).length := by rw [marks_length]; omega
  refine ACalls.introB s_impl_RestCover_c1 (by simp) ?_; intro hB hA; unfold c_impl_RestCover_c1; simp (config := { maxSteps := 1000000 }) (disch := (first | omega | (simp only [go_sem]; try omega))) only [go_sem, Nat.reduceAdd, Nat.reduceEqDiff, Nat.reduceLeDiff, Nat.reduceMul, Nat.reduceLT, reduceIte, Int.reduceToNat, w64_id, cast_succ]
  repeat (first | (with_reducible first | refine SW.seq ?_ | refine SW.block ?_ | refine SW.rowC ?_ | refine SW.skip ?_ | refine SW.exit ?_ | intro _ | refine And.intro (by omega) ?_) | simp (config := { maxSteps := 1000000 }) (disch := (first | omega | (simp only [go_sem]; try omega))) only [go_sem, Nat.reduceAdd, Nat.reduceEqDiff, Nat.reduceLeDiff, Nat.reduceMul, Nat.reduceLT, reduceIte, Int.reduceToNat, w64_id, cast_succ, pc_ld hp, pc_alive hp, marks_length, marks_get n D x h0 h1])
  refine SW.ret ?_; (try simp only [go_sem]); (first | refine FunPost.one ?_ | refine FunPost.two ?_ | refine FunPost.three ?_); (try simp (config := { maxSteps := 1000000 }) (disch := (first | omega | (simp only [go_sem]; try omega))) only [go_sem, Nat.reduceAdd, Nat.reduceEqDiff, Nat.reduceLeDiff, Nat.reduceMul, Nat.reduceLT, reduceIte, Int.reduceToNat, w64_id, cast_succ]); (first | (with_reducible refine GR.drop ?_ ?_; (simp only [go_sem, and_self, and_true, true_and, implies_true, List.take_succ_cons, List.take_zero])) | refine GR.of ?_); refine ⟨?_, rfl⟩; (try with_reducible rfl)
theorem set2_facts {H3 : List Blk} {p q : Nat} {z y b : Blk} (hp : p < H3.length) (hq : q < H3.length) (hpq : p ≠ q) :
    ((H3.set p z ++ [b]).set q y).length = H3.length + 1 ∧ ((H3.set p z ++ [b]).set q y)[p]? = some z ∧ ((H3.set p z ++ [b]).set q y)[q]? = some y ∧ ∀ j, j ≠ p → j ≠ q → j < H3.length → ((H3.set p z ++ [b]).set q y)[j]? = H3[j]? := by
  refine ⟨by simp, ?_, ?_, fun j h1 h2 h3 => ?_⟩
  · rw [List.getElem?_set_ne (Ne.symm hpq), List.getElem?_append_left (by simpa using hp), List.getElem?_set_self hp]
  · rw [List.getElem?_set_self (by simp; omega)]
  · rw [List.getElem?_set_ne (Ne.symm h2), List.getElem?_append_left (by simpa using h3), List.getElem?_set_ne (Ne.symm h1)]
abbrev fresh (D : List Int) (y : Int) : Int := (cntL D y.toNat : Int)
theorem implRest_end (H : List Blk) (n : Nat) (xss : List (List Int)) (D : List Int) {H1 : List Blk} {kv : Nat} {v : AV}
    (m1 : H1[H.length + 1]? = some ⟨0, tyCov, 1, [I 0, nilS]⟩) (m4 : H1[H.length + 4]? = some ⟨0, tyCov, 1, [I (cntL D n), v]⟩) (m5 : H1[H.length + 5]? = some ⟨kv, 2, 1, (keptI xss D).map I⟩)
    (m6 : GrowSS H1 (H.length + 6) tySS v (optsI xss D)) (m7 : H.length + 6 ≤ H1.length) (m8 : ∀ j, j < H.length → H1[j]? = H[j]?) :
    RcR H (((cntL D n : Int), optsI xss D), keptI xss D, 0) (.tup [.agg [I (cntL D n), v], .nm (H.length + 5) kv 0 (keptI xss D).length, I 0]) (H1.set (H.length + 1) ⟨0, tyCov, 1, [I (cntL D n), v]⟩) := by
  obtain ⟨ext, he⟩ := prefix_of (H := H) (H' := H1.set (H.length + 1) ⟨0, tyCov, 1, [I (cntL D n), v]⟩) (by simp; omega) (fun j hj => by rw [List.getElem?_set_ne (by omega), m8 j hj])
  refine ⟨ext, v, _, H.length + 6, he, rfl, by omega, by simp; omega, ?_, .inl ⟨H.length + 5, kv, 2, rfl, ⟨by omega, by omega⟩, by simp; omega, ?_⟩⟩
  · refine GrowSS.own (m6.same (fun j b h1 h2 => ?_)) (Nat.le_refl _)
    rw [List.getElem?_set_ne (by omega)]; exact h2
  · rw [List.getElem?_set_ne (by omega)]; exact m5
theorem implRest_ok (H : List Blk) (n : Int) (xss : List (List Int)) (cols : List Int) (hx : ∀ xs ∈ xss, ∀ x ∈ xs, (Lit.int .i64 x).wf = true) (hc : ∀ x ∈ cols, (Lit.int .i64 x).wf = true) (hl : xss.length ≤ 1073741824) :
    ACalls Try.prog f_impl_RestCover [.agg [I n, ilSS xss], ilS cols] H (RcR H (rcV n xss cols)) := by
  have hv := implValidCover_fn n xss hx
  have ha := areIndices_fn cols xss.length hc (by omega) (by omega)
  by_cases hcv : coverOk n xss = true
  · have hf := coverOk_facts hcv
    rw [hcv] at hv
    unfold rcV
    rw [hcv]
    cases hcl : asc 0 ((xss.length : Int) - 1) cols
    · refine ACalls.introB s_impl_RestCover (by simp) ?_; intro hB hA; unfold c_impl_RestCover; simp (config := { maxSteps := 1000000 }) (disch := (first | omega | (simp only [go_sem]; try omega))) only [go_sem, Nat.reduceAdd, Nat.reduceEqDiff, Nat.reduceLeDiff, Nat.reduceMul, Nat.reduceLT, reduceIte, Int.reduceToNat, w64_id, cast_succ]
      repeat (first | (with_reducible first | refine SW.seq ?_ | refine SW.block ?_ | refine SW.rowC ?_ | refine SW.skip ?_ | refine SW.exit ?_ | refine PFn.use (hv) ?_ | refine PFn.useq (hv) ?_ | intro _ | refine And.intro (by omega) ?_) | simp (config := { maxSteps := 1000000 }) (disch := (first | omega | (simp only [go_sem]; try omega))) only [go_sem, Nat.reduceAdd, Nat.reduceEqDiff, Nat.reduceLeDiff, Nat.reduceMul, Nat.reduceLT, reduceIte, Int.reduceToNat, w64_id, cast_succ])
      refine SW.condF rfl ?_
      repeat (first | (with_reducible first | refine SW.seq ?_ | refine SW.block ?_ | refine SW.rowC ?_ | refine SW.skip ?_ | refine SW.exit ?_ | refine PFn.use (sizeS_fn _) ?_ | refine PFn.useq (sizeS_fn _) ?_ | refine PFn.use (ha) ?_ | refine PFn.useq (ha) ?_ | intro _ | refine And.intro (by omega) ?_) | simp (config := { maxSteps := 1000000 }) (disch := (first | omega | (simp only [go_sem]; try omega))) only [go_sem, Nat.reduceAdd, Nat.reduceEqDiff, Nat.reduceLeDiff, Nat.reduceMul, Nat.reduceLT, reduceIte, Int.reduceToNat, w64_id, cast_succ])
      rw [hcl]
      refine SW.condT rfl ?_
      repeat (first | (with_reducible first | refine SW.seq ?_ | refine SW.block ?_ | refine SW.rowC ?_ | refine SW.skip ?_ | refine SW.exit ?_ | intro _ | refine And.intro (by omega) ?_) | simp (config := { maxSteps := 1000000 }) (disch := (first | omega | (simp only [go_sem]; try omega))) only [go_sem, Nat.reduceAdd, Nat.reduceEqDiff, Nat.reduceLeDiff, Nat.reduceMul, Nat.reduceLT, reduceIte, Int.reduceToNat, w64_id, cast_succ])
      refine SW.ret ?_
      refine FunPost.cell3 (cs := [I 0, nilS]) (by simp (config := { maxSteps := 1000000 }) (disch := (first | omega | (simp only [go_sem]; try omega))) only [go_sem, Nat.reduceAdd, Nat.reduceEqDiff, Nat.reduceLeDiff, Nat.reduceMul, Nat.reduceLT, reduceIte, Int.reduceToNat, w64_id, cast_succ]) ?_
      refine GR.of nilRc
    · obtain ⟨n, rfl⟩ := Int.eq_ofNat_of_zero_le (show 0 ≤ n by omega)
      rw [hcl] at ha
      have hcm := asc_mem hcl
      have hcb := coveredBy_fn n xss cols (by omega) (fun k hk => by have := hcm k hk; omega) (fun xs hxs => (hf.2.2.2 xs hxs).1)
      rw [show ((n : Int)).toNat = n from rfl]
      simp only [Bool.not_true, Bool.false_eq_true, if_false]
      have hml := marks_left n (itemsOf xss cols)
      generalize itemsOf xss cols = D at *
      by_cases hnd : D.Nodup
      · rw [if_pos hnd] at hcb
        cases hct : (marks n D).contains false
        · have hL0 : leftL n D = [] := by
            apply Classical.byContradiction
            intro hh; rw [hml.2 hh] at hct; cases hct
          rw [if_pos (.inr hL0)]
          refine ACalls.introB s_impl_RestCover (by simp) ?_; intro hB hA; unfold c_impl_RestCover; simp (config := { maxSteps := 1000000 }) (disch := (first | omega | (simp only [go_sem]; try omega))) only [go_sem, Nat.reduceAdd, Nat.reduceEqDiff, Nat.reduceLeDiff, Nat.reduceMul, Nat.reduceLT, reduceIte, Int.reduceToNat, w64_id, cast_succ]
          repeat (first | (with_reducible first | refine SW.seq ?_ | refine SW.block ?_ | refine SW.rowC ?_ | refine SW.skip ?_ | refine SW.exit ?_ | refine PFn.use (hv) ?_ | refine PFn.useq (hv) ?_ | intro _ | refine And.intro (by omega) ?_) | simp (config := { maxSteps := 1000000 }) (disch := (first | omega | (simp only [go_sem]; try omega))) only [go_sem, Nat.reduceAdd, Nat.reduceEqDiff, Nat.reduceLeDiff, Nat.reduceMul, Nat.reduceLT, reduceIte, Int.reduceToNat, w64_id, cast_succ])
          refine SW.condF rfl ?_
          repeat (first | (with_reducible first | refine SW.seq ?_ | refine SW.block ?_ | refine SW.rowC ?_ | refine SW.skip ?_ | refine SW.exit ?_ | refine PFn.use (sizeS_fn _) ?_ | refine PFn.useq (sizeS_fn _) ?_ | refine PFn.use (ha) ?_ | refine PFn.useq (ha) ?_ | intro _ | refine And.intro (by omega) ?_) | simp (config := { maxSteps := 1000000 }) (disch := (first | omega | (simp only [go_sem]; try omega))) only [go_sem, Nat.reduceAdd, Nat.reduceEqDiff, Nat.reduceLeDiff, Nat.reduceMul, Nat.reduceLT, reduceIte, Int.reduceToNat, w64_id, cast_succ])
          refine SW.condF rfl ?_
          repeat (first | (with_reducible first | refine SW.seq ?_ | refine SW.block ?_ | refine SW.rowC ?_ | refine SW.skip ?_ | refine SW.exit ?_ | refine PFn.use (hcb) ?_ | refine PFn.useq (hcb) ?_ | refine PFn.use (ContainsB_fn _ _) ?_ | refine PFn.useq (ContainsB_fn _ _) ?_ | intro _ | refine And.intro (by omega) ?_) | simp (config := { maxSteps := 1000000 }) (disch := (first | omega | (simp only [go_sem]; try omega))) only [go_sem, Nat.reduceAdd, Nat.reduceEqDiff, Nat.reduceLeDiff, Nat.reduceMul, Nat.reduceLT, reduceIte, Int.reduceToNat, w64_id, cast_succ, hct])
          refine SW.condT rfl ?_
          repeat (first | (with_reducible first | refine SW.seq ?_ | refine SW.block ?_ | refine SW.rowC ?_ | refine SW.skip ?_ | refine SW.exit ?_ | intro _ | refine And.intro (by omega) ?_) | simp (config := { maxSteps := 1000000 }) (disch := (first | omega | (simp only [go_sem]; try omega))) only [go_sem, Nat.reduceAdd, Nat.reduceEqDiff, Nat.reduceLeDiff, Nat.reduceMul, Nat.reduceLT, reduceIte, Int.reduceToNat, w64_id, cast_succ])
          refine SW.ret ?_
          refine FunPost.cell3 (cs := [I 0, nilS]) (by simp (config := { maxSteps := 1000000 }) (disch := (first | omega | (simp only [go_sem]; try omega))) only [go_sem, Nat.reduceAdd, Nat.reduceEqDiff, Nat.reduceLeDiff, Nat.reduceMul, Nat.reduceLT, reduceIte, Int.reduceToNat, w64_id, cast_succ]) ?_
          refine GR.of nilRc
        · have hL0 : ¬ leftL n D = [] := hml.1 hct
          rw [if_neg (by rintro (h | h); exact h hnd; exact hL0 h)]
          have hxm : ∀ xs ∈ xss, (∀ x ∈ xs, 0 ≤ x ∧ x < n) ∧ xs.length ≤ 64 := hf.2.2.2
          have hdm : (leftL n D).length = cntL D n := rfl
          rw [hdm]
          refine ACalls.introB s_impl_RestCover (by simp) ?_; intro hB hA; unfold c_impl_RestCover; simp (config := { maxSteps := 1000000 }) (disch := (first | omega | (simp only [go_sem]; try omega))) only [go_sem, Nat.reduceAdd, Nat.reduceEqDiff, Nat.reduceLeDiff, Nat.reduceMul, Nat.reduceLT, reduceIte, Int.reduceToNat, w64_id, cast_succ]
          repeat (first | (with_reducible first | refine SW.seq ?_ | refine SW.block ?_ | refine SW.rowC ?_ | refine SW.skip ?_ | refine SW.exit ?_ | refine PFn.use (hv) ?_ | refine PFn.useq (hv) ?_ | intro _ | refine And.intro (by omega) ?_) | simp (config := { maxSteps := 1000000 }) (disch := (first | omega | (simp only [go_sem]; try omega))) only [go_sem, Nat.reduceAdd, Nat.reduceEqDiff, Nat.reduceLeDiff, Nat.reduceMul, Nat.reduceLT, reduceIte, Int.reduceToNat, w64_id, cast_succ])
          refine SW.condF rfl ?_
          repeat (first | (with_reducible first | refine SW.seq ?_ | refine SW.block ?_ | refine SW.rowC ?_ | refine SW.skip ?_ | refine SW.exit ?_ | refine PFn.use (sizeS_fn _) ?_ | refine PFn.useq (sizeS_fn _) ?_ | refine PFn.use (ha) ?_ | refine PFn.useq (ha) ?_ | intro _ | refine And.intro (by omega) ?_) | simp (config := { maxSteps := 1000000 }) (disch := (first | omega | (simp only [go_sem]; try omega))) only [go_sem, Nat.reduceAdd, Nat.reduceEqDiff, Nat.reduceLeDiff, Nat.reduceMul, Nat.reduceLT, reduceIte, Int.reduceToNat, w64_id, cast_succ])
          refine SW.condF rfl ?_
          repeat (first | (with_reducible first | refine SW.seq ?_ | refine SW.block ?_ | refine SW.rowC ?_ | refine SW.skip ?_ | refine SW.exit ?_ | refine PFn.use (hcb) ?_ | refine PFn.useq (hcb) ?_ | refine PFn.use (ContainsB_fn _ _) ?_ | refine PFn.useq (ContainsB_fn _ _) ?_ | intro _ | refine And.intro (by omega) ?_) | simp (config := { maxSteps := 1000000 }) (disch := (first | omega | (simp only [go_sem]; try omega))) only [go_sem, Nat.reduceAdd, Nat.reduceEqDiff, Nat.reduceLeDiff, Nat.reduceMul, Nat.reduceLT, reduceIte, Int.reduceToNat, w64_id, cast_succ, hct])
          refine SW.condF rfl ?_
          repeat (first | (with_reducible first | refine SW.seq ?_ | refine SW.block ?_ | refine SW.rowC ?_ | refine SW.skip ?_ | refine SW.exit ?_ | intro _ | refine And.intro (by omega) ?_) | simp (config := { maxSteps := 1000000 }) (disch := (first | omega | (simp only [go_sem]; try omega))) only [go_sem, Nat.reduceAdd, Nat.reduceEqDiff, Nat.reduceLeDiff, Nat.reduceMul, Nat.reduceLT, reduceIte, Int.reduceToNat, w64_id, cast_succ])
          rw [← numbersL_zero n D]
          refine SW.loopE (fun E0 H0 q E' H' => ∃ i : Nat, i ≤ n ∧ q = n - i ∧ E' = aput E0 48 (I i) ∧ H' = H ++ [⟨0, tyCov, 1, [I n, ilSS xss]⟩, ⟨0, tyCov, 1, [I 0, nilS]⟩, ⟨0, 61, 1, [ilB (marks n D)]⟩, ⟨0, 2, 1, (numbersL n D i).map I⟩, ⟨0, tyCov, 1, [I (cntL D i), nilS]⟩]) n ⟨0, by omega, by omega, rfl, rfl⟩ ?_
          rintro q E' H' ⟨i, hi, rfl, rfl, rfl⟩
          have hcl1 : cntL D i ≤ i := leftL_len i D
          have hcs := cntL_succ D i
          have hnl := numbersL_length n D i
          have htk : ((numbersL n D i).map I).take n = (numbersL n D i).map I := List.take_of_length_le (by simp [hnl])
          simp (config := { maxSteps := 1000000 }) (disch := (first | omega | (simp only [go_sem]; try omega))) only [go_sem, Nat.reduceAdd, Nat.reduceEqDiff, Nat.reduceLeDiff, Nat.reduceMul, Nat.reduceLT, reduceIte, Int.reduceToNat, w64_id, cast_succ]
          repeat (first | (with_reducible first | refine SW.seq ?_ | refine SW.block ?_ | refine SW.rowC ?_ | refine SW.skip ?_ | refine SW.exit ?_ | intro _ | refine And.intro (by omega) ?_) | simp (config := { maxSteps := 1000000 }) (disch := (first | omega | (simp only [go_sem]; try omega))) only [go_sem, Nat.reduceAdd, Nat.reduceEqDiff, Nat.reduceLeDiff, Nat.reduceMul, Nat.reduceLT, reduceIte, Int.reduceToNat, w64_id, cast_succ])
          (first | refine SW.condD rfl (fun h3 => ?_) (fun h3 => ?_) | refine SW.condN rfl (fun h3 => ?_) (fun h3 => ?_) | refine SW.condNB rfl (fun h3 => ?_) (fun h3 => ?_) | refine SW.condB rfl (fun h3 => ?_) (fun h3 => ?_))
          · have hmg : (marks n D).getD i false = D.contains (i : Int) := by have := marks_get n D i (by omega) (by omega); simpa using this
            have hml2 := marks_length n D
            cases hc9 : D.contains (i : Int)
            · rw [hc9] at hcs hmg
              repeat (first | (with_reducible first | refine SW.seq ?_ | refine SW.block ?_ | refine SW.rowC ?_ | refine SW.skip ?_ | refine SW.exit ?_ | intro _ | refine And.intro (by omega) ?_) | simp (config := { maxSteps := 1000000 }) (disch := (first | omega | (simp only [go_sem]; try omega))) only [go_sem, Nat.reduceAdd, Nat.reduceEqDiff, Nat.reduceLeDiff, Nat.reduceMul, Nat.reduceLT, reduceIte, Int.reduceToNat, w64_id, cast_succ, hmg, htk])
              refine SW.condT rfl ?_
              repeat (first | (with_reducible first | refine SW.seq ?_ | refine SW.block ?_ | refine SW.rowC ?_ | refine SW.skip ?_ | refine SW.exit ?_ | intro _ | refine And.intro (by omega) ?_) | simp (config := { maxSteps := 1000000 }) (disch := (first | omega | (simp only [go_sem]; try omega))) only [go_sem, Nat.reduceAdd, Nat.reduceEqDiff, Nat.reduceLeDiff, Nat.reduceMul, Nat.reduceLT, reduceIte, Int.reduceToNat, w64_id, cast_succ, htk])
              refine SLoop.next (n - (i + 1)) (by omega) ⟨i + 1, by omega, rfl, ?_, ?_⟩
              · simp [go_sem]
              · rw [← numbersL_put hc9, hcs]; simp
            · rw [hc9] at hcs hmg
              repeat (first | (with_reducible first | refine SW.seq ?_ | refine SW.block ?_ | refine SW.rowC ?_ | refine SW.skip ?_ | refine SW.exit ?_ | intro _ | refine And.intro (by omega) ?_) | simp (config := { maxSteps := 1000000 }) (disch := (first | omega | (simp only [go_sem]; try omega))) only [go_sem, Nat.reduceAdd, Nat.reduceEqDiff, Nat.reduceLeDiff, Nat.reduceMul, Nat.reduceLT, reduceIte, Int.reduceToNat, w64_id, cast_succ, hmg, htk])
              refine SW.condF rfl ?_
              repeat (first | (with_reducible first | refine SW.seq ?_ | refine SW.block ?_ | refine SW.rowC ?_ | refine SW.skip ?_ | refine SW.exit ?_ | intro _ | refine And.intro (by omega) ?_) | simp (config := { maxSteps := 1000000 }) (disch := (first | omega | (simp only [go_sem]; try omega))) only [go_sem, Nat.reduceAdd, Nat.reduceEqDiff, Nat.reduceLeDiff, Nat.reduceMul, Nat.reduceLT, reduceIte, Int.reduceToNat, w64_id, cast_succ])
              refine SLoop.next (n - (i + 1)) (by omega) ⟨i + 1, by omega, rfl, ?_, ?_⟩
              · simp [go_sem]
              · rw [numbersL_skip hc9, hcs]; simp
          · have : i = n := by omega
            subst this
            clear h3 hcs
            repeat (first | (with_reducible first | refine SW.seq ?_ | refine SW.block ?_ | refine SW.rowC ?_ | refine SW.skip ?_ | refine SW.exit ?_ | intro _ | refine And.intro (by omega) ?_) | simp (config := { maxSteps := 1000000 }) (disch := (first | omega | (simp only [go_sem]; try omega))) only [go_sem, Nat.reduceAdd, Nat.reduceEqDiff, Nat.reduceLeDiff, Nat.reduceMul, Nat.reduceLT, reduceIte, Int.reduceToNat, w64_id, cast_succ])
            refine SW.ghost (Gh.name 12 2 1 rfl) ?_
            simp (config := { maxSteps := 1000000 }) (disch := (first | omega | (simp only [go_sem]; try omega))) only [go_sem, Nat.reduceAdd, Nat.reduceEqDiff, Nat.reduceLeDiff, Nat.reduceMul, Nat.reduceLT, reduceIte, Int.reduceToNat, w64_id, cast_succ]
            refine SW.loopE (fun E0 H0 q E' H1 => ∃ (p1 p2 : List (List Int)) (kv : Nat) (v : AV), xss = p1 ++ p2 ∧ q = p2.length ∧ E' = aput (aput E0 69 (I p1.length)) 12 (.nm (H.length + 5) kv 0 (keptI p1 D).length) ∧
              H1[H.length + 1]? = some ⟨0, tyCov, 1, [I 0, nilS]⟩ ∧ H1[H.length + 2]? = some ⟨0, 61, 1, [ilB (marks i D)]⟩ ∧ H1[H.length + 3]? = some ⟨0, 2, 1, (numbersL i D i).map I⟩ ∧ H1[H.length + 4]? = some ⟨0, tyCov, 1, [I (cntL D i), v]⟩ ∧ H1[H.length + 5]? = some ⟨kv, 2, 1, (keptI p1 D).map I⟩ ∧
              GrowSS H1 (H.length + 6) tySS v (optsI p1 D) ∧ H.length + 6 ≤ H1.length ∧ ∀ j, j < H.length → H1[j]? = H[j]?) xss.length ⟨[], xss, 0, nilS, rfl, rfl, rfl, by simp, by simp, by simp, by simp, by simp [keptI], .inl ⟨rfl, rfl⟩, by simp, fun j hj => by rw [List.getElem?_append_left hj]⟩ ?_
            rintro q E' H1 ⟨p1, p2, kv, v, hp1, rfl, rfl, m1, m2, m3, m4, m5, m6, m7, m8⟩
            have hkl := keptI_len p1 D
            have hol := optsI_len p1 D
            have hks := fun x => keptI_snoc p1 x D
            have hos := fun x => optsI_snoc p1 x D
            have hpl1 : p1.length ≤ 256 := by have := hf.2.2.1; rw [hp1] at this; simp at this; omega
            generalize hK : keptI p1 D = K at *
            generalize hO : optsI p1 D = O at *
            simp (config := { maxSteps := 1000000 }) (disch := (first | omega | (simp only [go_sem]; try omega))) only [go_sem, Nat.reduceAdd, Nat.reduceEqDiff, Nat.reduceLeDiff, Nat.reduceMul, Nat.reduceLT, reduceIte, Int.reduceToNat, w64_id, cast_succ]
            repeat (first | (with_reducible first | refine SW.seq ?_ | refine SW.block ?_ | refine SW.rowC ?_ | refine SW.skip ?_ | refine SW.exit ?_ | intro _ | refine And.intro (by omega) ?_) | simp (config := { maxSteps := 1000000 }) (disch := (first | omega | (simp only [go_sem]; try omega))) only [go_sem, Nat.reduceAdd, Nat.reduceEqDiff, Nat.reduceLeDiff, Nat.reduceMul, Nat.reduceLT, reduceIte, Int.reduceToNat, w64_id, cast_succ])
            (first | refine SW.condD rfl (fun h6 => ?_) (fun h6 => ?_) | refine SW.condN rfl (fun h6 => ?_) (fun h6 => ?_) | refine SW.condNB rfl (fun h6 => ?_) (fun h6 => ?_) | refine SW.condB rfl (fun h6 => ?_) (fun h6 => ?_))
            · obtain ⟨x, p2, rfl, hg, -⟩ := consOf (d := []) hp1 (by omega)
              have hxx := hxm x (by rw [hp1]; simp)
              have hcc : callable Try.prog f_impl_RestCover_c1 = true := by kernel_rfl
              repeat (first | (with_reducible first | refine SW.seq ?_ | refine SW.block ?_ | refine SW.rowC ?_ | refine SW.skip ?_ | refine SW.exit ?_ | intro _ | refine And.intro (by omega) ?_) | simp (config := { maxSteps := 1000000 }) (disch := (first | omega | (simp only [go_sem]; try omega))) only [go_sem, Nat.reduceAdd, Nat.reduceEqDiff, Nat.reduceLeDiff, Nat.reduceMul, Nat.reduceLT, reduceIte, Int.reduceToNat, w64_id, cast_succ, hg, hcc])
              refine (conS_ok I _ _ x rfl _ _ hcc (fun y => D.contains y) (fun y hy => RestCover_c1_ok _ (H.length + 2) i D y (hxx.1 y hy).1 (hxx.1 y hy).2 m2)).mono ?_
              rintro r H2 ⟨rfl, rfl⟩
              repeat (first | (with_reducible first | refine SW.seq ?_ | refine SW.block ?_ | refine SW.rowC ?_ | refine SW.skip ?_ | refine SW.exit ?_ | intro _ | refine And.intro (by omega) ?_) | simp (config := { maxSteps := 1000000 }) (disch := (first | omega | (simp only [go_sem]; try omega))) only [go_sem, Nat.reduceAdd, Nat.reduceEqDiff, Nat.reduceLeDiff, Nat.reduceMul, Nat.reduceLT, reduceIte, Int.reduceToNat, w64_id, cast_succ])
              cases hm : (x.any fun y => D.contains y)
              · have hk1 := hks x
                have ho1 := hos x
                rw [if_neg (fun h => by rw [hm] at h; cases h)] at hk1 ho1
                refine SW.condF rfl ?_
                repeat (first | (with_reducible first | refine SW.seq ?_ | refine SW.block ?_ | refine SW.rowC ?_ | refine SW.skip ?_ | refine SW.exit ?_ | intro _ | refine And.intro (by omega) ?_) | simp (config := { maxSteps := 1000000 }) (disch := (first | omega | (simp only [go_sem]; try omega))) only [go_sem, Nat.reduceAdd, Nat.reduceEqDiff, Nat.reduceLeDiff, Nat.reduceMul, Nat.reduceLT, reduceIte, Int.reduceToNat, w64_id, cast_succ, hg])
                refine SW.hb (fun hB1 => ?_)
                refine SW.ghost (Gh.name 15 2 1 rfl) ?_
                simp (config := { maxSteps := 1000000 }) (disch := (first | omega | (simp only [go_sem]; try omega))) only [go_sem, Nat.reduceAdd, Nat.reduceEqDiff, Nat.reduceLeDiff, Nat.reduceMul, Nat.reduceLT, reduceIte, Int.reduceToNat, w64_id, cast_succ]
                refine SW.loopE (fun E0 H0 q E' H' => ∃ (pr po : List Int) (ver : Nat), x = pr ++ po ∧ q = po.length ∧ E' = aput (aput E0 79 (I pr.length)) 15 (.nm H2.length ver 0 (pr.map (fresh D)).length) ∧ H' = H2 ++ [⟨ver, 2, 1, (pr.map (fresh D)).map I⟩]) x.length ⟨[], x, 0, rfl, rfl, rfl, rfl⟩ ?_
                rintro q E' H' ⟨pr, po, ver, hpx, rfl, rfl, rfl⟩
                have hprl : pr.length ≤ 64 := by have := hxx.2; rw [hpx] at this; simp at this; omega
                have m3' : ∀ l, (H2 ++ l)[H.length + 3]? = some ⟨0, 2, 1, (numbersL i D i).map I⟩ := fun l => by rw [List.getElem?_append_left (by omega)]; exact m3
                have hnl := numbersL_length i D i
                have htk : ((numbersL i D i).map I).take i = (numbersL i D i).map I := List.take_of_length_le (by simp [hnl])
                simp (config := { maxSteps := 1000000 }) (disch := (first | omega | (simp only [go_sem]; try omega))) only [go_sem, Nat.reduceAdd, Nat.reduceEqDiff, Nat.reduceLeDiff, Nat.reduceMul, Nat.reduceLT, reduceIte, Int.reduceToNat, w64_id, cast_succ]
                repeat (first | (with_reducible first | refine SW.seq ?_ | refine SW.block ?_ | refine SW.rowC ?_ | refine SW.skip ?_ | refine SW.exit ?_ | intro _ | refine And.intro (by omega) ?_) | simp (config := { maxSteps := 1000000 }) (disch := (first | omega | (simp only [go_sem]; try omega))) only [go_sem, Nat.reduceAdd, Nat.reduceEqDiff, Nat.reduceLeDiff, Nat.reduceMul, Nat.reduceLT, reduceIte, Int.reduceToNat, w64_id, cast_succ])
                (first | refine SW.condD rfl (fun h7 => ?_) (fun h7 => ?_) | refine SW.condN rfl (fun h7 => ?_) (fun h7 => ?_) | refine SW.condNB rfl (fun h7 => ?_) (fun h7 => ?_) | refine SW.condB rfl (fun h7 => ?_) (fun h7 => ?_))
                · obtain ⟨y, po, rfl, hgy, -⟩ := consOf (d := 0) hpx (by omega)
                  have hy := hxx.1 y (by rw [hpx]; simp)
                  have hnc : D.contains y = false := by
                    rw [List.any_eq_false] at hm
                    have := hm y (by rw [hpx]; simp)
                    simpa using this
                  have hng := numbersL_get hy.1 hy.2 hnc
                  have hav : ∀ l, aview (H2 ++ l) (.nm (H.length + 3) 0 0 i) = some (i, (numbersL i D i).map I) := fun l => by
                    have := view_nm (n := i) (m3' l) (by simp [hnl])
                    exact this
                  have htl : (List.map I (List.map (fresh D) pr)).take pr.length = List.map I (List.map (fresh D) pr) := List.take_of_length_le (by simp)
                  repeat (first | (with_reducible first | refine SW.seq ?_ | refine SW.block ?_ | refine SW.rowC ?_ | refine SW.skip ?_ | refine SW.exit ?_ | intro _ | refine And.intro (by omega) ?_) | simp (config := { maxSteps := 1000000 }) (disch := (first | omega | (simp only [go_sem]; try omega))) only [go_sem, Nat.reduceAdd, Nat.reduceEqDiff, Nat.reduceLeDiff, Nat.reduceMul, Nat.reduceLT, reduceIte, Int.reduceToNat, w64_id, cast_succ, hgy, hav, htk, hng, htl])
                  refine SLoop.nextT 1 po.length hB1 (by omega) (by simp) (by simp) ?_ ?_ ⟨pr ++ [y], po, ver + 1, by simp [hpx], rfl, ?_, ?_⟩
                  · (simp only [go_sem, Nat.reduceAdd, Nat.reduceEqDiff, reduceIte, go_sem, and_self, and_true, true_and, implies_true, List.take_succ_cons, List.take_zero, and_true, true_and]; try omega)
                  · (simp only [go_sem, Nat.reduceAdd, Nat.reduceEqDiff, reduceIte, go_sem, and_self, and_true, true_and, implies_true, List.take_succ_cons, List.take_zero, and_true, true_and]; try omega)
                  · simp [go_sem]
                  · simp [fresh]
                · obtain ⟨rfl, rfl⟩ := nilOf hpx (by omega)
                  have m4' : ∀ l, (H2 ++ l)[H.length + 4]? = some ⟨0, tyCov, 1, [I (cntL D i), v]⟩ := fun l => by rw [List.getElem?_append_left (by omega)]; exact m4
                  have hlp : pr.length = (pr.map (fresh D)).length := by simp
                  have m4a := fun l (o : Nat) => pc_alive (off := o) (m4' l)
                  have m4l := fun l (o : Nat) => pc_ld (off := o) (m4' l)
                  repeat (first | (with_reducible first | refine SW.seq ?_ | refine SW.block ?_ | refine SW.rowC ?_ | refine SW.skip ?_ | refine SW.exit ?_ | intro _ | refine And.intro (by omega) ?_) | simp (config := { maxSteps := 1000000 }) (disch := (first | omega | (simp only [go_sem]; try omega))) only [go_sem, Nat.reduceAdd, Nat.reduceEqDiff, Nat.reduceLeDiff, Nat.reduceMul, Nat.reduceLT, reduceIte, Int.reduceToNat, w64_id, cast_succ, m4a, m4l])
                  refine GrowSS.appG (H1 := H2) (r := H2.length) (rv := ver) (rty := 2) (xs := pr.map (fresh D)) hlp m6 m7 (Nat.le_refl _) (by omega) (fun j b _ hb => by rw [List.getElem?_append_left (List.getElem?_eq_some_iff.1 hb).1]; exact hb) (by rw [hget0]; rfl) ?_
                  intro v3 H3 d1 d2 d3
                  have d4 : H2.length ≤ H3.length := by simp at d2; omega
                  have d5 : ∀ j, j < H.length + 6 → H3[j]? = H2[j]? := fun j hj => by rw [d3 j hj, List.getElem?_append_left (by omega)]
                  have e1 : H3[H.length + 4]? = some ⟨0, tyCov, 1, [I (cntL D i), v]⟩ := by rw [d5 _ (by omega)]; exact m4
                  repeat (first | (with_reducible first | refine SW.seq ?_ | refine SW.block ?_ | refine SW.rowC ?_ | refine SW.skip ?_ | refine SW.exit ?_ | intro _ | refine And.intro (by omega) ?_) | simp (config := { maxSteps := 1000000 }) (disch := (first | omega | (simp only [go_sem]; try omega))) only [go_sem, Nat.reduceAdd, Nat.reduceEqDiff, Nat.reduceLeDiff, Nat.reduceMul, Nat.reduceLT, reduceIte, Int.reduceToNat, w64_id, cast_succ, pc_alive e1, pc_ld e1, d1.parts, d1.cell1])
                  rw [pc_st e1 (by simp)]
                  have e5 : ∀ (z b : Blk), (H3.set (H.length + 4) z ++ [b])[H.length + 5]? = some ⟨kv, 2, 1, K.map I⟩ := fun z b => by
                    rw [List.getElem?_append_left (by simp; omega), List.getElem?_set_ne (by omega), d5 _ (by omega)]; exact m5
                  have e6 : ∀ z : Blk, aview (H3.set (H.length + 4) z ++ [⟨0, 2, 1, [I p1.length]⟩]) (.nm H3.length 0 0 1) = some (1, [I p1.length]) := fun z => view_nm (n := 1) (ver := 0) (ty := 2) (cells := [I p1.length]) (by rw [List.getElem?_append_right (by simp)]; simp) rfl
                  repeat (first | (with_reducible first | refine SW.seq ?_ | refine SW.block ?_ | refine SW.rowC ?_ | refine SW.skip ?_ | refine SW.exit ?_ | intro _ | refine And.intro (by omega) ?_) | simp (config := { maxSteps := 1000000 }) (disch := (first | omega | (simp only [go_sem]; try omega))) only [go_sem, Nat.reduceAdd, Nat.reduceEqDiff, Nat.reduceLeDiff, Nat.reduceMul, Nat.reduceLT, reduceIte, Int.reduceToNat, w64_id, cast_succ, e5, e6])
                  obtain ⟨s1, s2, s3, s4⟩ := set2_facts (H3 := H3) (p := H.length + 4) (q := H.length + 5) (z := ⟨0, tyCov, 1, [I (cntL D i), v3]⟩) (y := ⟨kv + 1, 2, 1, (K ++ [(p1.length : Int)]).map I⟩) (b := ⟨0, 2, 1, [I p1.length]⟩) (by omega) (by omega) (by omega)
                  refine SLoop.next p2.length (by simp) ⟨p1 ++ [pr], p2, kv + 1, v3, by simp [hp1], rfl, ?_, ?_, ?_, ?_, s2, ?_, ?_, ?_, ?_⟩
                  · rw [hk1]; simp [go_sem]
                  · rw [s4 _ (by omega) (by omega) (by omega), d5 _ (by omega)]; exact m1
                  · rw [s4 _ (by omega) (by omega) (by omega), d5 _ (by omega)]; exact m2
                  · rw [s4 _ (by omega) (by omega) (by omega), d5 _ (by omega)]; exact m3
                  · rw [s3, hk1]
                  · rw [ho1]
                    refine d1.same (fun j b g1 g2 => ?_)
                    rw [s4 _ (by omega) (by omega) (List.getElem?_eq_some_iff.1 g2).1]; exact g2
                  · rw [s1]; omega
                  · intro j hj
                    rw [s4 _ (by omega) (by omega) (by omega), d5 _ (by omega)]; exact m8 j hj
              · have hk1 := hks x
                have ho1 := hos x
                rw [if_pos hm, List.append_nil] at hk1 ho1
                refine SW.condT rfl ?_
                repeat (first | (with_reducible first | refine SW.seq ?_ | refine SW.block ?_ | refine SW.rowC ?_ | refine SW.skip ?_ | refine SW.exit ?_ | intro _ | refine And.intro (by omega) ?_) | simp (config := { maxSteps := 1000000 }) (disch := (first | omega | (simp only [go_sem]; try omega))) only [go_sem, Nat.reduceAdd, Nat.reduceEqDiff, Nat.reduceLeDiff, Nat.reduceMul, Nat.reduceLT, reduceIte, Int.reduceToNat, w64_id, cast_succ])
                refine SLoop.next p2.length (by simp) ⟨p1 ++ [x], p2, kv, v, by simp [hp1], rfl, ?_, m1, m2, m3, m4, by rw [hk1]; exact m5, by rw [ho1]; exact m6, m7, m8⟩
                rw [hk1]; simp [go_sem]
            · obtain ⟨rfl, rfl⟩ := nilOf hp1 (by omega)
              subst hK; subst hO
              have m4l : acells H1 2 (.pc (H.length + 4) 0 0) = some [I (cntL D i), v] := pc_lds m4 (by simp)
              repeat (first | (with_reducible first | refine SW.seq ?_ | refine SW.block ?_ | refine SW.rowC ?_ | refine SW.skip ?_ | refine SW.exit ?_ | intro _ | refine And.intro (by omega) ?_) | simp (config := { maxSteps := 1000000 }) (disch := (first | omega | (simp only [go_sem]; try omega))) only [go_sem, Nat.reduceAdd, Nat.reduceEqDiff, Nat.reduceLeDiff, Nat.reduceMul, Nat.reduceLT, reduceIte, Int.reduceToNat, w64_id, cast_succ, pc_alive m4, m4l, m6.cell1])
              rw [pc_st m1 (by simp)]
              repeat (first | (with_reducible first | refine SW.seq ?_ | refine SW.block ?_ | refine SW.rowC ?_ | refine SW.skip ?_ | refine SW.exit ?_ | intro _ | refine And.intro (by omega) ?_) | simp (config := { maxSteps := 1000000 }) (disch := (first | omega | (simp only [go_sem]; try omega))) only [go_sem, Nat.reduceAdd, Nat.reduceEqDiff, Nat.reduceLeDiff, Nat.reduceMul, Nat.reduceLT, reduceIte, Int.reduceToNat, w64_id, cast_succ])
              refine SW.ret ?_
              refine FunPost.cell3 (cs := [I (cntL D i), v]) ?_ (GR.of ?_)
              · simp (config := { maxSteps := 1000000 }) (disch := (first | omega | (simp only [go_sem]; try omega))) only [go_sem, Nat.reduceAdd, Nat.reduceEqDiff, Nat.reduceLeDiff, Nat.reduceMul, Nat.reduceLT, reduceIte, Int.reduceToNat, w64_id, cast_succ]
                rw [pc_lds (List.getElem?_set_self (List.getElem?_eq_some_iff.1 m1).1) (by simp)]
                rfl
              · exact implRest_end H i p1 D m1 m4 m5 m6 m7 m8
      · rw [if_neg hnd] at hcb
        rw [if_pos (.inl hnd)]
        refine ACalls.introB s_impl_RestCover (by simp) ?_; intro hB hA; unfold c_impl_RestCover; simp (config := { maxSteps := 1000000 }) (disch := (first | omega | (simp only [go_sem]; try omega))) only [go_sem, Nat.reduceAdd, Nat.reduceEqDiff, Nat.reduceLeDiff, Nat.reduceMul, Nat.reduceLT, reduceIte, Int.reduceToNat, w64_id, cast_succ]
        repeat (first | (with_reducible first | refine SW.seq ?_ | refine SW.block ?_ | refine SW.rowC ?_ | refine SW.skip ?_ | refine SW.exit ?_ | refine PFn.use (hv) ?_ | refine PFn.useq (hv) ?_ | intro _ | refine And.intro (by omega) ?_) | simp (config := { maxSteps := 1000000 }) (disch := (first | omega | (simp only [go_sem]; try omega))) only [go_sem, Nat.reduceAdd, Nat.reduceEqDiff, Nat.reduceLeDiff, Nat.reduceMul, Nat.reduceLT, reduceIte, Int.reduceToNat, w64_id, cast_succ])
        refine SW.condF rfl ?_
        repeat (first | (with_reducible first | refine SW.seq ?_ | refine SW.block ?_ | refine SW.rowC ?_ | refine SW.skip ?_ | refine SW.exit ?_ | refine PFn.use (sizeS_fn _) ?_ | refine PFn.useq (sizeS_fn _) ?_ | refine PFn.use (ha) ?_ | refine PFn.useq (ha) ?_ | intro _ | refine And.intro (by omega) ?_) | simp (config := { maxSteps := 1000000 }) (disch := (first | omega | (simp only [go_sem]; try omega))) only [go_sem, Nat.reduceAdd, Nat.reduceEqDiff, Nat.reduceLeDiff, Nat.reduceMul, Nat.reduceLT, reduceIte, Int.reduceToNat, w64_id, cast_succ])
        refine SW.condF rfl ?_
        repeat (first | (with_reducible first | refine SW.seq ?_ | refine SW.block ?_ | refine SW.rowC ?_ | refine SW.skip ?_ | refine SW.exit ?_ | refine PFn.use (hcb) ?_ | refine PFn.useq (hcb) ?_ | refine PFn.use (ContainsB_fn _ _) ?_ | refine PFn.useq (ContainsB_fn _ _) ?_ | intro _ | refine And.intro (by omega) ?_) | simp (config := { maxSteps := 1000000 }) (disch := (first | omega | (simp only [go_sem]; try omega))) only [go_sem, Nat.reduceAdd, Nat.reduceEqDiff, Nat.reduceLeDiff, Nat.reduceMul, Nat.reduceLT, reduceIte, Int.reduceToNat, w64_id, cast_succ])
        refine SW.condT rfl ?_
        repeat (first | (with_reducible first | refine SW.seq ?_ | refine SW.block ?_ | refine SW.rowC ?_ | refine SW.skip ?_ | refine SW.exit ?_ | intro _ | refine And.intro (by omega) ?_) | simp (config := { maxSteps := 1000000 }) (disch := (first | omega | (simp only [go_sem]; try omega))) only [go_sem, Nat.reduceAdd, Nat.reduceEqDiff, Nat.reduceLeDiff, Nat.reduceMul, Nat.reduceLT, reduceIte, Int.reduceToNat, w64_id, cast_succ])
        refine SW.ret ?_
        refine FunPost.cell3 (cs := [I 0, nilS]) (by simp (config := { maxSteps := 1000000 }) (disch := (first | omega | (simp only [go_sem]; try omega))) only [go_sem, Nat.reduceAdd, Nat.reduceEqDiff, Nat.reduceLeDiff, Nat.reduceMul, Nat.reduceLT, reduceIte, Int.reduceToNat, w64_id, cast_succ]) ?_
        refine GR.of nilRc
  · rw [Bool.not_eq_true] at hcv
    rw [hcv] at hv
    unfold rcV
    rw [hcv]
    refine ACalls.introB s_impl_RestCover (by simp) ?_; intro hB hA; unfold c_impl_RestCover; simp (config := { maxSteps := 1000000 }) (disch := (first | omega | (simp only [go_sem]; try omega))) only [go_sem, Nat.reduceAdd, Nat.reduceEqDiff, Nat.reduceLeDiff, Nat.reduceMul, Nat.reduceLT, reduceIte, Int.reduceToNat, w64_id, cast_succ]
    repeat (first | (with_reducible first | refine SW.seq ?_ | refine SW.block ?_ | refine SW.rowC ?_ | refine SW.skip ?_ | refine SW.exit ?_ | refine PFn.use (hv) ?_ | refine PFn.useq (hv) ?_ | intro _ | refine And.intro (by omega) ?_) | simp (config := { maxSteps := 1000000 }) (disch := (first | omega | (simp only [go_sem]; try omega))) only [go_sem, Nat.reduceAdd, Nat.reduceEqDiff, Nat.reduceLeDiff, Nat.reduceMul, Nat.reduceLT, reduceIte, Int.reduceToNat, w64_id, cast_succ])
    refine SW.condT rfl ?_
    repeat (first | (with_reducible first | refine SW.seq ?_ | refine SW.block ?_ | refine SW.rowC ?_ | refine SW.skip ?_ | refine SW.exit ?_ | intro _ | refine And.intro (by omega) ?_) | simp (config := { maxSteps := 1000000 }) (disch := (first | omega | (simp only [go_sem]; try omega))) only [go_sem, Nat.reduceAdd, Nat.reduceEqDiff, Nat.reduceLeDiff, Nat.reduceMul, Nat.reduceLT, reduceIte, Int.reduceToNat, w64_id, cast_succ])
    refine SW.ret ?_
    refine FunPost.cell3 (cs := [I 0, nilS]) (by simp (config := { maxSteps := 1000000 }) (disch := (first | omega | (simp only [go_sem]; try omega))) only [go_sem, Nat.reduceAdd, Nat.reduceEqDiff, Nat.reduceLeDiff, Nat.reduceMul, Nat.reduceLT, reduceIte, Int.reduceToNat, w64_id, cast_succ]) ?_
    refine GR.of nilRc
end Go.Proofs.Ytnlfokkljgbaaaa
