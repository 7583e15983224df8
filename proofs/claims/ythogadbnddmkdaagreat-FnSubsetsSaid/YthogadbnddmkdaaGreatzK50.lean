/- Affine maps as groups: both ways. -/
import Derived.Test.YthogadbnddmkdaaGreatzOW
import Derived.Test.YthogadbnddmkdaaGreatzS5
import Derived.Test.YthogadbnddmkdaaGreatzG1
import Derived.Test.YthogadbnddmkdaaGreatzU1
import Derived.Test.YthogadbnddmkdaaGreatzAv17
import Derived.Test.YthogadbnddmkdaaGreatzK2
import Derived.Test.YthogadbnddmkdaaGreatProg
import Derived.KernelRfl
import Derived.Test.YthogadbnddmkdaaGreatzL1
set_option linter.unusedSimpArgs false
set_option linter.unusedVariables false
set_option maxHeartbeats 4000000
set_option maxRecDepth 100000
namespace Go.Proofs.YthogadbnddmkdaaGreat
open Go.Av
abbrev tyG : Nat := 44
def affRow (n a b : Nat) (x : Nat) : List Int := (List.range x).map fun (i : Nat) => (((a * i + b) % n : Nat) : Int)
def affS (n a b : Nat) : List (List Int) := (List.range b).map fun (b : Nat) => affRow n a b n
def affAll (n : Nat) (fs : List Nat) : List (List Int) := fs.flatMap fun a => affS n a n
theorem affRow_succ (n a b x : Nat) : affRow n a b (x + 1) = affRow n a b x ++ [(((a * x + b) % n : Nat) : Int)] := by simp [affRow, List.range_succ]
theorem affRow_len (n a b x : Nat) : (affRow n a b x).length = x := by simp [affRow]
theorem affS_succ (n a b : Nat) : affS n a (b + 1) = affS n a b ++ [affRow n a b n] := by simp [affS, List.range_succ]
theorem affS_len (n a b : Nat) : (affS n a b).length = b := by simp [affS]
theorem affAll_snoc (n : Nat) (fs : List Nat) (a : Nat) : affAll n (fs ++ [a]) = affAll n fs ++ affS n a n := by simp [affAll]
theorem affAll_len (n : Nat) (fs : List Nat) : (affAll n fs).length = fs.length * n := by
  induction fs with
  | nil => simp [affAll]
  | cons a fs ih => simp only [affAll, List.flatMap_cons, List.length_append, List.length_cons, Nat.succ_mul] at ih ⊢; rw [ih, affS_len]; omega
def nats (fs : List Nat) : List Int := fs.map fun (a : Nat) => (a : Int)
theorem nats_len (fs : List Nat) : (nats fs).length = fs.length := by simp [nats]
def BxT (ty : Nat) (Hb : List Blk) (p : Nat) (hd : AV) (xss : List (List Int)) (H' : List Blk) : Prop :=
  ∃ v, H'[p]? = some ⟨0, ty, 1, [hd, v]⟩ ∧ GrowSS H' (p + 1) tyLL v xss ∧ p + 1 ≤ H'.length ∧ ∀ j, j < p → H'[j]? = Hb[j]?
theorem BxT.put {ty : Nat} {Hb H3 : List Blk} {p : Nat} {hd v3 : AV} {xss : List (List Int)} (d1 : GrowSS H3 (p + 1) tyLL v3 xss) (d2 : p + 1 ≤ H3.length) (d3 : ∀ j, j < p → H3[j]? = Hb[j]?) : BxT ty Hb p hd xss (H3.set p ⟨0, ty, 1, [hd, v3]⟩) := by
  refine ⟨v3, List.getElem?_set_self (by omega), d1.same (fun j b h1 h2 => ?_), by simpa using d2, fun j hj => ?_⟩
  · rw [List.getElem?_set_ne (by omega)]; exact h2
  · rw [List.getElem?_set_ne (by omega)]; exact d3 j hj
theorem get_appB1 {H : List Blk} {p : Nat} {b : Blk} (h : H[p]? = some b) (ext : List Blk) : (H ++ ext)[p]? = some b := by
  rw [List.getElem?_append_left (List.getElem?_eq_some_iff.1 h).1]; exact h
end Go.Proofs.YthogadbnddmkdaaGreat
namespace Go.Proofs.YthogadbnddmkdaaGreat
open Go.Av
abbrev f_spec_l21PutList : Nat := 50
def c_spec_l21PutList : SC :=
 .seq (.reg [
     ⟨(some 4), .mv (.const (.slice none 0 0)), none⟩] [0, 1])
 (.seq (.reg [
     ⟨(some 9), .bslice 50 1 0 [] [], none⟩,
     ⟨(some 5), .mv (.tmp 9), none⟩] [0, 1, 5])
 (.seq (.reg [
     ⟨(some 6), .mv (.const (.bool false)), none⟩] [0, 1, 5, 6])
 (.seq (.seq (.reg [
     ⟨(some 7), .mv (.const (.int .i64 0)), none⟩] [0, 1, 5, 6, 7])
 (.block 0 (.loop [0, 1, 5, 6, 7]
   (.seq (.seq (.reg [
       ⟨(some 10), .mv (.tmp 7), none⟩,
       ⟨(some 11), .mv (.tmp 0), none⟩,
       ⟨(some 12), .len (.tmp 11), none⟩,
       ⟨(some 13), .bin .lss (.tmp 10) (.tmp 12), none⟩] [0, 1, 5, 6, 7, 13])
   (.cond (.tmp 13)
    (.skip)
    (.exit 0)))
   (.seq (.block 1 (.seq (.reg [
        ⟨(some 16), .mv (.tmp 0), none⟩,
        ⟨(some 17), .mv (.tmp 7), none⟩,
        ⟨(some 18), .iaddr 1 (.tmp 16) (.tmp 17), none⟩,
        ⟨(some 19), .load 1 false (.tmp 18), none⟩,
        ⟨(some 20), .mv (.tmp 1), none⟩,
        ⟨(some 21), .call 102 [(.tmp 19), (.tmp 20)], none⟩,
        ⟨(some 8), .mv (.tmp 21), none⟩] [0, 1, 5, 6, 7, 8])
    (.seq (.seq (.reg [
        ⟨(some 22), .mv (.tmp 6), none⟩,
        ⟨(some 23), .un .not (.tmp 22), none⟩,
        ⟨(some 24), .mv (.tmp 23), none⟩,
        ⟨(some 25), .mv (.tmp 8), (some (24, true))⟩,
        ⟨(some 26), .bin .geq (.tmp 25) (.const (.int .i64 0)), (some (24, true))⟩,
        ⟨(some 27), .pick (.tmp 24) (.tmp 26) (.const (.bool false)), none⟩] [0, 1, 5, 6, 7, 8, 27])
    (.cond (.tmp 27)
     (.seq (.reg [
         ⟨(some 6), .mv (.const (.bool true)), none⟩] [0, 1, 5, 6, 7, 8])
     (.seq (.reg [
         ⟨(some 28), .mv (.tmp 8), none⟩,
         ⟨(some 29), .bin .gtr (.tmp 28) (.const (.int .i64 0)), none⟩] [0, 1, 5, 6, 7, 29])
     (.cond (.tmp 29)
      (.reg [
          ⟨(some 30), .mv (.tmp 5), none⟩,
          ⟨(some 31), .mv (.tmp 1), none⟩,
          ⟨(some 32), .bslice 50 1 1 [(.slice none 0 0)] [(0, (.tmp 31))], none⟩,
          ⟨(some 33), .app 50 1 24 (.tmp 30) (.tmp 32), none⟩,
          ⟨(some 5), .mv (.tmp 33), none⟩] [0, 1, 5, 6, 7])
      (.skip))))
     (.skip)))
    (.reg [
        ⟨(some 34), .mv (.tmp 5), none⟩,
        ⟨(some 35), .mv (.tmp 0), none⟩,
        ⟨(some 36), .mv (.tmp 7), none⟩,
        ⟨(some 37), .iaddr 1 (.tmp 35) (.tmp 36), none⟩,
        ⟨(some 38), .load 1 false (.tmp 37), none⟩,
        ⟨(some 39), .bslice 50 1 1 [(.slice none 0 0)] [(0, (.tmp 38))], none⟩,
        ⟨(some 40), .app 50 1 24 (.tmp 34) (.tmp 39), none⟩,
        ⟨(some 5), .mv (.tmp 40), none⟩] [0, 1, 5, 6, 7]))))
   (.reg [
       ⟨(some 14), .mv (.tmp 7), none⟩,
       ⟨(some 15), .bin .add (.tmp 14) (.const (.int .i64 1)), none⟩,
       ⟨(some 7), .mv (.tmp 15), none⟩] [0, 1, 5, 6, 7]))))))
 (.seq (.seq (.reg [
     ⟨(some 41), .mv (.tmp 6), none⟩,
     ⟨(some 42), .un .not (.tmp 41), none⟩] [1, 5, 42])
 (.cond (.tmp 42)
  (.reg [
      ⟨(some 43), .mv (.tmp 5), none⟩,
      ⟨(some 44), .mv (.tmp 1), none⟩,
      ⟨(some 45), .bslice 50 1 1 [(.slice none 0 0)] [(0, (.tmp 44))], none⟩,
      ⟨(some 46), .app 50 1 24 (.tmp 43) (.tmp 45), none⟩,
      ⟨(some 5), .mv (.tmp 46), none⟩] [5])
  (.skip)))
 (.seq (.reg [
     ⟨(some 47), .mv (.tmp 5), none⟩,
     ⟨(some 4), .mv (.tmp 47), none⟩] [4])
 (.ret))))))
theorem s_spec_l21PutList : stripF Tryz.prog 50 [[0, 1], [0, 1, 5], [0, 1, 5, 6], [0, 1, 5, 6, 7], [0, 1, 5, 6, 7], [0, 1, 5, 6, 7, 13], [0, 1, 5, 6, 7, 8], [0, 1, 5, 6, 7, 8, 27], [0, 1, 5, 6, 7, 8], [0, 1, 5, 6, 7, 29], [0, 1, 5, 6, 7], [0, 1, 5, 6, 7], [0, 1, 5, 6, 7], [1, 5, 42], [5], [4]] = some (c_spec_l21PutList, [.tmp 4], 48) := by kernel_rfl
abbrev f_spec_l25Affine : Nat := 105
def c_spec_l25Affine : SC :=
 .seq (.reg [
     ⟨(some 4), .alloc 44 [(.int .i64 0), (.slice none 0 0)], none⟩] [0, 1, 4])
 (.seq (.reg [
     ⟨(some 10), .bslice 50 1 0 [] [], none⟩,
     ⟨(some 5), .mv (.tmp 10), none⟩] [0, 1, 4, 5])
 (.seq (.seq (.reg [
     ⟨(some 6), .mv (.const (.int .i64 0)), none⟩] [0, 1, 4, 5, 6])
 (.block 0 (.loop [0, 1, 4, 5, 6]
   (.seq (.seq (.reg [
       ⟨(some 11), .mv (.tmp 6), none⟩,
       ⟨(some 12), .mv (.tmp 1), none⟩,
       ⟨(some 13), .len (.tmp 12), none⟩,
       ⟨(some 14), .bin .lss (.tmp 11) (.tmp 13), none⟩] [0, 1, 4, 5, 6, 14])
   (.cond (.tmp 14)
    (.skip)
    (.exit 0)))
   (.seq (.block 1 (.seq (.reg [
        ⟨(some 7), .mv (.const (.int .i64 0)), none⟩] [0, 1, 4, 5, 6, 7])
    (.block 2 (.loop [0, 1, 4, 5, 6, 7]
      (.seq (.seq (.reg [
          ⟨(some 17), .mv (.tmp 7), none⟩,
          ⟨(some 18), .mv (.tmp 0), none⟩,
          ⟨(some 19), .bin .lss (.tmp 17) (.tmp 18), none⟩] [0, 1, 4, 5, 6, 7, 19])
      (.cond (.tmp 19)
       (.skip)
       (.exit 2)))
      (.seq (.block 3 (.seq (.reg [
           ⟨(some 22), .bslice 2 1 0 [] [], none⟩,
           ⟨(some 8), .mv (.tmp 22), none⟩] [0, 1, 4, 5, 6, 7, 8])
       (.seq (.seq (.reg [
           ⟨(some 9), .mv (.const (.int .i64 0)), none⟩] [0, 1, 4, 5, 6, 7, 8, 9])
       (.block 4 (.loop [0, 1, 4, 5, 6, 7, 8, 9]
         (.seq (.seq (.reg [
             ⟨(some 23), .mv (.tmp 9), none⟩,
             ⟨(some 24), .mv (.tmp 0), none⟩,
             ⟨(some 25), .bin .lss (.tmp 23) (.tmp 24), none⟩] [0, 1, 4, 5, 6, 7, 8, 9, 25])
         (.cond (.tmp 25)
          (.skip)
          (.exit 4)))
         (.seq (.block 5 (.reg [
              ⟨(some 28), .mv (.tmp 8), none⟩,
              ⟨(some 29), .mv (.tmp 1), none⟩,
              ⟨(some 30), .mv (.tmp 6), none⟩,
              ⟨(some 31), .iaddr 1 (.tmp 29) (.tmp 30), none⟩,
              ⟨(some 32), .load 1 false (.tmp 31), none⟩,
              ⟨(some 33), .mv (.tmp 9), none⟩,
              ⟨(some 34), .bin .mul (.tmp 32) (.tmp 33), none⟩,
              ⟨(some 35), .mv (.tmp 7), none⟩,
              ⟨(some 36), .bin .add (.tmp 34) (.tmp 35), none⟩,
              ⟨(some 37), .mv (.tmp 0), none⟩,
              ⟨(some 38), .bin .rem (.tmp 36) (.tmp 37), none⟩,
              ⟨(some 39), .bslice 2 1 1 [(.int .i64 0)] [(0, (.tmp 38))], none⟩,
              ⟨(some 40), .app 2 1 8 (.tmp 28) (.tmp 39), none⟩,
              ⟨(some 8), .mv (.tmp 40), none⟩] [0, 1, 4, 5, 6, 7, 8, 9]))
         (.reg [
             ⟨(some 26), .mv (.tmp 9), none⟩,
             ⟨(some 27), .bin .add (.tmp 26) (.const (.int .i64 1)), none⟩,
             ⟨(some 9), .mv (.tmp 27), none⟩] [0, 1, 4, 5, 6, 7, 8, 9]))))))
       (.reg [
           ⟨(some 41), .mv (.tmp 5), none⟩,
           ⟨(some 42), .mv (.tmp 8), none⟩,
           ⟨(some 43), .bslice 50 1 1 [(.slice none 0 0)] [(0, (.tmp 42))], none⟩,
           ⟨(some 44), .app 50 1 24 (.tmp 41) (.tmp 43), none⟩,
           ⟨(some 5), .mv (.tmp 44), none⟩] [0, 1, 4, 5, 6, 7]))))
      (.reg [
          ⟨(some 20), .mv (.tmp 7), none⟩,
          ⟨(some 21), .bin .add (.tmp 20) (.const (.int .i64 1)), none⟩,
          ⟨(some 7), .mv (.tmp 21), none⟩] [0, 1, 4, 5, 6, 7])))))))
   (.reg [
       ⟨(some 15), .mv (.tmp 6), none⟩,
       ⟨(some 16), .bin .add (.tmp 15) (.const (.int .i64 1)), none⟩,
       ⟨(some 6), .mv (.tmp 16), none⟩] [0, 1, 4, 5, 6]))))))
 (.seq (.reg [
     ⟨(some 45), .mv (.tmp 0), none⟩,
     ⟨(some 46), .mv (.tmp 5), none⟩,
     ⟨(some 47), .call 136 [(.tmp 45), (.tmp 46)], none⟩,
     ⟨none, .store 2 (.tmp 4) (.tmp 47), none⟩] [4])
 (.ret))))
theorem s_spec_l25Affine : stripF Tryz.prog 105 [[0, 1, 4], [0, 1, 4, 5], [0, 1, 4, 5, 6], [0, 1, 4, 5, 6], [0, 1, 4, 5, 6, 14], [0, 1, 4, 5, 6, 7], [0, 1, 4, 5, 6, 7], [0, 1, 4, 5, 6, 7, 19], [0, 1, 4, 5, 6, 7, 8], [0, 1, 4, 5, 6, 7, 8, 9], [0, 1, 4, 5, 6, 7, 8, 9], [0, 1, 4, 5, 6, 7, 8, 9, 25], [0, 1, 4, 5, 6, 7, 8, 9], [0, 1, 4, 5, 6, 7, 8, 9], [0, 1, 4, 5, 6, 7], [0, 1, 4, 5, 6, 7], [0, 1, 4, 5, 6], [4]] = some (c_spec_l25Affine, [.cell 4 2], 48) := by kernel_rfl
abbrev f_spec_l25Maps : Nat := 136
def c_spec_l25Maps : SC :=
 .seq (.reg [
     ⟨(some 4), .alloc 44 [(.int .i64 0), (.slice none 0 0)], none⟩] [0, 1, 4])
 (.seq (.reg [
     ⟨(some 7), .bslice 50 1 0 [] [], none⟩,
     ⟨(some 5), .mv (.tmp 7), none⟩] [0, 1, 4, 5])
 (.seq (.seq (.reg [
     ⟨(some 6), .mv (.const (.int .i64 0)), none⟩] [0, 1, 4, 5, 6])
 (.block 0 (.loop [0, 1, 4, 5, 6]
   (.seq (.seq (.reg [
       ⟨(some 8), .mv (.tmp 6), none⟩,
       ⟨(some 9), .mv (.tmp 1), none⟩,
       ⟨(some 10), .len (.tmp 9), none⟩,
       ⟨(some 11), .bin .lss (.tmp 8) (.tmp 10), none⟩] [0, 1, 4, 5, 6, 11])
   (.cond (.tmp 11)
    (.skip)
    (.exit 0)))
   (.seq (.block 1 (.reg [
        ⟨(some 14), .mv (.tmp 5), none⟩,
        ⟨(some 15), .mv (.tmp 1), none⟩,
        ⟨(some 16), .mv (.tmp 6), none⟩,
        ⟨(some 17), .iaddr 1 (.tmp 15) (.tmp 16), none⟩,
        ⟨(some 18), .load 1 false (.tmp 17), none⟩,
        ⟨(some 19), .call 50 [(.tmp 14), (.tmp 18)], none⟩,
        ⟨(some 5), .mv (.tmp 19), none⟩] [0, 1, 4, 5, 6]))
   (.reg [
       ⟨(some 12), .mv (.tmp 6), none⟩,
       ⟨(some 13), .bin .add (.tmp 12) (.const (.int .i64 1)), none⟩,
       ⟨(some 6), .mv (.tmp 13), none⟩] [0, 1, 4, 5, 6]))))))
 (.seq (.reg [
     ⟨(some 20), .mv (.tmp 0), none⟩,
     ⟨(some 21), .mv (.tmp 5), none⟩,
     ⟨(some 22), .build [(.int .i64 0), (.slice none 0 0)] [(0, 1, (.tmp 20)), (1, 1, (.tmp 21))], none⟩,
     ⟨none, .store 2 (.tmp 4) (.tmp 22), none⟩] [4])
 (.ret))))
theorem s_spec_l25Maps : stripF Tryz.prog 136 [[0, 1, 4], [0, 1, 4, 5], [0, 1, 4, 5, 6], [0, 1, 4, 5, 6], [0, 1, 4, 5, 6, 11], [0, 1, 4, 5, 6], [0, 1, 4, 5, 6], [4]] = some (c_spec_l25Maps, [.cell 4 2], 23) := by kernel_rfl
theorem l21PutList_fn (xss : List (List Int)) (x : List Int) (hl : xss.length ≤ 2000000) : PFn Tryz.prog f_spec_l21PutList [ilSS xss, ilS x] (ilSS (insU cmpL x xss)) := by
  intro H; refine ACalls.introB s_spec_l21PutList (by simp) ?_; intro hB hA; unfold c_spec_l21PutList; simp (config := { maxSteps := 1000000 }) (disch := (first | omega | (simp only [go_sem]; try omega))) only [go_sem, Nat.reduceAdd, Nat.reduceEqDiff, Nat.reduceLeDiff, Nat.reduceMul, Nat.reduceLT, reduceIte, Int.reduceToNat, w64_id, cast_succ]
  repeat (first | (with_reducible first | refine SW.seq ?_ | refine SW.block ?_ | refine SW.rowC ?_ | refine SW.skip ?_ | refine SW.exit ?_ | intro _ | refine And.intro (by omega) ?_) | simp (config := { maxSteps := 1000000 }) (disch := (first | omega | (simp only [go_sem]; try omega))) only [go_sem, Nat.reduceAdd, Nat.reduceEqDiff, Nat.reduceLeDiff, Nat.reduceMul, Nat.reduceLT, reduceIte, Int.reduceToNat, w64_id, cast_succ])
  refine SW.loopE (fun E0 H0 q E' H' => ∃ (pre post L : List (List Int)) (ver : Nat) (done : Bool), xss = pre ++ post ∧ q = post.length ∧ E' = aput (aput (aput E0 7 (I pre.length)) 6 (Bv done)) 5 (.nm H.length ver 0 L.length) ∧ H' = H ++ [⟨ver, tyLL, 1, L.map ilS⟩] ∧
    (if done = true then L ++ post else L ++ insU cmpL x post) = insU cmpL x xss ∧ L.length ≤ pre.length + (if done = true then 1 else 0)) xss.length ⟨[], xss, [], 0, false, rfl, rfl, rfl, rfl, rfl, by simp⟩ ?_
  rintro q E' H' ⟨pre, post, L, ver, done, hp, rfl, rfl, rfl, hL, hLl⟩
  have hpl : pre.length ≤ 2000000 := by rw [hp] at hl; simp at hl; omega
  have htl : (L.map ilS).take L.length = L.map ilS := List.take_of_length_le (by simp)
  have htl1 : ∀ y, (L.map ilS ++ [ilS y]).take (L.length + 1) = L.map ilS ++ [ilS y] := fun y => List.take_of_length_le (by simp)
  have htl3 : ∀ y, (List.map ilS (L ++ [y])).take (L.length + 1) = List.map ilS (L ++ [y]) := fun y => List.take_of_length_le (by simp)
  have insc : ∀ (y : List Int) (r : List (List Int)), insU cmpL x (y :: r) = if cmpL y x ≥ 0 then (if cmpL y x > 0 then x :: y :: r else y :: r) else y :: insU cmpL x r := fun _ _ => rfl
  cases done
  · simp only [Bool.false_eq_true, if_false] at hL hLl
    simp (config := { maxSteps := 1000000 }) (disch := (first | omega | (simp only [go_sem]; try omega))) only [go_sem, Nat.reduceAdd, Nat.reduceEqDiff, Nat.reduceLeDiff, Nat.reduceMul, Nat.reduceLT, reduceIte, Int.reduceToNat, w64_id, cast_succ]
    repeat (first | (with_reducible first | refine SW.seq ?_ | refine SW.block ?_ | refine SW.rowC ?_ | refine SW.skip ?_ | refine SW.exit ?_ | intro _ | refine And.intro (by omega) ?_) | simp (config := { maxSteps := 1000000 }) (disch := (first | omega | (simp only [go_sem]; try omega))) only [go_sem, Nat.reduceAdd, Nat.reduceEqDiff, Nat.reduceLeDiff, Nat.reduceMul, Nat.reduceLT, reduceIte, Int.reduceToNat, w64_id, cast_succ])
    (first | refine SW.condD rfl (fun h => ?_) (fun h => ?_) | refine SW.condN rfl (fun h => ?_) (fun h => ?_) | refine SW.condNB rfl (fun h => ?_) (fun h => ?_) | refine SW.condB rfl (fun h => ?_) (fun h => ?_))
    · obtain ⟨y, post, rfl, hg, -⟩ := consOf (d := []) hp (by omega)
      rw [insc] at hL
      by_cases hc0 : 0 ≤ cmpL y x
      · rw [if_pos hc0] at hL
        have hd0 : decide (0 ≤ cmpL y x) = true := decide_eq_true hc0
        repeat (first | (with_reducible first | refine SW.seq ?_ | refine SW.block ?_ | refine SW.rowC ?_ | refine SW.skip ?_ | refine SW.exit ?_ | refine PFn.use (CompareLists_fn _ _) ?_ | refine PFn.useq (CompareLists_fn _ _) ?_ | intro _ | refine And.intro (by omega) ?_) | simp (config := { maxSteps := 1000000 }) (disch := (first | omega | (simp only [go_sem]; try omega))) only [go_sem, Nat.reduceAdd, Nat.reduceEqDiff, Nat.reduceLeDiff, Nat.reduceMul, Nat.reduceLT, reduceIte, Int.reduceToNat, w64_id, cast_succ, hg, hd0])
        refine SW.condT rfl ?_
        repeat (first | (with_reducible first | refine SW.seq ?_ | refine SW.block ?_ | refine SW.rowC ?_ | refine SW.skip ?_ | refine SW.exit ?_ | intro _ | refine And.intro (by omega) ?_) | simp (config := { maxSteps := 1000000 }) (disch := (first | omega | (simp only [go_sem]; try omega))) only [go_sem, Nat.reduceAdd, Nat.reduceEqDiff, Nat.reduceLeDiff, Nat.reduceMul, Nat.reduceLT, reduceIte, Int.reduceToNat, w64_id, cast_succ])
        by_cases hc1 : 0 < cmpL y x
        · rw [if_pos hc1] at hL
          have hd1 : decide (0 < cmpL y x) = true := decide_eq_true hc1
          repeat (first | (with_reducible first | refine SW.seq ?_ | refine SW.block ?_ | refine SW.rowC ?_ | refine SW.skip ?_ | refine SW.exit ?_ | intro _ | refine And.intro (by omega) ?_) | simp (config := { maxSteps := 1000000 }) (disch := (first | omega | (simp only [go_sem]; try omega))) only [go_sem, Nat.reduceAdd, Nat.reduceEqDiff, Nat.reduceLeDiff, Nat.reduceMul, Nat.reduceLT, reduceIte, Int.reduceToNat, w64_id, cast_succ, hd1])
          refine SW.condT rfl ?_
          repeat (first | (with_reducible first | refine SW.seq ?_ | refine SW.block ?_ | refine SW.rowC ?_ | refine SW.skip ?_ | refine SW.exit ?_ | intro _ | refine And.intro (by omega) ?_) | simp (config := { maxSteps := 1000000 }) (disch := (first | omega | (simp only [go_sem]; try omega))) only [go_sem, Nat.reduceAdd, Nat.reduceEqDiff, Nat.reduceLeDiff, Nat.reduceMul, Nat.reduceLT, reduceIte, Int.reduceToNat, w64_id, cast_succ, hg, htl, htl1, htl3])
          have htl2 : (L.map ilS ++ [ilS x, ilS y]).take (L.length + 2) = L.map ilS ++ [ilS x, ilS y] := List.take_of_length_le (by simp)
          refine SLoop.nextT 1 post.length hB (by omega) (by simp) (by simp) ?_ ?_ ⟨pre ++ [y], post, L ++ [x, y], ver + 1 + 1, true, by simp [hp], rfl, ?_, ?_, ?_, ?_⟩
          · (simp only [go_sem, Nat.reduceAdd, Nat.reduceEqDiff, reduceIte, go_sem, and_self, and_true, true_and, implies_true, List.take_succ_cons, List.take_zero, and_true, true_and]; try omega)
          · (simp only [go_sem, Nat.reduceAdd, Nat.reduceEqDiff, reduceIte, go_sem, and_self, and_true, true_and, implies_true, List.take_succ_cons, List.take_zero, and_true, true_and]; try omega)
          · simp [go_sem]
          · simp
          · simpa using hL
          · simp; omega
        · rw [if_neg hc1] at hL
          have hd1 : decide (0 < cmpL y x) = false := decide_eq_false hc1
          repeat (first | (with_reducible first | refine SW.seq ?_ | refine SW.block ?_ | refine SW.rowC ?_ | refine SW.skip ?_ | refine SW.exit ?_ | intro _ | refine And.intro (by omega) ?_) | simp (config := { maxSteps := 1000000 }) (disch := (first | omega | (simp only [go_sem]; try omega))) only [go_sem, Nat.reduceAdd, Nat.reduceEqDiff, Nat.reduceLeDiff, Nat.reduceMul, Nat.reduceLT, reduceIte, Int.reduceToNat, w64_id, cast_succ, hd1])
          refine SW.condF rfl ?_
          repeat (first | (with_reducible first | refine SW.seq ?_ | refine SW.block ?_ | refine SW.rowC ?_ | refine SW.skip ?_ | refine SW.exit ?_ | intro _ | refine And.intro (by omega) ?_) | simp (config := { maxSteps := 1000000 }) (disch := (first | omega | (simp only [go_sem]; try omega))) only [go_sem, Nat.reduceAdd, Nat.reduceEqDiff, Nat.reduceLeDiff, Nat.reduceMul, Nat.reduceLT, reduceIte, Int.reduceToNat, w64_id, cast_succ, hg, htl, htl1, htl3])
          refine SLoop.nextT 1 post.length hB (by omega) (by simp) (by simp) ?_ ?_ ⟨pre ++ [y], post, L ++ [y], ver + 1, true, by simp [hp], rfl, ?_, ?_, ?_, ?_⟩
          · (simp only [go_sem, Nat.reduceAdd, Nat.reduceEqDiff, reduceIte, go_sem, and_self, and_true, true_and, implies_true, List.take_succ_cons, List.take_zero, and_true, true_and]; try omega)
          · (simp only [go_sem, Nat.reduceAdd, Nat.reduceEqDiff, reduceIte, go_sem, and_self, and_true, true_and, implies_true, List.take_succ_cons, List.take_zero, and_true, true_and]; try omega)
          · simp [go_sem]
          · simp
          · simpa using hL
          · simp; omega
      · rw [if_neg hc0] at hL
        have hd0 : decide (0 ≤ cmpL y x) = false := decide_eq_false hc0
        repeat (first | (with_reducible first | refine SW.seq ?_ | refine SW.block ?_ | refine SW.rowC ?_ | refine SW.skip ?_ | refine SW.exit ?_ | refine PFn.use (CompareLists_fn _ _) ?_ | refine PFn.useq (CompareLists_fn _ _) ?_ | intro _ | refine And.intro (by omega) ?_) | simp (config := { maxSteps := 1000000 }) (disch := (first | omega | (simp only [go_sem]; try omega))) only [go_sem, Nat.reduceAdd, Nat.reduceEqDiff, Nat.reduceLeDiff, Nat.reduceMul, Nat.reduceLT, reduceIte, Int.reduceToNat, w64_id, cast_succ, hg, hd0])
        refine SW.condF rfl ?_
        repeat (first | (with_reducible first | refine SW.seq ?_ | refine SW.block ?_ | refine SW.rowC ?_ | refine SW.skip ?_ | refine SW.exit ?_ | intro _ | refine And.intro (by omega) ?_) | simp (config := { maxSteps := 1000000 }) (disch := (first | omega | (simp only [go_sem]; try omega))) only [go_sem, Nat.reduceAdd, Nat.reduceEqDiff, Nat.reduceLeDiff, Nat.reduceMul, Nat.reduceLT, reduceIte, Int.reduceToNat, w64_id, cast_succ, hg, htl, htl1, htl3])
        refine SLoop.nextT 1 post.length hB (by omega) (by simp) (by simp) ?_ ?_ ⟨pre ++ [y], post, L ++ [y], ver + 1, false, by simp [hp], rfl, ?_, ?_, ?_, ?_⟩
        · (simp only [go_sem, Nat.reduceAdd, Nat.reduceEqDiff, reduceIte, go_sem, and_self, and_true, true_and, implies_true, List.take_succ_cons, List.take_zero, and_true, true_and]; try omega)
        · (simp only [go_sem, Nat.reduceAdd, Nat.reduceEqDiff, reduceIte, go_sem, and_self, and_true, true_and, implies_true, List.take_succ_cons, List.take_zero, and_true, true_and]; try omega)
        · simp [go_sem]
        · simp
        · simpa using hL
        · simp; omega
    · obtain ⟨rfl, rfl⟩ := nilOf hp (by omega)
      repeat (first | (with_reducible first | refine SW.seq ?_ | refine SW.block ?_ | refine SW.rowC ?_ | refine SW.skip ?_ | refine SW.exit ?_ | intro _ | refine And.intro (by omega) ?_) | simp (config := { maxSteps := 1000000 }) (disch := (first | omega | (simp only [go_sem]; try omega))) only [go_sem, Nat.reduceAdd, Nat.reduceEqDiff, Nat.reduceLeDiff, Nat.reduceMul, Nat.reduceLT, reduceIte, Int.reduceToNat, w64_id, cast_succ, htl])
      refine SW.condT rfl ?_
      repeat (first | (with_reducible first | refine SW.seq ?_ | refine SW.block ?_ | refine SW.rowC ?_ | refine SW.skip ?_ | refine SW.exit ?_ | intro _ | refine And.intro (by omega) ?_) | simp (config := { maxSteps := 1000000 }) (disch := (first | omega | (simp only [go_sem]; try omega))) only [go_sem, Nat.reduceAdd, Nat.reduceEqDiff, Nat.reduceLeDiff, Nat.reduceMul, Nat.reduceLT, reduceIte, Int.reduceToNat, w64_id, cast_succ, htl])
      refine SW.ret ?_; (try simp only [go_sem]); (first | refine FunPost.one ?_ | refine FunPost.two ?_ | refine FunPost.three ?_); (try simp (config := { maxSteps := 1000000 }) (disch := (first | omega | (simp only [go_sem]; try omega))) only [go_sem, Nat.reduceAdd, Nat.reduceEqDiff, Nat.reduceLeDiff, Nat.reduceMul, Nat.reduceLT, reduceIte, Int.reduceToNat, w64_id, cast_succ])
      refine GR.froz (r' := ilSS (insU cmpL x pre)) ?_ ⟨rfl, rfl⟩
      rw [← hL]
      have e := froz_rowS (H := H ++ [⟨ver + 1, tyLL, 1, (L ++ [x]).map ilS⟩, ⟨0, tyLL, 1, [ilS x]⟩]) (b := H.length) (r := H.length) (ver := ver + 1) (ty := tyLL) (xs := L ++ [x]) (Nat.le_refl _) (by simp)
      rw [List.length_append] at e
      exact e
  · simp only [if_true] at hL hLl
    simp (config := { maxSteps := 1000000 }) (disch := (first | omega | (simp only [go_sem]; try omega))) only [go_sem, Nat.reduceAdd, Nat.reduceEqDiff, Nat.reduceLeDiff, Nat.reduceMul, Nat.reduceLT, reduceIte, Int.reduceToNat, w64_id, cast_succ]
    repeat (first | (with_reducible first | refine SW.seq ?_ | refine SW.block ?_ | refine SW.rowC ?_ | refine SW.skip ?_ | refine SW.exit ?_ | intro _ | refine And.intro (by omega) ?_) | simp (config := { maxSteps := 1000000 }) (disch := (first | omega | (simp only [go_sem]; try omega))) only [go_sem, Nat.reduceAdd, Nat.reduceEqDiff, Nat.reduceLeDiff, Nat.reduceMul, Nat.reduceLT, reduceIte, Int.reduceToNat, w64_id, cast_succ])
    (first | refine SW.condD rfl (fun h => ?_) (fun h => ?_) | refine SW.condN rfl (fun h => ?_) (fun h => ?_) | refine SW.condNB rfl (fun h => ?_) (fun h => ?_) | refine SW.condB rfl (fun h => ?_) (fun h => ?_))
    · obtain ⟨y, post, rfl, hg, -⟩ := consOf (d := []) hp (by omega)
      repeat (first | (with_reducible first | refine SW.seq ?_ | refine SW.block ?_ | refine SW.rowC ?_ | refine SW.skip ?_ | refine SW.exit ?_ | refine PFn.use (CompareLists_fn _ _) ?_ | refine PFn.useq (CompareLists_fn _ _) ?_ | intro _ | refine And.intro (by omega) ?_) | simp (config := { maxSteps := 1000000 }) (disch := (first | omega | (simp only [go_sem]; try omega))) only [go_sem, Nat.reduceAdd, Nat.reduceEqDiff, Nat.reduceLeDiff, Nat.reduceMul, Nat.reduceLT, reduceIte, Int.reduceToNat, w64_id, cast_succ, hg])
      refine SW.condF rfl ?_
      repeat (first | (with_reducible first | refine SW.seq ?_ | refine SW.block ?_ | refine SW.rowC ?_ | refine SW.skip ?_ | refine SW.exit ?_ | intro _ | refine And.intro (by omega) ?_) | simp (config := { maxSteps := 1000000 }) (disch := (first | omega | (simp only [go_sem]; try omega))) only [go_sem, Nat.reduceAdd, Nat.reduceEqDiff, Nat.reduceLeDiff, Nat.reduceMul, Nat.reduceLT, reduceIte, Int.reduceToNat, w64_id, cast_succ, hg, htl, htl1, htl3])
      refine SLoop.nextT 1 post.length hB (by omega) (by simp) (by simp) ?_ ?_ ⟨pre ++ [y], post, L ++ [y], ver + 1, true, by simp [hp], rfl, ?_, ?_, ?_, ?_⟩
      · (simp only [go_sem, Nat.reduceAdd, Nat.reduceEqDiff, reduceIte, go_sem, and_self, and_true, true_and, implies_true, List.take_succ_cons, List.take_zero, and_true, true_and]; try omega)
      · (simp only [go_sem, Nat.reduceAdd, Nat.reduceEqDiff, reduceIte, go_sem, and_self, and_true, true_and, implies_true, List.take_succ_cons, List.take_zero, and_true, true_and]; try omega)
      · simp [go_sem]
      · simp
      · simpa using hL
      · simp; omega
    · obtain ⟨rfl, rfl⟩ := nilOf hp (by omega)
      repeat (first | (with_reducible first | refine SW.seq ?_ | refine SW.block ?_ | refine SW.rowC ?_ | refine SW.skip ?_ | refine SW.exit ?_ | intro _ | refine And.intro (by omega) ?_) | simp (config := { maxSteps := 1000000 }) (disch := (first | omega | (simp only [go_sem]; try omega))) only [go_sem, Nat.reduceAdd, Nat.reduceEqDiff, Nat.reduceLeDiff, Nat.reduceMul, Nat.reduceLT, reduceIte, Int.reduceToNat, w64_id, cast_succ, htl])
      refine SW.condF rfl ?_
      repeat (first | (with_reducible first | refine SW.seq ?_ | refine SW.block ?_ | refine SW.rowC ?_ | refine SW.skip ?_ | refine SW.exit ?_ | intro _ | refine And.intro (by omega) ?_) | simp (config := { maxSteps := 1000000 }) (disch := (first | omega | (simp only [go_sem]; try omega))) only [go_sem, Nat.reduceAdd, Nat.reduceEqDiff, Nat.reduceLeDiff, Nat.reduceMul, Nat.reduceLT, reduceIte, Int.reduceToNat, w64_id, cast_succ, htl])
      refine SW.ret ?_; (try simp only [go_sem]); (first | refine FunPost.one ?_ | refine FunPost.two ?_ | refine FunPost.three ?_); (try simp (config := { maxSteps := 1000000 }) (disch := (first | omega | (simp only [go_sem]; try omega))) only [go_sem, Nat.reduceAdd, Nat.reduceEqDiff, Nat.reduceLeDiff, Nat.reduceMul, Nat.reduceLT, reduceIte, Int.reduceToNat, w64_id, cast_succ])
      refine GR.froz (r' := ilSS (insU cmpL x pre)) ?_ ⟨rfl, rfl⟩
      rw [← hL, List.append_nil]
      exact froz_rowS (ver := ver) (ty := tyLL) (Nat.le_refl _) (by simp)
theorem l25Maps_fn (n : Int) (xss : List (List Int)) (hl : xss.length ≤ 2000000) : PFn Tryz.prog f_spec_l25Maps [I n, ilSS xss] (.agg [I n, ilSS (sortU cmpL xss)]) := by
  intro H; refine ACalls.introB s_spec_l25Maps (by simp) ?_; intro hB hA; unfold c_spec_l25Maps; simp (config := { maxSteps := 1000000 }) (disch := (first | omega | (simp only [go_sem]; try omega))) only [go_sem, Nat.reduceAdd, Nat.reduceEqDiff, Nat.reduceLeDiff, Nat.reduceMul, Nat.reduceLT, reduceIte, Int.reduceToNat, w64_id, cast_succ]
  repeat (first | (with_reducible first | refine SW.seq ?_ | refine SW.block ?_ | refine SW.rowC ?_ | refine SW.skip ?_ | refine SW.exit ?_ | intro _ | refine And.intro (by omega) ?_) | simp (config := { maxSteps := 1000000 }) (disch := (first | omega | (simp only [go_sem]; try omega))) only [go_sem, Nat.reduceAdd, Nat.reduceEqDiff, Nat.reduceLeDiff, Nat.reduceMul, Nat.reduceLT, reduceIte, Int.reduceToNat, w64_id, cast_succ])
  have hB1 : HB (H ++ [(⟨0, tyG, 1, [I 0, nilS]⟩ : Blk)]) := hB.app (k := H.length) (by (simp only [go_sem, Nat.reduceAdd, Nat.reduceEqDiff, reduceIte, go_sem, and_self, and_true, true_and, implies_true, List.take_succ_cons, List.take_zero, and_true, true_and]; try omega)) (by simp)
  have e0 : ∀ b : Blk, H ++ [(⟨0, tyG, 1, [I 0, nilS]⟩ : Blk), b] = (H ++ [(⟨0, tyG, 1, [I 0, nilS]⟩ : Blk)]) ++ [b] := fun b => by simp
  rw [e0]
  refine SW.froz (E' := [(0, I n), (1, ilSS xss), (4, .pc H.length 0 0), (5, ilSS []), (6, I 0)]) hB1 (by simp) (.cons _ (ren_I _) (.cons _ (ren_ilSS _) (.cons _ (.old _ (by simp [go_sem])) (.cons _ ?_ (.cons _ (ren_I _) .nil))))) ?_
  · have := ren_rowS (H := H ++ [(⟨0, tyG, 1, [I 0, nilS]⟩ : Blk)] ++ [⟨0, tyLL, 1, [].map ilS⟩]) (k := (H ++ [(⟨0, tyG, 1, [I 0, nilS]⟩ : Blk)]).length) (js := []) (r := H.length + 1) (ver := 0) (ty := tyLL) (xs := []) (by simp) (by simp) (by rw [List.getElem?_append_right (by simp)]; simp)
    exact this
  refine SW.loopE (fun E0 H0 q E' H' => ∃ (pre post : List (List Int)), xss = pre ++ post ∧ q = post.length ∧ E' = aput (aput E0 6 (I pre.length)) 5 (ilSS (sortU cmpL pre)) ∧ H' = H0) xss.length ⟨[], xss, rfl, rfl, rfl, rfl⟩ ?_
  rintro q E' H' ⟨pre, post, hp, rfl, rfl, rfl⟩
  have hpl : pre.length ≤ 2000000 := by rw [hp] at hl; simp at hl; omega
  have hsl := sortU_len (cf := cmpL) pre
  simp (config := { maxSteps := 1000000 }) (disch := (first | omega | (simp only [go_sem]; try omega))) only [go_sem, Nat.reduceAdd, Nat.reduceEqDiff, Nat.reduceLeDiff, Nat.reduceMul, Nat.reduceLT, reduceIte, Int.reduceToNat, w64_id, cast_succ]
  repeat (first | (with_reducible first | refine SW.seq ?_ | refine SW.block ?_ | refine SW.rowC ?_ | refine SW.skip ?_ | refine SW.exit ?_ | intro _ | refine And.intro (by omega) ?_) | simp (config := { maxSteps := 1000000 }) (disch := (first | omega | (simp only [go_sem]; try omega))) only [go_sem, Nat.reduceAdd, Nat.reduceEqDiff, Nat.reduceLeDiff, Nat.reduceMul, Nat.reduceLT, reduceIte, Int.reduceToNat, w64_id, cast_succ])
  (first | refine SW.condD rfl (fun h => ?_) (fun h => ?_) | refine SW.condN rfl (fun h => ?_) (fun h => ?_) | refine SW.condNB rfl (fun h => ?_) (fun h => ?_) | refine SW.condB rfl (fun h => ?_) (fun h => ?_))
  · obtain ⟨y, post, rfl, hg, -⟩ := consOf (d := []) hp (by omega)
    repeat (first | (with_reducible first | refine SW.seq ?_ | refine SW.block ?_ | refine SW.rowC ?_ | refine SW.skip ?_ | refine SW.exit ?_ | refine PFn.use (l21PutList_fn _ _ (by omega)) ?_ | refine PFn.useq (l21PutList_fn _ _ (by omega)) ?_ | intro _ | refine And.intro (by omega) ?_) | simp (config := { maxSteps := 1000000 }) (disch := (first | omega | (simp only [go_sem]; try omega))) only [go_sem, Nat.reduceAdd, Nat.reduceEqDiff, Nat.reduceLeDiff, Nat.reduceMul, Nat.reduceLT, reduceIte, Int.reduceToNat, w64_id, cast_succ, hg])
    refine SLoop.next post.length (by simp) ⟨pre ++ [y], post, by simp [hp], rfl, ?_, rfl⟩
    rw [sortU_snoc]; simp [go_sem]
  · obtain ⟨rfl, rfl⟩ := nilOf hp (by omega)
    repeat (first | (with_reducible first | refine SW.seq ?_ | refine SW.block ?_ | refine SW.rowC ?_ | refine SW.skip ?_ | refine SW.exit ?_ | intro _ | refine And.intro (by omega) ?_) | simp (config := { maxSteps := 1000000 }) (disch := (first | omega | (simp only [go_sem]; try omega))) only [go_sem, Nat.reduceAdd, Nat.reduceEqDiff, Nat.reduceLeDiff, Nat.reduceMul, Nat.reduceLT, reduceIte, Int.reduceToNat, w64_id, cast_succ])
    refine SW.ret ?_
    refine FunPost.cell (cs := [I n, ilSS (sortU cmpL pre)]) (by simp (config := { maxSteps := 1000000 }) (disch := (first | omega | (simp only [go_sem]; try omega))) only [go_sem, Nat.reduceAdd, Nat.reduceEqDiff, Nat.reduceLeDiff, Nat.reduceMul, Nat.reduceLT, reduceIte, Int.reduceToNat, w64_id, cast_succ]) (GR.drop ?_ ⟨rfl, rfl⟩)
    simp [go_sem]
theorem l25Affine_ok (H : List Blk) (n : Nat) (fs : List Nat) (s : AV) (hn1 : 1 ≤ n) (hn : n ≤ 32) (hf : ∀ a ∈ fs, a ≤ 32) (hfl : fs.length ≤ 32) (hs : RdS H s (nats fs)) : ACalls Tryz.prog f_spec_l25Affine [I n, s] H (fun r H' => r = .agg [I n, ilSS (sortU cmpL (affAll n fs))] ∧ H' = H) := by
  have hsv : ∀ ext, aview (H ++ ext) s = some ((nats fs).length, (nats fs).map I) := fun ext => hs.append ext
  refine ACalls.introB s_spec_l25Affine (by simp) ?_; intro hB hA; unfold c_spec_l25Affine; simp (config := { maxSteps := 1000000 }) (disch := (first | omega | (simp only [go_sem]; try omega))) only [go_sem, Nat.reduceAdd, Nat.reduceEqDiff, Nat.reduceLeDiff, Nat.reduceMul, Nat.reduceLT, reduceIte, Int.reduceToNat, w64_id, cast_succ]
  have hsb : ∀ k, H.length ≤ k → Bel k s := fun k hk => (hA s (by simp)).mono hk
  have hsb2 := hsb (H.length + 2) (by omega)
  have hsb3 := hsb (H.length + 3) (by omega)
  repeat (first | (with_reducible first | refine SW.seq ?_ | refine SW.block ?_ | refine SW.rowC ?_ | refine SW.skip ?_ | refine SW.exit ?_ | intro _ | refine And.intro (by omega) ?_) | simp (config := { maxSteps := 1000000 }) (disch := (first | omega | (simp only [go_sem]; try omega))) only [go_sem, Nat.reduceAdd, Nat.reduceEqDiff, Nat.reduceLeDiff, Nat.reduceMul, Nat.reduceLT, reduceIte, Int.reduceToNat, w64_id, cast_succ, hsv])
  have hnl := nats_len fs
  have hB1 : ∀ ver (L : List (List Int)), HB (H ++ [(⟨0, tyG, 1, [I 0, nilS]⟩ : Blk), ⟨ver, tyLL, 1, L.map ilS⟩]) := fun ver L => hB.app (k := H.length) (by (simp only [go_sem, Nat.reduceAdd, Nat.reduceEqDiff, reduceIte, go_sem, and_self, and_true, true_and, implies_true, List.take_succ_cons, List.take_zero, and_true, true_and]; try omega)) (by simp)
  refine SW.loopE (fun E0 H0 q E' H' => ∃ (pre post : List Nat) (ver : Nat), fs = pre ++ post ∧ q = post.length ∧ E' = aput (aput E0 6 (I pre.length)) 5 (.nm (H.length + 1) ver 0 (affAll n pre).length) ∧ H' = H ++ [⟨0, tyG, 1, [I 0, nilS]⟩, ⟨ver, tyLL, 1, (affAll n pre).map ilS⟩]) fs.length ⟨[], fs, 0, rfl, rfl, rfl, rfl⟩ ?_
  rintro q E' H' ⟨pre, post, ver, hp, rfl, rfl, rfl⟩
  have hal0 := affAll_len n pre
  simp (config := { maxSteps := 1000000 }) (disch := (first | omega | (simp only [go_sem]; try omega))) only [go_sem, Nat.reduceAdd, Nat.reduceEqDiff, Nat.reduceLeDiff, Nat.reduceMul, Nat.reduceLT, reduceIte, Int.reduceToNat, w64_id, cast_succ]
  repeat (first | (with_reducible first | refine SW.seq ?_ | refine SW.block ?_ | refine SW.rowC ?_ | refine SW.skip ?_ | refine SW.exit ?_ | intro _ | refine And.intro (by omega) ?_) | simp (config := { maxSteps := 1000000 }) (disch := (first | omega | (simp only [go_sem]; try omega))) only [go_sem, Nat.reduceAdd, Nat.reduceEqDiff, Nat.reduceLeDiff, Nat.reduceMul, Nat.reduceLT, reduceIte, Int.reduceToNat, w64_id, cast_succ, hsv])
  (first | refine SW.condD rfl (fun h => ?_) (fun h => ?_) | refine SW.condN rfl (fun h => ?_) (fun h => ?_) | refine SW.condNB rfl (fun h => ?_) (fun h => ?_) | refine SW.condB rfl (fun h => ?_) (fun h => ?_))
  · cases post with
    | nil => exfalso; have := congrArg List.length hp; simp at this; omega
    | cons a post =>
    have hg : (nats fs).getD pre.length 0 = (a : Int) := by rw [hp]; simp [nats]
    have ha := hf a (by rw [hp]; simp)
    have hpl : pre.length ≤ 32 := by rw [hp] at hfl; simp at hfl; omega
    have hpm : pre.length * n ≤ 32 * 32 := Nat.mul_le_mul hpl hn
    have hgs : ((nats fs).map I)[pre.length]? = some (I a) := by rw [hp]; simp [nats]
    repeat (first | (with_reducible first | refine SW.seq ?_ | refine SW.block ?_ | refine SW.rowC ?_ | refine SW.skip ?_ | refine SW.exit ?_ | intro _ | refine And.intro (by omega) ?_) | simp (config := { maxSteps := 1000000 }) (disch := (first | omega | (simp only [go_sem]; try omega))) only [go_sem, Nat.reduceAdd, Nat.reduceEqDiff, Nat.reduceLeDiff, Nat.reduceMul, Nat.reduceLT, reduceIte, Int.reduceToNat, w64_id, cast_succ, hsv, hgs])
    refine SW.loopE (fun E0 H0 q E' H' => ∃ b ver : Nat, b ≤ n ∧ q = n - b ∧ E' = aput (aput E0 7 (I b)) 5 (.nm (H.length + 1) ver 0 (affAll n pre ++ affS n a b).length) ∧ H' = H ++ [⟨0, tyG, 1, [I 0, nilS]⟩, ⟨ver, tyLL, 1, (affAll n pre ++ affS n a b).map ilS⟩]) n ⟨0, ver, by omega, by omega, by simp [affS]; rfl, by simp [affS]⟩ ?_
    rintro q E' H' ⟨b, ver, hb, rfl, rfl, rfl⟩
    have hLl : (affAll n pre ++ affS n a b).length = pre.length * n + b := by rw [List.length_append, affAll_len, affS_len]
    generalize hL : affAll n pre ++ affS n a b = L at *
    simp (config := { maxSteps := 1000000 }) (disch := (first | omega | (simp only [go_sem]; try omega))) only [go_sem, Nat.reduceAdd, Nat.reduceEqDiff, Nat.reduceLeDiff, Nat.reduceMul, Nat.reduceLT, reduceIte, Int.reduceToNat, w64_id, cast_succ]
    repeat (first | (with_reducible first | refine SW.seq ?_ | refine SW.block ?_ | refine SW.rowC ?_ | refine SW.skip ?_ | refine SW.exit ?_ | intro _ | refine And.intro (by omega) ?_) | simp (config := { maxSteps := 1000000 }) (disch := (first | omega | (simp only [go_sem]; try omega))) only [go_sem, Nat.reduceAdd, Nat.reduceEqDiff, Nat.reduceLeDiff, Nat.reduceMul, Nat.reduceLT, reduceIte, Int.reduceToNat, w64_id, cast_succ])
    (first | refine SW.condD rfl (fun h2 => ?_) (fun h2 => ?_) | refine SW.condN rfl (fun h2 => ?_) (fun h2 => ?_) | refine SW.condNB rfl (fun h2 => ?_) (fun h2 => ?_) | refine SW.condB rfl (fun h2 => ?_) (fun h2 => ?_))
    · repeat (first | (with_reducible first | refine SW.seq ?_ | refine SW.block ?_ | refine SW.rowC ?_ | refine SW.skip ?_ | refine SW.exit ?_ | intro _ | refine And.intro (by omega) ?_) | simp (config := { maxSteps := 1000000 }) (disch := (first | omega | (simp only [go_sem]; try omega))) only [go_sem, Nat.reduceAdd, Nat.reduceEqDiff, Nat.reduceLeDiff, Nat.reduceMul, Nat.reduceLT, reduceIte, Int.reduceToNat, w64_id, cast_succ])
      refine SW.loopE (fun E0 H0 q E' H' => ∃ (x ver' : Nat), x ≤ n ∧ q = n - x ∧ E' = aput (aput E0 9 (I x)) 8 (.nm (H.length + 2) ver' 0 (affRow n a b x).length) ∧ H' = H ++ [⟨0, tyG, 1, [I 0, nilS]⟩, ⟨ver, tyLL, 1, L.map ilS⟩, ⟨ver', 2, 1, (affRow n a b x).map I⟩]) n ⟨0, 0, by omega, by omega, rfl, rfl⟩ ?_
      rintro q E' H' ⟨x, ver', hx, rfl, rfl, rfl⟩
      have hal := affRow_len n a b x
      simp (config := { maxSteps := 1000000 }) (disch := (first | omega | (simp only [go_sem]; try omega))) only [go_sem, Nat.reduceAdd, Nat.reduceEqDiff, Nat.reduceLeDiff, Nat.reduceMul, Nat.reduceLT, reduceIte, Int.reduceToNat, w64_id, cast_succ]
      repeat (first | (with_reducible first | refine SW.seq ?_ | refine SW.block ?_ | refine SW.rowC ?_ | refine SW.skip ?_ | refine SW.exit ?_ | intro _ | refine And.intro (by omega) ?_) | simp (config := { maxSteps := 1000000 }) (disch := (first | omega | (simp only [go_sem]; try omega))) only [go_sem, Nat.reduceAdd, Nat.reduceEqDiff, Nat.reduceLeDiff, Nat.reduceMul, Nat.reduceLT, reduceIte, Int.reduceToNat, w64_id, cast_succ])
      (first | refine SW.condD rfl (fun h3 => ?_) (fun h3 => ?_) | refine SW.condN rfl (fun h3 => ?_) (fun h3 => ?_) | refine SW.condNB rfl (fun h3 => ?_) (fun h3 => ?_) | refine SW.condB rfl (fun h3 => ?_) (fun h3 => ?_))
      · have hax : a * x ≤ 32 * 32 := Nat.mul_le_mul ha (by omega)
        have e1 : ((a : Int) * (x : Int)) = ((a * x : Nat) : Int) := by simp
        have e2 : (((a * x : Nat) : Int) + (b : Int)).tmod (n : Int) = (((a * x + b) % n : Nat) : Int) := by
          rw [Int.tmod_eq_emod_of_nonneg (by omega)]; simp
        have htl : (List.map I (affRow n a b x)).take x = List.map I (affRow n a b x) := List.take_of_length_le (by simp [hal])
        repeat (first | (with_reducible first | refine SW.seq ?_ | refine SW.block ?_ | refine SW.rowC ?_ | refine SW.skip ?_ | refine SW.exit ?_ | intro _ | refine And.intro (by omega) ?_) | simp (config := { maxSteps := 1000000 }) (disch := (first | omega | (simp only [go_sem]; try omega))) only [go_sem, Nat.reduceAdd, Nat.reduceEqDiff, Nat.reduceLeDiff, Nat.reduceMul, Nat.reduceLT, reduceIte, Int.reduceToNat, w64_id, cast_succ, hsv, hgs, e1, e2, htl])
        refine SLoop.nextT 3 (n - (x + 1)) hB (by omega) (by omega) (by simp) ?_ ?_ ⟨x + 1, ver' + 1, by omega, rfl, ?_, ?_⟩
        · (simp only [go_sem, Nat.reduceAdd, Nat.reduceEqDiff, reduceIte, go_sem, and_self, and_true, true_and, implies_true, List.take_succ_cons, List.take_zero, and_true, true_and, hsb2, hsb3]; try omega)
        · (simp only [go_sem, Nat.reduceAdd, Nat.reduceEqDiff, reduceIte, go_sem, and_self, and_true, true_and, implies_true, List.take_succ_cons, List.take_zero, and_true, true_and, hsb2, hsb3]; try omega)
        · simp [go_sem, affRow_len]
        · rw [affRow_succ]; simp
      · have : x = n := by omega
        subst this
        have e2 : ∀ a b c : Blk, H ++ [a, b, c] = (H ++ [a, b]) ++ [c] := fun a b c => by simp
        rw [e2]
        have hrow := ren_rowI (H := H ++ [(⟨0, tyG, 1, [I 0, nilS]⟩ : Blk), ⟨ver, tyLL, 1, L.map ilS⟩] ++ [⟨ver', 2, 1, (affRow x a b x).map I⟩]) (k := (H ++ [(⟨0, tyG, 1, [I 0, nilS]⟩ : Blk), ⟨ver, tyLL, 1, L.map ilS⟩]).length) (js := []) (r := H.length + 2) (ver := ver') (ty := 2) (xs := affRow x a b x) (by simp) (by simp) (by rw [List.getElem?_append_right (by simp)]; simp)
        refine SW.froz (hB1 _ _) (by simp) (.cons _ (ren_I _) (.cons _ (.old _ (hsb _ (by simp))) (.cons _ (.old _ (by simp [go_sem])) (.cons _ (.old _ (by simp [go_sem])) (.cons _ (ren_I _) (.cons _ (ren_I _) (.cons _ hrow (.cons _ (ren_I _) (.cons _ (ren_B _) .nil))))))))) ?_
        have htl : (L.map ilS).take L.length = L.map ilS := List.take_of_length_le (by simp)
        repeat (first | (with_reducible first | refine SW.seq ?_ | refine SW.block ?_ | refine SW.rowC ?_ | refine SW.skip ?_ | refine SW.exit ?_ | intro _ | refine And.intro (by omega) ?_) | simp (config := { maxSteps := 1000000 }) (disch := (first | omega | (simp only [go_sem]; try omega))) only [go_sem, Nat.reduceAdd, Nat.reduceEqDiff, Nat.reduceLeDiff, Nat.reduceMul, Nat.reduceLT, reduceIte, Int.reduceToNat, w64_id, cast_succ, htl])
        have hL2 : affAll x pre ++ affS x a (b + 1) = L ++ [affRow x a b x] := by rw [affS_succ, ← List.append_assoc, hL]
        have hL3 : (affAll x pre).length + (affS x a (b + 1)).length = L.length + 1 := by rw [← List.length_append, hL2]; simp
        refine SLoop.nextT 2 (x - (b + 1)) hB (by omega) (by omega) (by simp) ?_ ?_ ⟨b + 1, ver + 1, by omega, rfl, ?_, ?_⟩
        · (simp only [go_sem, Nat.reduceAdd, Nat.reduceEqDiff, reduceIte, go_sem, and_self, and_true, true_and, implies_true, List.take_succ_cons, List.take_zero, and_true, true_and, hsb2, hsb3]; try omega)
        · (simp only [go_sem, Nat.reduceAdd, Nat.reduceEqDiff, reduceIte, go_sem, and_self, and_true, true_and, implies_true, List.take_succ_cons, List.take_zero, and_true, true_and, hsb2, hsb3]; try omega)
        · simp [go_sem, hL3]
        · rw [hL2]; simp
    · have : b = n := by omega
      subst this
      repeat (first | (with_reducible first | refine SW.seq ?_ | refine SW.block ?_ | refine SW.rowC ?_ | refine SW.skip ?_ | refine SW.exit ?_ | intro _ | refine And.intro (by omega) ?_) | simp (config := { maxSteps := 1000000 }) (disch := (first | omega | (simp only [go_sem]; try omega))) only [go_sem, Nat.reduceAdd, Nat.reduceEqDiff, Nat.reduceLeDiff, Nat.reduceMul, Nat.reduceLT, reduceIte, Int.reduceToNat, w64_id, cast_succ])
      refine SLoop.next post.length (by simp) ⟨pre ++ [a], post, ver, by simp [hp], rfl, ?_, ?_⟩
      · rw [affAll_snoc, hL]; simp [go_sem]
      · rw [affAll_snoc, hL]
  · have hpo : post = [] := by cases post with
      | nil => rfl
      | cons x post => exfalso; have := congrArg List.length hp; simp at this; omega
    subst hpo
    rw [List.append_nil] at hp
    subst hp
    have hB0 : HB (H ++ [(⟨0, tyG, 1, [I 0, nilS]⟩ : Blk)]) := hB.app (k := H.length) (by (simp only [go_sem, Nat.reduceAdd, Nat.reduceEqDiff, reduceIte, go_sem, and_self, and_true, true_and, implies_true, List.take_succ_cons, List.take_zero, and_true, true_and]; try omega)) (by simp)
    have e1 : ∀ a b : Blk, H ++ [a, b] = (H ++ [a]) ++ [b] := fun a b => by simp
    rw [e1]
    have hrow := ren_rowS (H := H ++ [(⟨0, tyG, 1, [I 0, nilS]⟩ : Blk)] ++ [⟨ver, tyLL, 1, (affAll n fs).map ilS⟩]) (k := (H ++ [(⟨0, tyG, 1, [I 0, nilS]⟩ : Blk)]).length) (js := []) (r := H.length + 1) (ver := ver) (ty := tyLL) (xs := affAll n fs) (by simp) (by simp) (by rw [List.getElem?_append_right (by simp)]; simp)
    refine SW.froz hB0 (by simp) (.cons _ (ren_I _) (.cons _ (.old _ (hsb _ (by simp))) (.cons _ (.old _ (by simp [go_sem])) (.cons _ hrow (.cons _ (ren_I _) (.cons _ (ren_B _) .nil)))))) ?_
    have hpm : fs.length * n ≤ 32 * 32 := Nat.mul_le_mul hfl hn
    repeat (first | (with_reducible first | refine SW.seq ?_ | refine SW.block ?_ | refine SW.rowC ?_ | refine SW.skip ?_ | refine SW.exit ?_ | refine PFn.use (l25Maps_fn n (affAll n fs) (by omega)) ?_ | refine PFn.useq (l25Maps_fn n (affAll n fs) (by omega)) ?_ | intro _ | refine And.intro (by omega) ?_) | simp (config := { maxSteps := 1000000 }) (disch := (first | omega | (simp only [go_sem]; try omega))) only [go_sem, Nat.reduceAdd, Nat.reduceEqDiff, Nat.reduceLeDiff, Nat.reduceMul, Nat.reduceLT, reduceIte, Int.reduceToNat, w64_id, cast_succ])
    refine SW.ret ?_
    refine FunPost.cell (cs := [I n, ilSS (sortU cmpL (affAll n fs))]) (by simp (config := { maxSteps := 1000000 }) (disch := (first | omega | (simp only [go_sem]; try omega))) only [go_sem, Nat.reduceAdd, Nat.reduceEqDiff, Nat.reduceLeDiff, Nat.reduceMul, Nat.reduceLT, reduceIte, Int.reduceToNat, w64_id, cast_succ]) (GR.drop ?_ ⟨rfl, rfl⟩)
    simp [go_sem]
end Go.Proofs.YthogadbnddmkdaaGreat
namespace Go.Proofs.YthogadbnddmkdaaGreat
open Go.Av
theorem aff_small (n : Nat) (fs : List Nat) (hn : n ≤ 32) (hfl : fs.length ≤ 32) : total (sortU cmpL (affAll n fs)) ≤ 40000 := by
  have h1 := sortU_len (cf := cmpL) (affAll n fs)
  rw [affAll_len] at h1
  have h2 : fs.length * n ≤ 32 * 32 := Nat.mul_le_mul hfl hn
  have h3 : ∀ r ∈ sortU cmpL (affAll n fs), r.length ≤ 32 := by
    intro r hr
    rw [sortU_mem cmpL_tot] at hr
    obtain ⟨a, _, hr⟩ := List.mem_flatMap.1 hr
    obtain ⟨b, _, rfl⟩ := List.mem_map.1 hr
    rw [affRow_len]; exact hn
  have h4 : ∀ l : List (List Int), (∀ r ∈ l, r.length ≤ 32) → total l ≤ l.length * 32 := by
    intro l hl
    induction l with
    | nil => simp [total]
    | cons r l ih =>
      have e1 := hl r (by simp)
      have e2 := ih (fun r hr => hl r (by simp [hr]))
      simp [total] at e2 ⊢; omega
  have := h4 _ h3
  omega
theorem affRow_inj {n a b c d : Nat} (hn : 2 ≤ n) (ha : a < n) (hb : b < n) (hc : c < n) (hd : d < n) (h : affRow n a b n = affRow n c d n) : a = c ∧ b = d := by
  have g : ∀ i, i < n → (a * i + b) % n = (c * i + d) % n := fun i hi => by
    have := congrArg (fun l : List Int => l[i]?) h
    simp only [affRow, List.getElem?_map, List.getElem?_range hi, Option.map_some, Option.some.injEq] at this
    exact Int.ofNat_inj.1 this
  have g0 := g 0 (by omega)
  have g1 := g 1 (by omega)
  rw [Nat.mul_zero, Nat.zero_add, Nat.mul_zero, Nat.zero_add, Nat.mod_eq_of_lt hb, Nat.mod_eq_of_lt hd] at g0
  subst g0
  rw [Nat.mul_one, Nat.mul_one] at g1
  refine ⟨?_, rfl⟩
  have e1 : (a + b) % n = if a + b < n then a + b else a + b - n := by
    split
    · exact Nat.mod_eq_of_lt (by assumption)
    · rw [Nat.mod_eq_sub_mod (by omega), Nat.mod_eq_of_lt (by omega)]
  have e2 : (c + b) % n = if c + b < n then c + b else c + b - n := by
    split
    · exact Nat.mod_eq_of_lt (by assumption)
    · rw [Nat.mod_eq_sub_mod (by omega), Nat.mod_eq_of_lt (by omega)]
  rw [e1, e2] at g1
  split at g1 <;> split at g1 <;> omega
theorem affAll_nodup {n : Nat} {fs : List Nat} (hn : 2 ≤ n) (hf : ∀ a ∈ fs, a < n) (hd : fs.Nodup) : (affAll n fs).Nodup := by
  induction fs with
  | nil => simp [affAll]
  | cons a fs ih =>
    have hd2 := List.nodup_cons.1 hd
    have hl := ih (fun x hx => hf x (by simp [hx])) hd2.2
    have ha := hf a (by simp)
    unfold affAll at hl ⊢
    rw [List.flatMap_cons, List.nodup_append]
    refine ⟨?_, hl, ?_⟩
    · unfold affS
      rw [List.nodup_iff_pairwise_ne, List.pairwise_map]
      refine List.Pairwise.imp_of_mem ?_ (List.nodup_iff_pairwise_ne.1 List.nodup_range)
      intro b c hb hc hne he
      rw [List.mem_range] at hb hc
      exact hne (affRow_inj hn ha hb ha hc he).2
    · rintro x hx y hy rfl
      obtain ⟨b, hb, rfl⟩ := List.mem_map.1 hx
      obtain ⟨c, hc, hy⟩ := List.mem_flatMap.1 hy
      obtain ⟨d, hd, he⟩ := List.mem_map.1 hy
      rw [List.mem_range] at hb hd
      have := (affRow_inj hn (hf c (by simp [hc])) hd ha hb he).1
      subst this
      exact hd2.1 hc
end Go.Proofs.YthogadbnddmkdaaGreat
namespace Go.Proofs.YthogadbnddmkdaaGreat
open Go.Av
theorem total_geV {x : List Int} : ∀ {xss : List (List Int)}, x ∈ xss → x.length ≤ total xss
  | y :: r, h => by
    rw [total_cons]
    rcases List.mem_cons.1 h with rfl | h
    · omega
    · have := total_geV h; omega
end Go.Proofs.YthogadbnddmkdaaGreat
