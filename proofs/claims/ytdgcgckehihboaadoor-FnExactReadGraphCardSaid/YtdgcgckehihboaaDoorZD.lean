/- Graphs read: the reference. -/
import Derived.Test.YtdgcgckehihboaaDoorProg
import Derived.KernelRfl
import Derived.Test.YtdgcgckehihboaaDoorZC
import Derived.Test.YtdgcgckehihboaaDoorR2
import Derived.Test.YtdgcgckehihboaaDoorE4
set_option linter.unusedSimpArgs false
set_option linter.unusedVariables false
set_option maxHeartbeats 4000000
set_option maxRecDepth 100000
namespace Go.Av
/-- Slots that are not read later are let go. -/
theorem SW.keepZ {P : Program} {n k0 : Nat} {Q : SX → Env → List Blk → Prop} {E : Env} {H : List Blk} {c : SC} (ks : List Nat) (h : Go.Av.SW P n k0 c Q (keep ks E) H) : Go.Av.SW P n k0 c Q E H :=
  SW.ghost (fun _ F m _ _ _ hs => ⟨F, m, hs.keep ks⟩) h
end Go.Av
namespace Go.Proofs.YtdgcgckehihboaaDoor
open Go.Av

/-! The abstract code of functions, printed by program and tied to the program by the kernel. -/
/-- loop.example/g00920/spec.ReadGraph -/
abbrev f_spec_ReadGraph : Nat := 4
def c_spec_ReadGraph : SC :=
 .seq (.reg [
     ⟨(some 2), .alloc 25 [(.slice none 0 0), (.slice none 0 0)], none⟩,
     ⟨(some 3), .mv (.const (.bool false)), none⟩] [0, 2])
 (.seq (.reg [
     ⟨(some 15), .mv (.tmp 0), none⟩,
     ⟨(some 16), .call 9 [(.tmp 15), (.const (.int .u8 59))], none⟩,
     ⟨(some 4), .mv (.tmp 16), none⟩] [2, 4])
 (.seq (.seq (.reg [
     ⟨(some 17), .mv (.tmp 4), none⟩,
     ⟨(some 18), .len (.tmp 17), none⟩,
     ⟨(some 19), .bin .neq (.tmp 18) (.const (.int .i64 2)), none⟩] [2, 4, 19])
 (.cond (.tmp 19)
  (.seq (.reg [
      ⟨(some 20), .build [(.slice none 0 0), (.slice none 0 0)] [], none⟩,
      ⟨none, .store 2 (.tmp 2) (.tmp 20), none⟩,
      ⟨(some 3), .mv (.const (.bool false)), none⟩] [2, 3])
  (.ret))
  (.skip)))
 (.seq (.reg [
     ⟨(some 22), .mv (.tmp 4), none⟩,
     ⟨(some 23), .iaddr 1 (.tmp 22) (.const (.int .i64 0)), none⟩,
     ⟨(some 24), .load 1 false (.tmp 23), none⟩,
     ⟨(some 25), .call 10 [(.tmp 24)], none⟩,
     ⟨(some 21), .mv (.tmp 25), none⟩,
     ⟨(some 26), .ext (.tmp 21) 0, none⟩,
     ⟨(some 27), .ext (.tmp 21) 1, none⟩,
     ⟨(some 5), .mv (.tmp 26), none⟩,
     ⟨(some 6), .mv (.tmp 27), none⟩] [2, 4, 5, 6])
 (.seq (.seq (.reg [
     ⟨(some 28), .mv (.tmp 6), none⟩,
     ⟨(some 29), .un .not (.tmp 28), none⟩] [2, 4, 5, 29])
 (.cond (.tmp 29)
  (.seq (.reg [
      ⟨(some 30), .build [(.slice none 0 0), (.slice none 0 0)] [], none⟩,
      ⟨none, .store 2 (.tmp 2) (.tmp 30), none⟩,
      ⟨(some 3), .mv (.const (.bool false)), none⟩] [2, 3])
  (.ret))
  (.skip)))
 (.seq (.reg [
     ⟨(some 31), .mv (.tmp 5), none⟩,
     ⟨(some 32), .build [(.slice none 0 0), (.slice none 0 0)] [(0, 1, (.tmp 31))], none⟩,
     ⟨(some 7), .alloc 25 [(.slice none 0 0), (.slice none 0 0)], none⟩,
     ⟨none, .store 2 (.tmp 7) (.tmp 32), none⟩] [2, 4, 7])
 (.seq (.reg [
     ⟨(some 33), .bslice 9 1 0 [] [], none⟩,
     ⟨(some 8), .mv (.tmp 33), none⟩] [2, 4, 7, 8])
 (.seq (.seq (.reg [
     ⟨(some 34), .mv (.tmp 4), none⟩,
     ⟨(some 35), .iaddr 1 (.tmp 34) (.const (.int .i64 1)), none⟩,
     ⟨(some 36), .load 1 false (.tmp 35), none⟩,
     ⟨(some 37), .sop (.eql true) [(.tmp 36), (.const (.string ByteArray.empty))], none⟩] [2, 4, 7, 8, 37])
 (.cond (.tmp 37)
  (.reg [
      ⟨(some 38), .mv (.tmp 4), none⟩,
      ⟨(some 39), .iaddr 1 (.tmp 38) (.const (.int .i64 1)), none⟩,
      ⟨(some 40), .load 1 false (.tmp 39), none⟩,
      ⟨(some 41), .call 9 [(.tmp 40), (.const (.int .u8 44))], none⟩,
      ⟨(some 8), .mv (.tmp 41), none⟩] [2, 7, 8])
  (.skip)))
 (.seq (.seq (.reg [
     ⟨(some 42), .mv (.tmp 8), none⟩,
     ⟨(some 43), .len (.tmp 42), none⟩,
     ⟨(some 44), .bin .gtr (.tmp 43) (.const (.int .i64 512)), none⟩] [2, 7, 8, 44])
 (.cond (.tmp 44)
  (.seq (.reg [
      ⟨(some 45), .build [(.slice none 0 0), (.slice none 0 0)] [], none⟩,
      ⟨none, .store 2 (.tmp 2) (.tmp 45), none⟩,
      ⟨(some 3), .mv (.const (.bool false)), none⟩] [2, 3])
  (.ret))
  (.skip)))
 (.seq (.seq (.reg [
     ⟨(some 9), .mv (.const (.int .i64 0)), none⟩] [2, 7, 8, 9])
 (.block 0 (.loop [2, 7, 8, 9]
   (.seq (.seq (.reg [
       ⟨(some 46), .mv (.tmp 9), none⟩,
       ⟨(some 47), .mv (.tmp 8), none⟩,
       ⟨(some 48), .len (.tmp 47), none⟩,
       ⟨(some 49), .bin .lss (.tmp 46) (.tmp 48), none⟩] [2, 7, 8, 9, 49])
   (.cond (.tmp 49)
    (.skip)
    (.exit 0)))
   (.seq (.block 1 (.seq (.reg [
        ⟨(some 52), .mv (.tmp 8), none⟩,
        ⟨(some 53), .mv (.tmp 9), none⟩,
        ⟨(some 54), .iaddr 1 (.tmp 52) (.tmp 53), none⟩,
        ⟨(some 55), .load 1 false (.tmp 54), none⟩,
        ⟨(some 56), .call 9 [(.tmp 55), (.const (.int .u8 45))], none⟩,
        ⟨(some 10), .mv (.tmp 56), none⟩] [2, 7, 8, 9, 10])
    (.seq (.seq (.reg [
        ⟨(some 57), .mv (.tmp 10), none⟩,
        ⟨(some 58), .len (.tmp 57), none⟩,
        ⟨(some 59), .bin .neq (.tmp 58) (.const (.int .i64 2)), none⟩] [2, 7, 8, 9, 10, 59])
    (.cond (.tmp 59)
     (.seq (.reg [
         ⟨(some 60), .build [(.slice none 0 0), (.slice none 0 0)] [], none⟩,
         ⟨none, .store 2 (.tmp 2) (.tmp 60), none⟩,
         ⟨(some 3), .mv (.const (.bool false)), none⟩] [2, 3])
     (.ret))
     (.skip)))
    (.seq (.reg [
        ⟨(some 62), .mv (.tmp 10), none⟩,
        ⟨(some 63), .iaddr 1 (.tmp 62) (.const (.int .i64 0)), none⟩,
        ⟨(some 64), .load 1 false (.tmp 63), none⟩,
        ⟨(some 65), .call 11 [(.tmp 64)], none⟩,
        ⟨(some 61), .mv (.tmp 65), none⟩,
        ⟨(some 66), .ext (.tmp 61) 0, none⟩,
        ⟨(some 67), .ext (.tmp 61) 1, none⟩,
        ⟨(some 11), .mv (.tmp 66), none⟩,
        ⟨(some 12), .mv (.tmp 67), none⟩] [2, 7, 8, 9, 10, 11, 12])
    (.seq (.reg [
        ⟨(some 69), .mv (.tmp 10), none⟩,
        ⟨(some 70), .iaddr 1 (.tmp 69) (.const (.int .i64 1)), none⟩,
        ⟨(some 71), .load 1 false (.tmp 70), none⟩,
        ⟨(some 72), .call 11 [(.tmp 71)], none⟩,
        ⟨(some 68), .mv (.tmp 72), none⟩,
        ⟨(some 73), .ext (.tmp 68) 0, none⟩,
        ⟨(some 74), .ext (.tmp 68) 1, none⟩,
        ⟨(some 13), .mv (.tmp 73), none⟩,
        ⟨(some 14), .mv (.tmp 74), none⟩] [2, 7, 8, 9, 11, 12, 13, 14])
    (.seq (.seq (.reg [
        ⟨(some 75), .mv (.tmp 12), none⟩,
        ⟨(some 76), .un .not (.tmp 75), none⟩,
        ⟨(some 77), .mv (.tmp 76), none⟩,
        ⟨(some 78), .mv (.tmp 14), (some (77, false))⟩,
        ⟨(some 79), .un .not (.tmp 78), (some (77, false))⟩,
        ⟨(some 80), .pick (.tmp 77) (.const (.bool true)) (.tmp 79), none⟩] [2, 7, 8, 9, 11, 13, 80])
    (.cond (.tmp 80)
     (.seq (.reg [
         ⟨(some 81), .build [(.slice none 0 0), (.slice none 0 0)] [], none⟩,
         ⟨none, .store 2 (.tmp 2) (.tmp 81), none⟩,
         ⟨(some 3), .mv (.const (.bool false)), none⟩] [2, 3])
     (.ret))
     (.skip)))
    (.reg [
        ⟨(some 82), .faddr 1 (.tmp 7), none⟩,
        ⟨(some 83), .load 1 false (.tmp 82), none⟩,
        ⟨(some 84), .mv (.tmp 11), none⟩,
        ⟨(some 85), .mv (.tmp 13), none⟩,
        ⟨(some 86), .build [(.int .i64 0), (.int .i64 0)] [(0, 1, (.tmp 84)), (1, 1, (.tmp 85))], none⟩,
        ⟨(some 87), .bslice 38 2 1 [(.int .i64 0), (.int .i64 0)] [(0, (.tmp 86))], none⟩,
        ⟨(some 88), .app 38 2 16 (.tmp 83) (.tmp 87), none⟩,
        ⟨(some 89), .faddr 1 (.tmp 7), none⟩,
        ⟨none, .store 1 (.tmp 89) (.tmp 88), none⟩] [2, 7, 8, 9])))))))
   (.reg [
       ⟨(some 50), .mv (.tmp 9), none⟩,
       ⟨(some 51), .bin .add (.tmp 50) (.const (.int .i64 1)), none⟩,
       ⟨(some 9), .mv (.tmp 51), none⟩] [2, 7, 8, 9]))))))
 (.seq (.seq (.reg [
     ⟨(some 90), .load 2 true (.tmp 7), none⟩,
     ⟨(some 91), .call 12 [(.tmp 90)], none⟩,
     ⟨(some 92), .un .not (.tmp 91), none⟩] [2, 7, 92])
 (.cond (.tmp 92)
  (.seq (.reg [
      ⟨(some 93), .build [(.slice none 0 0), (.slice none 0 0)] [], none⟩,
      ⟨none, .store 2 (.tmp 2) (.tmp 93), none⟩,
      ⟨(some 3), .mv (.const (.bool false)), none⟩] [2, 3])
  (.ret))
  (.skip)))
 (.seq (.reg [
     ⟨(some 94), .load 2 true (.tmp 7), none⟩,
     ⟨none, .store 2 (.tmp 2) (.tmp 94), none⟩,
     ⟨(some 3), .mv (.const (.bool true)), none⟩] [2, 3])
 (.ret))))))))))))
theorem s_spec_ReadGraph : stripF Tryd.prog 4 [[0, 2], [2, 4], [2, 4, 19], [2, 3], [2, 4, 5, 6], [2, 4, 5, 29], [2, 3], [2, 4, 7], [2, 4, 7, 8], [2, 4, 7, 8, 37], [2, 7, 8], [2, 7, 8, 44], [2, 3], [2, 7, 8, 9], [2, 7, 8, 9], [2, 7, 8, 9, 49], [2, 7, 8, 9, 10], [2, 7, 8, 9, 10, 59], [2, 3], [2, 7, 8, 9, 10, 11, 12], [2, 7, 8, 9, 11, 12, 13, 14], [2, 7, 8, 9, 11, 13, 80], [2, 3], [2, 7, 8, 9], [2, 7, 8, 9], [2, 7, 92], [2, 3], [2, 3]] = some (c_spec_ReadGraph, [.cell 2 2, .tmp 3], 95) := by kernel_rfl

/-- loop.example/g00920/spec.ReadList -/
abbrev f_spec_ReadList : Nat := 10
def c_spec_ReadList : SC :=
 .seq (.reg [
     ⟨(some 2), .mv (.const (.slice none 0 0)), none⟩,
     ⟨(some 3), .mv (.const (.bool false)), none⟩] [0])
 (.seq (.seq (.reg [
     ⟨(some 9), .mv (.tmp 0), none⟩,
     ⟨(some 10), .sop (.eql false) [(.tmp 9), (.const (.string ⟨#[45]⟩))], none⟩] [0, 10])
 (.cond (.tmp 10)
  (.seq (.reg [
      ⟨(some 11), .bslice 2 1 0 [] [], none⟩,
      ⟨(some 2), .mv (.tmp 11), none⟩,
      ⟨(some 3), .mv (.const (.bool true)), none⟩] [2, 3])
  (.ret))
  (.skip)))
 (.seq (.reg [
     ⟨(some 12), .mv (.tmp 0), none⟩,
     ⟨(some 13), .call 9 [(.tmp 12), (.const (.int .u8 44))], none⟩,
     ⟨(some 4), .mv (.tmp 13), none⟩] [4])
 (.seq (.seq (.reg [
     ⟨(some 14), .mv (.tmp 4), none⟩,
     ⟨(some 15), .len (.tmp 14), none⟩,
     ⟨(some 16), .bin .gtr (.tmp 15) (.const (.int .i64 100)), none⟩] [4, 16])
 (.cond (.tmp 16)
  (.seq (.reg [
      ⟨(some 2), .mv (.const (.slice none 0 0)), none⟩,
      ⟨(some 3), .mv (.const (.bool false)), none⟩] [2, 3])
  (.ret))
  (.skip)))
 (.seq (.reg [
     ⟨(some 17), .bslice 2 1 0 [] [], none⟩,
     ⟨(some 5), .mv (.tmp 17), none⟩] [4, 5])
 (.seq (.seq (.reg [
     ⟨(some 6), .mv (.const (.int .i64 0)), none⟩] [4, 5, 6])
 (.block 0 (.loop [4, 5, 6]
   (.seq (.seq (.reg [
       ⟨(some 18), .mv (.tmp 6), none⟩,
       ⟨(some 19), .mv (.tmp 4), none⟩,
       ⟨(some 20), .len (.tmp 19), none⟩,
       ⟨(some 21), .bin .lss (.tmp 18) (.tmp 20), none⟩] [4, 5, 6, 21])
   (.cond (.tmp 21)
    (.skip)
    (.exit 0)))
   (.seq (.block 1 (.seq (.reg [
        ⟨(some 25), .mv (.tmp 4), none⟩,
        ⟨(some 26), .mv (.tmp 6), none⟩,
        ⟨(some 27), .iaddr 1 (.tmp 25) (.tmp 26), none⟩,
        ⟨(some 28), .load 1 false (.tmp 27), none⟩,
        ⟨(some 29), .call 11 [(.tmp 28)], none⟩,
        ⟨(some 24), .mv (.tmp 29), none⟩,
        ⟨(some 30), .ext (.tmp 24) 0, none⟩,
        ⟨(some 31), .ext (.tmp 24) 1, none⟩,
        ⟨(some 7), .mv (.tmp 30), none⟩,
        ⟨(some 8), .mv (.tmp 31), none⟩] [4, 5, 6, 7, 8])
    (.seq (.seq (.reg [
        ⟨(some 32), .mv (.tmp 8), none⟩,
        ⟨(some 33), .un .not (.tmp 32), none⟩,
        ⟨(some 34), .mv (.tmp 33), none⟩,
        ⟨(some 35), .mv (.tmp 7), (some (34, false))⟩,
        ⟨(some 36), .call 25 [(.tmp 35), (.const (.int .i64 (-999999999))), (.const (.int .i64 999999999))], (some (34, false))⟩,
        ⟨(some 37), .un .not (.tmp 36), (some (34, false))⟩,
        ⟨(some 38), .pick (.tmp 34) (.const (.bool true)) (.tmp 37), none⟩] [4, 5, 6, 7, 38])
    (.cond (.tmp 38)
     (.seq (.reg [
         ⟨(some 2), .mv (.const (.slice none 0 0)), none⟩,
         ⟨(some 3), .mv (.const (.bool false)), none⟩] [2, 3])
     (.ret))
     (.skip)))
    (.reg [
        ⟨(some 39), .mv (.tmp 5), none⟩,
        ⟨(some 40), .mv (.tmp 7), none⟩,
        ⟨(some 41), .bslice 2 1 1 [(.int .i64 0)] [(0, (.tmp 40))], none⟩,
        ⟨(some 42), .app 2 1 8 (.tmp 39) (.tmp 41), none⟩,
        ⟨(some 5), .mv (.tmp 42), none⟩] [4, 5, 6]))))
   (.reg [
       ⟨(some 22), .mv (.tmp 6), none⟩,
       ⟨(some 23), .bin .add (.tmp 22) (.const (.int .i64 1)), none⟩,
       ⟨(some 6), .mv (.tmp 23), none⟩] [4, 5, 6]))))))
 (.seq (.reg [
     ⟨(some 43), .mv (.tmp 5), none⟩,
     ⟨(some 2), .mv (.tmp 43), none⟩,
     ⟨(some 3), .mv (.const (.bool true)), none⟩] [2, 3])
 (.ret)))))))
theorem s_spec_ReadList : stripF Tryd.prog 10 [[0], [0, 10], [2, 3], [4], [4, 16], [2, 3], [4, 5], [4, 5, 6], [4, 5, 6], [4, 5, 6, 21], [4, 5, 6, 7, 8], [4, 5, 6, 7, 38], [2, 3], [4, 5, 6], [4, 5, 6], [2, 3]] = some (c_spec_ReadList, [.tmp 2, .tmp 3], 44) := by kernel_rfl


def rlV (o : Option (List Int)) : AV := .tup [ilS (o.getD []), Bv o.isSome]
theorem optL_bad {α : Type} {os : List (Option α)} (h : none ∈ os) : optL os = none := by
  cases ho : optL os with
  | none => rfl
  | some l =>
    rw [optL_iff] at ho
    rw [ho] at h
    obtain ⟨x, _, hx⟩ := List.mem_map.1 h
    cases hx
theorem optL_map {α β : Type} {f : α → Option β} {ps : List α} {l : List β} (h : ps.map f = l.map some) : optL (ps.map f) = some l := optL_iff.2 h
theorem optL_at {α β : Type} {f : α → Option β} {ps : List α} {x : α} (hx : x ∈ ps) (h : f x = none) : optL (ps.map f) = none := optL_bad (by rw [← h]; exact List.mem_map_of_mem hx)
theorem specReadList_fn (s : List UInt8) (hs : s.length ≤ 1100000) : PFn Tryd.prog f_spec_ReadList [Tx s] (rlV (rdL s)) := by
  intro H
  refine ACalls.introB s_spec_ReadList (by simp) ?_; intro hB hA; unfold c_spec_ReadList; simp (config := { maxSteps := 1000000 }) (disch := (first | omega | (simp only [go_sem]; try omega))) only [go_sem, Nat.reduceAdd, Nat.reduceEqDiff, Nat.reduceLeDiff, Nat.reduceMul, Nat.reduceLT, reduceIte, Int.reduceToNat, w64_id, cast_succ]
  unfold rdL
  by_cases h45 : s = [45]
  · have d1 : decide (s = [45]) = true := decide_eq_true h45
    rw [if_pos h45]
    repeat (first | (with_reducible first | refine SW.seq ?_ | refine SW.block ?_ | refine SW.rowC ?_ | refine SW.skip ?_ | refine SW.exit ?_ | intro _ | refine And.intro (by omega) ?_) | simp (config := { maxSteps := 1000000 }) (disch := (first | omega | (simp only [go_sem]; try omega))) only [go_sem, Nat.reduceAdd, Nat.reduceEqDiff, Nat.reduceLeDiff, Nat.reduceMul, Nat.reduceLT, reduceIte, Int.reduceToNat, w64_id, cast_succ, d1])
    refine SW.condT rfl ?_
    repeat (first | (with_reducible first | refine SW.seq ?_ | refine SW.block ?_ | refine SW.rowC ?_ | refine SW.skip ?_ | refine SW.exit ?_ | intro _ | refine And.intro (by omega) ?_) | simp (config := { maxSteps := 1000000 }) (disch := (first | omega | (simp only [go_sem]; try omega))) only [go_sem, Nat.reduceAdd, Nat.reduceEqDiff, Nat.reduceLeDiff, Nat.reduceMul, Nat.reduceLT, reduceIte, Int.reduceToNat, w64_id, cast_succ])
    refine SW.ret ⟨_, rfl, ?_⟩
    exact GR.froz (froz_tup2 (froz_rowI (r := H.length) (ver := 0) (ty := 2) (xs := []) (Nat.le_refl _) (by simp)) (froz_B' _)) ⟨rfl, rfl⟩
  rw [if_neg h45]
  have d1 : decide (s = [45]) = false := decide_eq_false h45
  have hmem : ∀ p ∈ spl 44 s, p.length ≤ 2000000 := fun p hp => Nat.le_trans (spl_len hp) (by omega)
  have hsp := l01Split_fn s 44 (by omega)
  generalize spl 44 s = ps at *
  have hbe := fun k => Bel_ilT k ps
  repeat (first | (with_reducible first | refine SW.seq ?_ | refine SW.block ?_ | refine SW.rowC ?_ | refine SW.skip ?_ | refine SW.exit ?_ | intro _ | refine And.intro (by omega) ?_) | simp (config := { maxSteps := 1000000 }) (disch := (first | omega | (simp only [go_sem]; try omega))) only [go_sem, Nat.reduceAdd, Nat.reduceEqDiff, Nat.reduceLeDiff, Nat.reduceMul, Nat.reduceLT, reduceIte, Int.reduceToNat, w64_id, cast_succ, d1])
  refine SW.condF rfl ?_
  by_cases h100 : ps.length ≤ 100
  · have d2 : decide ((100 : Int) < (ps.length : Int)) = false := decide_eq_false (by omega)
    rw [if_pos h100]
    repeat (first | (with_reducible first | refine SW.seq ?_ | refine SW.block ?_ | refine SW.rowC ?_ | refine SW.skip ?_ | refine SW.exit ?_ | refine PFn.use (hsp) ?_ | refine PFn.useq (hsp) ?_ | intro _ | refine And.intro (by omega) ?_) | simp (config := { maxSteps := 1000000 }) (disch := (first | omega | (simp only [go_sem]; try omega))) only [go_sem, Nat.reduceAdd, Nat.reduceEqDiff, Nat.reduceLeDiff, Nat.reduceMul, Nat.reduceLT, reduceIte, Int.reduceToNat, w64_id, cast_succ, d2])
    refine SW.condF rfl ?_
    repeat (first | (with_reducible first | refine SW.seq ?_ | refine SW.block ?_ | refine SW.rowC ?_ | refine SW.skip ?_ | refine SW.exit ?_ | intro _ | refine And.intro (by omega) ?_) | simp (config := { maxSteps := 1000000 }) (disch := (first | omega | (simp only [go_sem]; try omega))) only [go_sem, Nat.reduceAdd, Nat.reduceEqDiff, Nat.reduceLeDiff, Nat.reduceMul, Nat.reduceLT, reduceIte, Int.reduceToNat, w64_id, cast_succ])
    refine SW.loopE (fun E0 H0 q E' H' => ∃ (pre post : List (List UInt8)) (out : List Int) (ver : Nat), ps = pre ++ post ∧ q = post.length ∧ pre.map rdI = out.map some ∧ E' = aput (aput E0 5 (.nm H.length ver 0 out.length)) 6 (I pre.length) ∧ H' = H ++ [⟨ver, 2, 1, out.map I⟩]) ps.length ⟨[], ps, [], 0, rfl, rfl, rfl, rfl, rfl⟩ ?_
    rintro q E' H' ⟨pre, post, out, ver, hq, rfl, ho, rfl, rfl⟩
    have hol : out.length = pre.length := by have := congrArg List.length ho; simpa using this.symm
    simp (config := { maxSteps := 1000000 }) (disch := (first | omega | (simp only [go_sem]; try omega))) only [go_sem, Nat.reduceAdd, Nat.reduceEqDiff, Nat.reduceLeDiff, Nat.reduceMul, Nat.reduceLT, reduceIte, Int.reduceToNat, w64_id, cast_succ]
    repeat (first | (with_reducible first | refine SW.seq ?_ | refine SW.block ?_ | refine SW.rowC ?_ | refine SW.skip ?_ | refine SW.exit ?_ | intro _ | refine And.intro (by omega) ?_) | simp (config := { maxSteps := 1000000 }) (disch := (first | omega | (simp only [go_sem]; try omega))) only [go_sem, Nat.reduceAdd, Nat.reduceEqDiff, Nat.reduceLeDiff, Nat.reduceMul, Nat.reduceLT, reduceIte, Int.reduceToNat, w64_id, cast_succ])
    (first | refine SW.condD rfl (fun h2 => ?_) (fun h2 => ?_) | refine SW.condN rfl (fun h2 => ?_) (fun h2 => ?_) | refine SW.condNB rfl (fun h2 => ?_) (fun h2 => ?_) | refine SW.condB rfl (fun h2 => ?_) (fun h2 => ?_))
    · obtain ⟨x, post, rfl, hg, -⟩ := consOf (d := []) hq (by omega)
      have hx := l01Number_fn x (hmem x (by rw [hq]; simp))
      cases hr : rdN x with
      | none =>
        rw [hr] at hx
        repeat (first | (with_reducible first | refine SW.seq ?_ | refine SW.block ?_ | refine SW.rowC ?_ | refine SW.skip ?_ | refine SW.exit ?_ | refine PFn.use (hx) ?_ | refine PFn.useq (hx) ?_ | intro _ | refine And.intro (by omega) ?_) | simp (config := { maxSteps := 1000000 }) (disch := (first | omega | (simp only [go_sem]; try omega))) only [go_sem, Nat.reduceAdd, Nat.reduceEqDiff, Nat.reduceLeDiff, Nat.reduceMul, Nat.reduceLT, reduceIte, Int.reduceToNat, w64_id, cast_succ, hg, Option.isSome_none, Bool.not_false])
        refine SW.condT rfl ?_
        repeat (first | (with_reducible first | refine SW.seq ?_ | refine SW.block ?_ | refine SW.rowC ?_ | refine SW.skip ?_ | refine SW.exit ?_ | intro _ | refine And.intro (by omega) ?_) | simp (config := { maxSteps := 1000000 }) (disch := (first | omega | (simp only [go_sem]; try omega))) only [go_sem, Nat.reduceAdd, Nat.reduceEqDiff, Nat.reduceLeDiff, Nat.reduceMul, Nat.reduceLT, reduceIte, Int.reduceToNat, w64_id, cast_succ])
        refine SW.ret ⟨_, rfl, ?_⟩
        rw [optL_at (x := x) (f := rdI) (by rw [hq]; simp) (by unfold rdI; rw [hr]; rfl)]
        exact GR.froz (froz_tup2 Froz.nil (froz_B' _)) ⟨rfl, rfl⟩
      | some n =>
        rw [hr] at hx
        have hi := l00In_fn n (-999999999) 999999999
        cases hc : (decide (-999999999 ≤ n) && decide (n ≤ 999999999))
        · rw [hc] at hi
          repeat (first | (with_reducible first | refine SW.seq ?_ | refine SW.block ?_ | refine SW.rowC ?_ | refine SW.skip ?_ | refine SW.exit ?_ | refine PFn.use (hx) ?_ | refine PFn.useq (hx) ?_ | refine PFn.use (hi) ?_ | refine PFn.useq (hi) ?_ | intro _ | refine And.intro (by omega) ?_) | simp (config := { maxSteps := 1000000 }) (disch := (first | omega | (simp only [go_sem]; try omega))) only [go_sem, Nat.reduceAdd, Nat.reduceEqDiff, Nat.reduceLeDiff, Nat.reduceMul, Nat.reduceLT, reduceIte, Int.reduceToNat, w64_id, cast_succ, hg, Option.getD_some, Option.isSome_some])
          refine SW.condT rfl ?_
          repeat (first | (with_reducible first | refine SW.seq ?_ | refine SW.block ?_ | refine SW.rowC ?_ | refine SW.skip ?_ | refine SW.exit ?_ | intro _ | refine And.intro (by omega) ?_) | simp (config := { maxSteps := 1000000 }) (disch := (first | omega | (simp only [go_sem]; try omega))) only [go_sem, Nat.reduceAdd, Nat.reduceEqDiff, Nat.reduceLeDiff, Nat.reduceMul, Nat.reduceLT, reduceIte, Int.reduceToNat, w64_id, cast_succ])
          refine SW.ret ⟨_, rfl, ?_⟩
          rw [optL_at (x := x) (f := rdI) (by rw [hq]; simp) (by unfold rdI; rw [hr, Option.bind_some, hc]; rfl)]
          exact GR.froz (froz_tup2 Froz.nil (froz_B' _)) ⟨rfl, rfl⟩
        · rw [hc] at hi
          repeat (first | (with_reducible first | refine SW.seq ?_ | refine SW.block ?_ | refine SW.rowC ?_ | refine SW.skip ?_ | refine SW.exit ?_ | refine PFn.use (hx) ?_ | refine PFn.useq (hx) ?_ | refine PFn.use (hi) ?_ | refine PFn.useq (hi) ?_ | intro _ | refine And.intro (by omega) ?_) | simp (config := { maxSteps := 1000000 }) (disch := (first | omega | (simp only [go_sem]; try omega))) only [go_sem, Nat.reduceAdd, Nat.reduceEqDiff, Nat.reduceLeDiff, Nat.reduceMul, Nat.reduceLT, reduceIte, Int.reduceToNat, w64_id, cast_succ, hg, Option.getD_some, Option.isSome_some])
          refine SW.condF rfl ?_
          repeat (first | (with_reducible first | refine SW.seq ?_ | refine SW.block ?_ | refine SW.rowC ?_ | refine SW.skip ?_ | refine SW.exit ?_ | intro _ | refine And.intro (by omega) ?_) | simp (config := { maxSteps := 1000000 }) (disch := (first | omega | (simp only [go_sem]; try omega))) only [go_sem, Nat.reduceAdd, Nat.reduceEqDiff, Nat.reduceLeDiff, Nat.reduceMul, Nat.reduceLT, reduceIte, Int.reduceToNat, w64_id, cast_succ])
          have htk : List.take out.length (List.map I out) = List.map I out := List.take_of_length_le (by simp)
          refine SLoop.nextT 1 post.length hB (by omega) (by omega) (by simp) ?_ ?_ ⟨pre ++ [x], post, out ++ [n], ver + 1, by rw [hq]; simp, rfl, ?_, ?_, ?_⟩
          · (simp only [go_sem, Nat.reduceAdd, Nat.reduceEqDiff, reduceIte, go_sem, and_self, and_true, true_and, implies_true, List.take_succ_cons, List.take_zero, and_true, true_and, hbe]; try omega)
          · (simp only [go_sem, Nat.reduceAdd, Nat.reduceEqDiff, reduceIte, go_sem, and_self, and_true, true_and, implies_true, List.take_succ_cons, List.take_zero, and_true, true_and, htk, hbe]; try omega)
          · rw [List.map_append, List.map_append, ho, List.map_singleton, List.map_singleton]
            unfold rdI
            rw [hr, Option.bind_some, hc]; rfl
          · simp only [List.length_append, List.length_singleton]; rfl
          · rw [List.map_append]; simp only [List.take_succ_cons, List.take_zero, htk, List.map_cons, List.map_nil]
    · obtain ⟨rfl, rfl⟩ := nilOf hq (by omega)
      repeat (first | (with_reducible first | refine SW.seq ?_ | refine SW.block ?_ | refine SW.rowC ?_ | refine SW.skip ?_ | refine SW.exit ?_ | intro _ | refine And.intro (by omega) ?_) | simp (config := { maxSteps := 1000000 }) (disch := (first | omega | (simp only [go_sem]; try omega))) only [go_sem, Nat.reduceAdd, Nat.reduceEqDiff, Nat.reduceLeDiff, Nat.reduceMul, Nat.reduceLT, reduceIte, Int.reduceToNat, w64_id, cast_succ])
      refine SW.ret ⟨_, rfl, ?_⟩
      rw [optL_map ho]
      exact GR.froz (froz_tup2 (froz_rowI (r := H.length) (ver := ver) (ty := 2) (Nat.le_refl _) (by simp)) (froz_B' _)) ⟨rfl, rfl⟩
  · have d2 : decide ((100 : Int) < (ps.length : Int)) = true := decide_eq_true (by omega)
    rw [if_neg h100]
    repeat (first | (with_reducible first | refine SW.seq ?_ | refine SW.block ?_ | refine SW.rowC ?_ | refine SW.skip ?_ | refine SW.exit ?_ | refine PFn.use (hsp) ?_ | refine PFn.useq (hsp) ?_ | intro _ | refine And.intro (by omega) ?_) | simp (config := { maxSteps := 1000000 }) (disch := (first | omega | (simp only [go_sem]; try omega))) only [go_sem, Nat.reduceAdd, Nat.reduceEqDiff, Nat.reduceLeDiff, Nat.reduceMul, Nat.reduceLT, reduceIte, Int.reduceToNat, w64_id, cast_succ, d2])
    refine SW.condT rfl ?_
    repeat (first | (with_reducible first | refine SW.seq ?_ | refine SW.block ?_ | refine SW.rowC ?_ | refine SW.skip ?_ | refine SW.exit ?_ | intro _ | refine And.intro (by omega) ?_) | simp (config := { maxSteps := 1000000 }) (disch := (first | omega | (simp only [go_sem]; try omega))) only [go_sem, Nat.reduceAdd, Nat.reduceEqDiff, Nat.reduceLeDiff, Nat.reduceMul, Nat.reduceLT, reduceIte, Int.reduceToNat, w64_id, cast_succ])
    refine SW.ret ⟨_, rfl, ?_⟩
    exact GR.frozP (r' := rlV none) ⟨[], by simp⟩ (froz_tup2 Froz.nil (froz_B' _)) ⟨rfl, rfl⟩
def rgV (o : Option (List Int × List (Int × Int))) : AV := .tup [.agg [ilS (o.getD ([], [])).1, ilE (o.getD ([], [])).2], Bv o.isSome]
theorem rgN_gr {H ext : List Blk} : GR H (fun r H' => r = rgV none ∧ H' = H) (.tup [.agg [nilS, nilS], Bv false]) (H ++ ext) :=
  GR.froz (r' := rgV none) (froz_tup2 (froz_agg2 Froz.nil Froz.nil) (froz_B' _)) ⟨rfl, rfl⟩
theorem rgN_set {H H2 : List Blk} (b2 : H.length + 2 ≤ H2.length) (b3 : ∀ j, j < H.length → H2[j]? = H[j]?) : GR H (fun r H' => r = rgV none ∧ H' = H) (.tup [.agg [nilS, nilS], Bv false]) (H2.set H.length ⟨0, tyGr, 1, [nilS, nilS]⟩) :=
  GR.frozP (r' := rgV none) (prefix_of (by simp; omega) (fun j hj => by rw [List.getElem?_set_ne (by omega)]; exact b3 j hj)) (froz_tup2 (froz_agg2 Froz.nil Froz.nil) (froz_B' _)) ⟨rfl, rfl⟩
theorem specReadGraph_fn (s : List UInt8) (hs : s.length ≤ 1100000) : PFn Tryd.prog f_spec_ReadGraph [Tx s] (rgV (rgR s)) := by
  intro H
  refine ACalls.introB s_spec_ReadGraph (by simp) ?_; intro hB hA; unfold c_spec_ReadGraph; simp (config := { maxSteps := 1000000 }) (disch := (first | omega | (simp only [go_sem]; try omega))) only [go_sem, Nat.reduceAdd, Nat.reduceEqDiff, Nat.reduceLeDiff, Nat.reduceMul, Nat.reduceLT, reduceIte, Int.reduceToNat, w64_id, cast_succ]
  have hsp := l01Split_fn s 59 (by omega)
  unfold rgR
  have hmem : ∀ p ∈ spl 59 s, p.length ≤ s.length := fun p hp => spl_len hp
  generalize spl 59 s = ps at *
  by_cases h2 : ps.length = 2
  · obtain ⟨p, t, rfl⟩ : ∃ p t, ps = [p, t] := by
      match ps, h2 with
      | [p, t], _ => exact ⟨p, t, rfl⟩
    have hlp := hmem p (by simp)
    have hlt := hmem t (by simp)
    rw [if_pos h2]
    have d1 : decide ((([p, t] : List (List UInt8)).length : Int) = 2) = true := rfl
    have hb0 := fun k => Bel_ilT k [p, t]
    have hrl := specReadList_fn p (by omega)
    simp only [List.getD_cons_zero, List.getD_cons_succ]
    cases hr : rdL p with
    | none =>
      rw [hr] at hrl
      unfold rlV at hrl
      repeat (first | (with_reducible first | refine SW.seq ?_ | refine SW.block ?_ | refine SW.rowC ?_ | refine SW.skip ?_ | refine SW.exit ?_ | refine PFn.use (hsp) ?_ | refine PFn.useq (hsp) ?_ | refine PFn.use (hrl) ?_ | refine PFn.useq (hrl) ?_ | intro _ | refine And.intro (by omega) ?_) | simp (config := { maxSteps := 1000000 }) (disch := (first | omega | (simp only [go_sem]; try omega))) only [go_sem, Nat.reduceAdd, Nat.reduceEqDiff, Nat.reduceLeDiff, Nat.reduceMul, Nat.reduceLT, reduceIte, Int.reduceToNat, w64_id, cast_succ, d1])
      refine SW.condF rfl ?_
      repeat (first | (with_reducible first | refine SW.seq ?_ | refine SW.block ?_ | refine SW.rowC ?_ | refine SW.skip ?_ | refine SW.exit ?_ | refine PFn.use (hrl) ?_ | refine PFn.useq (hrl) ?_ | intro _ | refine And.intro (by omega) ?_) | simp (config := { maxSteps := 1000000 }) (disch := (first | omega | (simp only [go_sem]; try omega))) only [go_sem, Nat.reduceAdd, Nat.reduceEqDiff, Nat.reduceLeDiff, Nat.reduceMul, Nat.reduceLT, reduceIte, Int.reduceToNat, w64_id, cast_succ, List.getD_cons_zero])
      refine SW.condT rfl ?_
      repeat (first | (with_reducible first | refine SW.seq ?_ | refine SW.block ?_ | refine SW.rowC ?_ | refine SW.skip ?_ | refine SW.exit ?_ | intro _ | refine And.intro (by omega) ?_) | simp (config := { maxSteps := 1000000 }) (disch := (first | omega | (simp only [go_sem]; try omega))) only [go_sem, Nat.reduceAdd, Nat.reduceEqDiff, Nat.reduceLeDiff, Nat.reduceMul, Nat.reduceLT, reduceIte, Int.reduceToNat, w64_id, cast_succ])
      refine SW.ret ?_
      refine FunPost.cell_tmp (cs := [nilS, nilS]) (by simp (config := { maxSteps := 1000000 }) (disch := (first | omega | (simp only [go_sem]; try omega))) only [go_sem, Nat.reduceAdd, Nat.reduceEqDiff, Nat.reduceLeDiff, Nat.reduceMul, Nat.reduceLT, reduceIte, Int.reduceToNat, w64_id, cast_succ]) ?_
      exact rgN_gr
    | some cols =>
      rw [hr] at hrl
      unfold rlV at hrl
      repeat (first | (with_reducible first | refine SW.seq ?_ | refine SW.block ?_ | refine SW.rowC ?_ | refine SW.skip ?_ | refine SW.exit ?_ | refine PFn.use (hsp) ?_ | refine PFn.useq (hsp) ?_ | intro _ | refine And.intro (by omega) ?_) | simp (config := { maxSteps := 1000000 }) (disch := (first | omega | (simp only [go_sem]; try omega))) only [go_sem, Nat.reduceAdd, Nat.reduceEqDiff, Nat.reduceLeDiff, Nat.reduceMul, Nat.reduceLT, reduceIte, Int.reduceToNat, w64_id, cast_succ, d1])
      refine SW.condF rfl ?_
      repeat (first | (with_reducible first | refine SW.seq ?_ | refine SW.block ?_ | refine SW.rowC ?_ | refine SW.skip ?_ | refine SW.exit ?_ | refine PFn.use (hrl) ?_ | refine PFn.useq (hrl) ?_ | intro _ | refine And.intro (by omega) ?_) | simp (config := { maxSteps := 1000000 }) (disch := (first | omega | (simp only [go_sem]; try omega))) only [go_sem, Nat.reduceAdd, Nat.reduceEqDiff, Nat.reduceLeDiff, Nat.reduceMul, Nat.reduceLT, reduceIte, Int.reduceToNat, w64_id, cast_succ, List.getD_cons_zero, Option.isSome_some, Bool.not_true, Option.getD_some])
      refine SW.condF rfl ?_
      repeat (first | (with_reducible first | refine SW.seq ?_ | refine SW.block ?_ | refine SW.rowC ?_ | refine SW.skip ?_ | refine SW.exit ?_ | intro _ | refine And.intro (by omega) ?_) | simp (config := { maxSteps := 1000000 }) (disch := (first | omega | (simp only [go_sem]; try omega))) only [go_sem, Nat.reduceAdd, Nat.reduceEqDiff, Nat.reduceLeDiff, Nat.reduceMul, Nat.reduceLT, reduceIte, Int.reduceToNat, w64_id, cast_succ, Option.getD_some])
      rw [Option.bind_some]
      have hem : ∀ w ∈ edW t, w.length ≤ 1100000 := fun w hw => Nat.le_trans (edW_len hw) (by omega)
      have hen : (edW t).length ≤ 1200000 := Nat.le_trans (edW_num t) (by omega)
      refine SW.thenZ (fun E' H' => ∃ v, keep [2, 7, 8] E' = [(2, .pc H.length 0 0), (7, .pc (H.length + 1) 0 0), (8, v)] ∧ GBx H [nilS, nilS] [ilS cols, nilS] H' ∧ v.cell1 = true ∧ partsOf v = [v] ∧ ∀ H2 : List Blk, (∀ j, H.length + 2 ≤ j → j < H'.length → H2[j]? = H'[j]?) → aview H2 v = some ((edW t).length, (edW t).map Tx)) ?_ ?_
      · by_cases ht : t = []
        · have d2 : decide (t = []) = true := decide_eq_true ht
          repeat (first | (with_reducible first | refine SW.seq ?_ | refine SW.block ?_ | refine SW.rowC ?_ | refine SW.skip ?_ | refine SW.exit ?_ | intro _ | refine And.intro (by omega) ?_) | simp (config := { maxSteps := 1000000 }) (disch := (first | omega | (simp only [go_sem]; try omega))) only [go_sem, Nat.reduceAdd, Nat.reduceEqDiff, Nat.reduceLeDiff, Nat.reduceMul, Nat.reduceLT, reduceIte, Int.reduceToNat, w64_id, cast_succ, d2, Bool.not_true])
          refine SW.condF rfl ?_
          repeat (first | (with_reducible first | refine SW.seq ?_ | refine SW.block ?_ | refine SW.rowC ?_ | refine SW.skip ?_ | refine SW.exit ?_ | intro _ | refine And.intro (by omega) ?_) | simp (config := { maxSteps := 1000000 }) (disch := (first | omega | (simp only [go_sem]; try omega))) only [go_sem, Nat.reduceAdd, Nat.reduceEqDiff, Nat.reduceLeDiff, Nat.reduceMul, Nat.reduceLT, reduceIte, Int.reduceToNat, w64_id, cast_succ])
          refine ⟨_, rfl, ⟨by simp, by simp, by simp, fun j hj => by rw [List.getElem?_append_left hj]⟩, rfl, rfl, fun H2 h => ?_⟩
          have h3 := h (H.length + 2) (Nat.le_refl _) (by omega)
          have h4 : (H ++ [(⟨0, tyGr, 1, [nilS, nilS]⟩ : Blk), ⟨0, tyGr, 1, [ilS cols, nilS]⟩, ⟨0, 9, 1, []⟩])[H.length + 2]? = some ⟨0, 9, 1, []⟩ := by simp
          have h5 := h3.trans h4
          subst ht
          simp [aview, h5, edW]
        · have d2 : decide (t = []) = false := decide_eq_false ht
          have hst := l01Split_fn t 44 (by omega)
          have hew : edW t = spl 44 t := by unfold edW; rw [if_neg ht]
          rw [← hew] at hst
          repeat (first | (with_reducible first | refine SW.seq ?_ | refine SW.block ?_ | refine SW.rowC ?_ | refine SW.skip ?_ | refine SW.exit ?_ | intro _ | refine And.intro (by omega) ?_) | simp (config := { maxSteps := 1000000 }) (disch := (first | omega | (simp only [go_sem]; try omega))) only [go_sem, Nat.reduceAdd, Nat.reduceEqDiff, Nat.reduceLeDiff, Nat.reduceMul, Nat.reduceLT, reduceIte, Int.reduceToNat, w64_id, cast_succ, d2, Bool.not_false])
          refine SW.condT rfl ?_
          repeat (first | (with_reducible first | refine SW.seq ?_ | refine SW.block ?_ | refine SW.rowC ?_ | refine SW.skip ?_ | refine SW.exit ?_ | refine PFn.use (hst) ?_ | refine PFn.useq (hst) ?_ | intro _ | refine And.intro (by omega) ?_) | simp (config := { maxSteps := 1000000 }) (disch := (first | omega | (simp only [go_sem]; try omega))) only [go_sem, Nat.reduceAdd, Nat.reduceEqDiff, Nat.reduceLeDiff, Nat.reduceMul, Nat.reduceLT, reduceIte, Int.reduceToNat, w64_id, cast_succ, List.getD_cons_succ, List.getD_cons_zero])
          exact ⟨_, rfl, ⟨by simp, by simp, by simp, fun j hj => by rw [List.getElem?_append_left hj]⟩, rfl, rfl, fun H2 h => rfl⟩
      generalize edW t = ls at *
      rintro E' H1 ⟨v, hE', ⟨b0, b1, b2, b3⟩, hv1, hv2, hv⟩
      refine SW.keepZ [2, 7, 8] ?_
      rw [hE']
      have hvw := hv H1 (fun _ _ _ => rfl)
      by_cases h512 : ls.length ≤ 512
      · have d3 : decide ((512 : Int) < (ls.length : Int)) = false := decide_eq_false (by omega)
        rw [if_pos h512]
        repeat (first | (with_reducible first | refine SW.seq ?_ | refine SW.block ?_ | refine SW.rowC ?_ | refine SW.skip ?_ | refine SW.exit ?_ | intro _ | refine And.intro (by omega) ?_) | simp (config := { maxSteps := 1000000 }) (disch := (first | omega | (simp only [go_sem]; try omega))) only [go_sem, Nat.reduceAdd, Nat.reduceEqDiff, Nat.reduceLeDiff, Nat.reduceMul, Nat.reduceLT, reduceIte, Int.reduceToNat, w64_id, cast_succ, hvw, d3])
        refine SW.condF rfl ?_
        repeat (first | (with_reducible first | refine SW.seq ?_ | refine SW.block ?_ | refine SW.rowC ?_ | refine SW.skip ?_ | refine SW.exit ?_ | intro _ | refine And.intro (by omega) ?_) | simp (config := { maxSteps := 1000000 }) (disch := (first | omega | (simp only [go_sem]; try omega))) only [go_sem, Nat.reduceAdd, Nat.reduceEqDiff, Nat.reduceLeDiff, Nat.reduceMul, Nat.reduceLT, reduceIte, Int.reduceToNat, w64_id, cast_succ])
        refine SW.loopE (fun E0 H0 q E' H' => ∃ (pre post : List (List UInt8)) (es : List (Int × Int)) (ev : AV), ls = pre ++ post ∧ q = post.length ∧ pre.map rdE = es.map some ∧ E' = aput E0 9 (I pre.length) ∧ GBx H [nilS, nilS] [ilS cols, ev] H' ∧ GrowF H' H1.length tyE 2 ev es.length (flatE es) ∧ H1.length ≤ H'.length ∧ ∀ j, H.length + 2 ≤ j → j < H1.length → H'[j]? = H1[j]?) ls.length ⟨[], ls, [], nilS, rfl, rfl, rfl, rfl, ⟨b0, b1, b2, b3⟩, .inl ⟨rfl, rfl, rfl⟩, Nat.le_refl _, fun _ _ _ => rfl⟩ ?_
        clear b0 b1 b3 hvw
        rintro q E' H2 ⟨pre, post, es, ev, hq, rfl, hpe, rfl, ⟨b0, b1, b2', b3⟩, hge, hl2, hk2⟩
        have hvw := hv H2 hk2
        have hesl : es.length = pre.length := by have := congrArg List.length hpe; simpa using this.symm
        simp (config := { maxSteps := 1000000 }) (disch := (first | omega | (simp only [go_sem]; try omega))) only [go_sem, Nat.reduceAdd, Nat.reduceEqDiff, Nat.reduceLeDiff, Nat.reduceMul, Nat.reduceLT, reduceIte, Int.reduceToNat, w64_id, cast_succ]
        repeat (first | (with_reducible first | refine SW.seq ?_ | refine SW.block ?_ | refine SW.rowC ?_ | refine SW.skip ?_ | refine SW.exit ?_ | intro _ | refine And.intro (by omega) ?_) | simp (config := { maxSteps := 1000000 }) (disch := (first | omega | (simp only [go_sem]; try omega))) only [go_sem, Nat.reduceAdd, Nat.reduceEqDiff, Nat.reduceLeDiff, Nat.reduceMul, Nat.reduceLT, reduceIte, Int.reduceToNat, w64_id, cast_succ, hvw])
        (first | refine SW.condD rfl (fun h5 => ?_) (fun h5 => ?_) | refine SW.condN rfl (fun h5 => ?_) (fun h5 => ?_) | refine SW.condNB rfl (fun h5 => ?_) (fun h5 => ?_) | refine SW.condB rfl (fun h5 => ?_) (fun h5 => ?_))
        · obtain ⟨w, post, rfl, hg, -⟩ := consOf (d := []) hq (by omega)
          have hwl := hem w (by rw [hq]; simp)
          have hsw := l01Split_fn w 45 (by omega)
          have hwe : rdE w = none → optL (List.map rdE ls) = none := fun h => optL_at (x := w) (f := rdE) (by rw [hq]; simp) h
          have hro : rdE w = if (spl 45 w).length = 2 then (rdN ((spl 45 w).getD 0 [])).bind fun a => (rdN ((spl 45 w).getD 1 [])).map fun b => (a, b) else none := rfl
          have hsl := fun p (hp : p ∈ spl 45 w) => spl_len hp
          have hpe2 : ∀ e, rdE w = some e → (pre ++ [w]).map rdE = (es ++ [e]).map some := fun e he => by rw [List.map_append, List.map_append, hpe, List.map_singleton, List.map_singleton, he]
          generalize spl 45 w = en at *
          generalize rdE w = ro at *
          by_cases hen2 : en.length = 2
          · obtain ⟨x, y, rfl⟩ : ∃ x y, en = [x, y] := by
              match en, hen2 with
              | [x, y], _ => exact ⟨x, y, rfl⟩
            have hlx := hsl x (by simp)
            have hly := hsl y (by simp)
            simp only [List.getD_cons_zero, List.getD_cons_succ] at hro
            have d4 : decide ((([x, y] : List (List UInt8)).length : Int) = 2) = true := rfl
            rw [if_pos hen2] at hro
            have hx := l01Number_fn x (by omega)
            have hy := l01Number_fn y (by omega)
            repeat (first | (with_reducible first | refine SW.seq ?_ | refine SW.block ?_ | refine SW.rowC ?_ | refine SW.skip ?_ | refine SW.exit ?_ | refine PFn.use (hsw) ?_ | refine PFn.useq (hsw) ?_ | intro _ | refine And.intro (by omega) ?_) | simp (config := { maxSteps := 1000000 }) (disch := (first | omega | (simp only [go_sem]; try omega))) only [go_sem, Nat.reduceAdd, Nat.reduceEqDiff, Nat.reduceLeDiff, Nat.reduceMul, Nat.reduceLT, reduceIte, Int.reduceToNat, w64_id, cast_succ, hvw, hg, d4])
            refine SW.condF rfl ?_
            cases hrx : rdN x with
            | none =>
              rw [hrx] at hx
              rw [hwe (by rw [hro, hrx]; rfl)]
              repeat (first | (with_reducible first | refine SW.seq ?_ | refine SW.block ?_ | refine SW.rowC ?_ | refine SW.skip ?_ | refine SW.exit ?_ | refine PFn.use (hx) ?_ | refine PFn.useq (hx) ?_ | refine PFn.use (hy) ?_ | refine PFn.useq (hy) ?_ | intro _ | refine And.intro (by omega) ?_) | simp (config := { maxSteps := 1000000 }) (disch := (first | omega | (simp only [go_sem]; try omega))) only [go_sem, Nat.reduceAdd, Nat.reduceEqDiff, Nat.reduceLeDiff, Nat.reduceMul, Nat.reduceLT, reduceIte, Int.reduceToNat, w64_id, cast_succ, List.getD_cons_zero, List.getD_cons_succ, Option.isSome_none, Bool.not_false])
              refine SW.condT rfl ?_
              repeat (first | (with_reducible first | refine SW.seq ?_ | refine SW.block ?_ | refine SW.rowC ?_ | refine SW.skip ?_ | refine SW.exit ?_ | intro _ | refine And.intro (by omega) ?_) | simp (config := { maxSteps := 1000000 }) (disch := (first | omega | (simp only [go_sem]; try omega))) only [go_sem, Nat.reduceAdd, Nat.reduceEqDiff, Nat.reduceLeDiff, Nat.reduceMul, Nat.reduceLT, reduceIte, Int.reduceToNat, w64_id, cast_succ])
              rw [pc_st b0 (by simp)]
              repeat (first | (with_reducible first | refine SW.seq ?_ | refine SW.block ?_ | refine SW.rowC ?_ | refine SW.skip ?_ | refine SW.exit ?_ | intro _ | refine And.intro (by omega) ?_) | simp (config := { maxSteps := 1000000 }) (disch := (first | omega | (simp only [go_sem]; try omega))) only [go_sem, Nat.reduceAdd, Nat.reduceEqDiff, Nat.reduceLeDiff, Nat.reduceMul, Nat.reduceLT, reduceIte, Int.reduceToNat, w64_id, cast_succ])
              refine SW.ret ?_
              have c0 : (H2.set H.length ⟨0, tyGr, 1, [nilS, nilS]⟩)[H.length]? = some ⟨0, tyGr, 1, [nilS, nilS]⟩ := List.getElem?_set_self (by omega)
              refine FunPost.cell_tmp (cs := [nilS, nilS]) (by simp (config := { maxSteps := 1000000 }) (disch := (first | omega | (simp only [go_sem]; try omega))) only [go_sem, Nat.reduceAdd, Nat.reduceEqDiff, Nat.reduceLeDiff, Nat.reduceMul, Nat.reduceLT, reduceIte, Int.reduceToNat, w64_id, cast_succ, pc_lds c0]) ?_
              exact rgN_set b2' b3
            | some a =>
              rw [hrx] at hx
              cases hry : rdN y with
              | none =>
                rw [hry] at hy
                rw [hwe (by rw [hro, hrx, hry]; rfl)]
                repeat (first | (with_reducible first | refine SW.seq ?_ | refine SW.block ?_ | refine SW.rowC ?_ | refine SW.skip ?_ | refine SW.exit ?_ | refine PFn.use (hx) ?_ | refine PFn.useq (hx) ?_ | refine PFn.use (hy) ?_ | refine PFn.useq (hy) ?_ | intro _ | refine And.intro (by omega) ?_) | simp (config := { maxSteps := 1000000 }) (disch := (first | omega | (simp only [go_sem]; try omega))) only [go_sem, Nat.reduceAdd, Nat.reduceEqDiff, Nat.reduceLeDiff, Nat.reduceMul, Nat.reduceLT, reduceIte, Int.reduceToNat, w64_id, cast_succ, List.getD_cons_zero, List.getD_cons_succ, Option.isSome_none, Option.isSome_some, Bool.not_false, Bool.not_true])
                refine SW.condT rfl ?_
                repeat (first | (with_reducible first | refine SW.seq ?_ | refine SW.block ?_ | refine SW.rowC ?_ | refine SW.skip ?_ | refine SW.exit ?_ | intro _ | refine And.intro (by omega) ?_) | simp (config := { maxSteps := 1000000 }) (disch := (first | omega | (simp only [go_sem]; try omega))) only [go_sem, Nat.reduceAdd, Nat.reduceEqDiff, Nat.reduceLeDiff, Nat.reduceMul, Nat.reduceLT, reduceIte, Int.reduceToNat, w64_id, cast_succ])
                rw [pc_st b0 (by simp)]
                repeat (first | (with_reducible first | refine SW.seq ?_ | refine SW.block ?_ | refine SW.rowC ?_ | refine SW.skip ?_ | refine SW.exit ?_ | intro _ | refine And.intro (by omega) ?_) | simp (config := { maxSteps := 1000000 }) (disch := (first | omega | (simp only [go_sem]; try omega))) only [go_sem, Nat.reduceAdd, Nat.reduceEqDiff, Nat.reduceLeDiff, Nat.reduceMul, Nat.reduceLT, reduceIte, Int.reduceToNat, w64_id, cast_succ])
                refine SW.ret ?_
                have c0 : (H2.set H.length ⟨0, tyGr, 1, [nilS, nilS]⟩)[H.length]? = some ⟨0, tyGr, 1, [nilS, nilS]⟩ := List.getElem?_set_self (by omega)
                refine FunPost.cell_tmp (cs := [nilS, nilS]) (by simp (config := { maxSteps := 1000000 }) (disch := (first | omega | (simp only [go_sem]; try omega))) only [go_sem, Nat.reduceAdd, Nat.reduceEqDiff, Nat.reduceLeDiff, Nat.reduceMul, Nat.reduceLT, reduceIte, Int.reduceToNat, w64_id, cast_succ, pc_lds c0]) ?_
                exact rgN_set b2' b3
              | some b =>
                rw [hry] at hy
                have hpe3 := hpe2 (a, b) (by rw [hro, hrx, hry]; rfl)
                repeat (first | (with_reducible first | refine SW.seq ?_ | refine SW.block ?_ | refine SW.rowC ?_ | refine SW.skip ?_ | refine SW.exit ?_ | refine PFn.use (hx) ?_ | refine PFn.useq (hx) ?_ | refine PFn.use (hy) ?_ | refine PFn.useq (hy) ?_ | intro _ | refine And.intro (by omega) ?_) | simp (config := { maxSteps := 1000000 }) (disch := (first | omega | (simp only [go_sem]; try omega))) only [go_sem, Nat.reduceAdd, Nat.reduceEqDiff, Nat.reduceLeDiff, Nat.reduceMul, Nat.reduceLT, reduceIte, Int.reduceToNat, w64_id, cast_succ, List.getD_cons_zero, List.getD_cons_succ, Option.getD_some, Option.isSome_some, Bool.not_true])
                refine SW.condF rfl ?_
                have nm2 : ∀ (ty : Nat) (a b : AV), NmV 0 0 1 (some ⟨0, ty, 2, [a, b]⟩) = some (1, [a, b]) := fun ty a b => by simp [NmV]
                repeat (first | (with_reducible first | refine SW.seq ?_ | refine SW.block ?_ | refine SW.rowC ?_ | refine SW.skip ?_ | refine SW.exit ?_ | intro _ | refine And.intro (by omega) ?_) | simp (config := { maxSteps := 1000000 }) (disch := (first | omega | (simp only [go_sem]; try omega))) only [go_sem, Nat.reduceAdd, Nat.reduceEqDiff, Nat.reduceLeDiff, Nat.reduceMul, Nat.reduceLT, reduceIte, Int.reduceToNat, w64_id, cast_succ, pc_alive b1, pc_ld b1, nm2])
                refine GrowF.appX hge hl2 rfl (by simp [AV.cell1]; exact ⟨rfl, rfl⟩) (by omega) (by omega) ?_
                intro v3 H3 d1 d2 d3
                have e1 : H3[H.length + 1]? = some ⟨0, tyGr, 1, [ilS cols, ev]⟩ := by rw [d3 _ (by omega)]; exact b1
                repeat (first | (with_reducible first | refine SW.seq ?_ | refine SW.block ?_ | refine SW.rowC ?_ | refine SW.skip ?_ | refine SW.exit ?_ | intro _ | refine And.intro (by omega) ?_) | simp (config := { maxSteps := 1000000 }) (disch := (first | omega | (simp only [go_sem]; try omega))) only [go_sem, Nat.reduceAdd, Nat.reduceEqDiff, Nat.reduceLeDiff, Nat.reduceMul, Nat.reduceLT, reduceIte, Int.reduceToNat, w64_id, cast_succ, pc_alive e1, pc_ld e1, d1.one.1, d1.one.2])
                rw [pc_st e1 (by simp)]
                repeat (first | (with_reducible first | refine SW.seq ?_ | refine SW.block ?_ | refine SW.rowC ?_ | refine SW.skip ?_ | refine SW.exit ?_ | intro _ | refine And.intro (by omega) ?_) | simp (config := { maxSteps := 1000000 }) (disch := (first | omega | (simp only [go_sem]; try omega))) only [go_sem, Nat.reduceAdd, Nat.reduceEqDiff, Nat.reduceLeDiff, Nat.reduceMul, Nat.reduceLT, reduceIte, Int.reduceToNat, w64_id, cast_succ])
                refine SLoop.next post.length (by simp) ⟨pre ++ [w], post, es ++ [(a, b)], v3, by rw [hq]; simp, rfl, hpe3, ?_, ?_, ?_, by simp; omega, ?_⟩
                · simp only [List.length_append, List.length_singleton]; rfl
                · exact GBx.put (base := H1.length) ⟨b0, b1, b2', b3⟩ b2 (by omega) (fun j hj => d3 j hj)
                · rw [flatE_snoc, List.length_append, List.length_singleton]
                  exact d1.same (fun j b h1 h2 => by rw [List.getElem?_set_ne (by omega)]; exact h2)
                · intro j hj1 hj2
                  rw [List.getElem?_set_ne (by omega), d3 _ hj2]; exact hk2 j hj1 hj2
          · have d4 : decide ((en.length : Int) = 2) = false := decide_eq_false (by omega)
            rw [hwe (by rw [hro, if_neg hen2])]
            repeat (first | (with_reducible first | refine SW.seq ?_ | refine SW.block ?_ | refine SW.rowC ?_ | refine SW.skip ?_ | refine SW.exit ?_ | refine PFn.use (hsw) ?_ | refine PFn.useq (hsw) ?_ | intro _ | refine And.intro (by omega) ?_) | simp (config := { maxSteps := 1000000 }) (disch := (first | omega | (simp only [go_sem]; try omega))) only [go_sem, Nat.reduceAdd, Nat.reduceEqDiff, Nat.reduceLeDiff, Nat.reduceMul, Nat.reduceLT, reduceIte, Int.reduceToNat, w64_id, cast_succ, hvw, hg, d4])
            refine SW.condT rfl ?_
            repeat (first | (with_reducible first | refine SW.seq ?_ | refine SW.block ?_ | refine SW.rowC ?_ | refine SW.skip ?_ | refine SW.exit ?_ | intro _ | refine And.intro (by omega) ?_) | simp (config := { maxSteps := 1000000 }) (disch := (first | omega | (simp only [go_sem]; try omega))) only [go_sem, Nat.reduceAdd, Nat.reduceEqDiff, Nat.reduceLeDiff, Nat.reduceMul, Nat.reduceLT, reduceIte, Int.reduceToNat, w64_id, cast_succ])
            rw [pc_st b0 (by simp)]
            repeat (first | (with_reducible first | refine SW.seq ?_ | refine SW.block ?_ | refine SW.rowC ?_ | refine SW.skip ?_ | refine SW.exit ?_ | intro _ | refine And.intro (by omega) ?_) | simp (config := { maxSteps := 1000000 }) (disch := (first | omega | (simp only [go_sem]; try omega))) only [go_sem, Nat.reduceAdd, Nat.reduceEqDiff, Nat.reduceLeDiff, Nat.reduceMul, Nat.reduceLT, reduceIte, Int.reduceToNat, w64_id, cast_succ])
            refine SW.ret ?_
            have c0 : (H2.set H.length ⟨0, tyGr, 1, [nilS, nilS]⟩)[H.length]? = some ⟨0, tyGr, 1, [nilS, nilS]⟩ := List.getElem?_set_self (by omega)
            refine FunPost.cell_tmp (cs := [nilS, nilS]) (by simp (config := { maxSteps := 1000000 }) (disch := (first | omega | (simp only [go_sem]; try omega))) only [go_sem, Nat.reduceAdd, Nat.reduceEqDiff, Nat.reduceLeDiff, Nat.reduceMul, Nat.reduceLT, reduceIte, Int.reduceToNat, w64_id, cast_succ, pc_lds c0]) ?_
            exact rgN_set b2' b3
        · obtain ⟨rfl, rfl⟩ := nilOf hq (by omega)
          rw [optL_map hpe, Option.bind_some]
          have hok : ∀ HH : List Blk, ACalls Tryd.prog f_spec_l21Ok [.agg [ilS cols, ev]] H2 (fun r H' => r = Bv (grB cols es) ∧ H' = H2) := fun _ => (l21Ok_fn cols es).lend (.cons (froz_agg2 (.old _ (by rw [Bel_ilS]; trivial)) (hge.frozE (Nat.zero_le _))) .nil)
          repeat (first | (with_reducible first | refine SW.seq ?_ | refine SW.block ?_ | refine SW.rowC ?_ | refine SW.skip ?_ | refine SW.exit ?_ | intro _ | refine And.intro (by omega) ?_) | simp (config := { maxSteps := 1000000 }) (disch := (first | omega | (simp only [go_sem]; try omega))) only [go_sem, Nat.reduceAdd, Nat.reduceEqDiff, Nat.reduceLeDiff, Nat.reduceMul, Nat.reduceLT, reduceIte, Int.reduceToNat, w64_id, cast_succ, hvw, pc_lds b1, pc_alive b1, pc_ld b1])
          refine ACalls.fn (hok []) ?_
          cases hgb : grB cols es
          · rw [if_neg (by simp)]
            repeat (first | (with_reducible first | refine SW.seq ?_ | refine SW.block ?_ | refine SW.rowC ?_ | refine SW.skip ?_ | refine SW.exit ?_ | intro _ | refine And.intro (by omega) ?_) | simp (config := { maxSteps := 1000000 }) (disch := (first | omega | (simp only [go_sem]; try omega))) only [go_sem, Nat.reduceAdd, Nat.reduceEqDiff, Nat.reduceLeDiff, Nat.reduceMul, Nat.reduceLT, reduceIte, Int.reduceToNat, w64_id, cast_succ])
            refine SW.condT rfl ?_
            repeat (first | (with_reducible first | refine SW.seq ?_ | refine SW.block ?_ | refine SW.rowC ?_ | refine SW.skip ?_ | refine SW.exit ?_ | intro _ | refine And.intro (by omega) ?_) | simp (config := { maxSteps := 1000000 }) (disch := (first | omega | (simp only [go_sem]; try omega))) only [go_sem, Nat.reduceAdd, Nat.reduceEqDiff, Nat.reduceLeDiff, Nat.reduceMul, Nat.reduceLT, reduceIte, Int.reduceToNat, w64_id, cast_succ])
            rw [pc_st b0 (by simp)]
            repeat (first | (with_reducible first | refine SW.seq ?_ | refine SW.block ?_ | refine SW.rowC ?_ | refine SW.skip ?_ | refine SW.exit ?_ | intro _ | refine And.intro (by omega) ?_) | simp (config := { maxSteps := 1000000 }) (disch := (first | omega | (simp only [go_sem]; try omega))) only [go_sem, Nat.reduceAdd, Nat.reduceEqDiff, Nat.reduceLeDiff, Nat.reduceMul, Nat.reduceLT, reduceIte, Int.reduceToNat, w64_id, cast_succ])
            refine SW.ret ?_
            have c0 : (H2.set H.length ⟨0, tyGr, 1, [nilS, nilS]⟩)[H.length]? = some ⟨0, tyGr, 1, [nilS, nilS]⟩ := List.getElem?_set_self (by omega)
            refine FunPost.cell_tmp (cs := [nilS, nilS]) (by simp (config := { maxSteps := 1000000 }) (disch := (first | omega | (simp only [go_sem]; try omega))) only [go_sem, Nat.reduceAdd, Nat.reduceEqDiff, Nat.reduceLeDiff, Nat.reduceMul, Nat.reduceLT, reduceIte, Int.reduceToNat, w64_id, cast_succ, pc_lds c0]) ?_
            exact rgN_set b2' b3
          · rw [if_pos rfl]
            repeat (first | (with_reducible first | refine SW.seq ?_ | refine SW.block ?_ | refine SW.rowC ?_ | refine SW.skip ?_ | refine SW.exit ?_ | intro _ | refine And.intro (by omega) ?_) | simp (config := { maxSteps := 1000000 }) (disch := (first | omega | (simp only [go_sem]; try omega))) only [go_sem, Nat.reduceAdd, Nat.reduceEqDiff, Nat.reduceLeDiff, Nat.reduceMul, Nat.reduceLT, reduceIte, Int.reduceToNat, w64_id, cast_succ])
            refine SW.condF rfl ?_
            repeat (first | (with_reducible first | refine SW.seq ?_ | refine SW.block ?_ | refine SW.rowC ?_ | refine SW.skip ?_ | refine SW.exit ?_ | intro _ | refine And.intro (by omega) ?_) | simp (config := { maxSteps := 1000000 }) (disch := (first | omega | (simp only [go_sem]; try omega))) only [go_sem, Nat.reduceAdd, Nat.reduceEqDiff, Nat.reduceLeDiff, Nat.reduceMul, Nat.reduceLT, reduceIte, Int.reduceToNat, w64_id, cast_succ, pc_lds b1, pc_alive b1, pc_ld b1, hge.one.1, hge.one.2])
            rw [pc_st b0 (by simp)]
            repeat (first | (with_reducible first | refine SW.seq ?_ | refine SW.block ?_ | refine SW.rowC ?_ | refine SW.skip ?_ | refine SW.exit ?_ | intro _ | refine And.intro (by omega) ?_) | simp (config := { maxSteps := 1000000 }) (disch := (first | omega | (simp only [go_sem]; try omega))) only [go_sem, Nat.reduceAdd, Nat.reduceEqDiff, Nat.reduceLeDiff, Nat.reduceMul, Nat.reduceLT, reduceIte, Int.reduceToNat, w64_id, cast_succ])
            refine SW.ret ?_
            have c0 : (H2.set H.length ⟨0, tyGr, 1, [ilS cols, ev]⟩)[H.length]? = some ⟨0, tyGr, 1, [ilS cols, ev]⟩ := List.getElem?_set_self (by omega)
            refine FunPost.cell_tmp (cs := [ilS cols, ev]) (by simp (config := { maxSteps := 1000000 }) (disch := (first | omega | (simp only [go_sem]; try omega))) only [go_sem, Nat.reduceAdd, Nat.reduceEqDiff, Nat.reduceLeDiff, Nat.reduceMul, Nat.reduceLT, reduceIte, Int.reduceToNat, w64_id, cast_succ, pc_lds c0]) ?_
            refine GR.frozP (prefix_of (by simp; omega) (fun j hj => by rw [List.getElem?_set_ne (by omega)]; exact b3 j hj)) (r' := rgV (some (cols, es))) (froz_tup2 (froz_agg2 (.old _ (by rw [Bel_ilS]; trivial)) ?_) (froz_B' _)) ⟨rfl, rfl⟩
            exact (hge.same (fun j b h1 h2 => by rw [List.getElem?_set_ne (by omega)]; exact h2)).frozE (by omega)
      · have d3 : decide ((512 : Int) < (ls.length : Int)) = true := decide_eq_true (by omega)
        rw [if_neg h512]
        repeat (first | (with_reducible first | refine SW.seq ?_ | refine SW.block ?_ | refine SW.rowC ?_ | refine SW.skip ?_ | refine SW.exit ?_ | intro _ | refine And.intro (by omega) ?_) | simp (config := { maxSteps := 1000000 }) (disch := (first | omega | (simp only [go_sem]; try omega))) only [go_sem, Nat.reduceAdd, Nat.reduceEqDiff, Nat.reduceLeDiff, Nat.reduceMul, Nat.reduceLT, reduceIte, Int.reduceToNat, w64_id, cast_succ, hvw, d3])
        refine SW.condT rfl ?_
        repeat (first | (with_reducible first | refine SW.seq ?_ | refine SW.block ?_ | refine SW.rowC ?_ | refine SW.skip ?_ | refine SW.exit ?_ | intro _ | refine And.intro (by omega) ?_) | simp (config := { maxSteps := 1000000 }) (disch := (first | omega | (simp only [go_sem]; try omega))) only [go_sem, Nat.reduceAdd, Nat.reduceEqDiff, Nat.reduceLeDiff, Nat.reduceMul, Nat.reduceLT, reduceIte, Int.reduceToNat, w64_id, cast_succ])
        rw [pc_st b0 (by simp)]
        repeat (first | (with_reducible first | refine SW.seq ?_ | refine SW.block ?_ | refine SW.rowC ?_ | refine SW.skip ?_ | refine SW.exit ?_ | intro _ | refine And.intro (by omega) ?_) | simp (config := { maxSteps := 1000000 }) (disch := (first | omega | (simp only [go_sem]; try omega))) only [go_sem, Nat.reduceAdd, Nat.reduceEqDiff, Nat.reduceLeDiff, Nat.reduceMul, Nat.reduceLT, reduceIte, Int.reduceToNat, w64_id, cast_succ])
        refine SW.ret ?_
        have c0 : (H1.set H.length ⟨0, tyGr, 1, [nilS, nilS]⟩)[H.length]? = some ⟨0, tyGr, 1, [nilS, nilS]⟩ := List.getElem?_set_self (by omega)
        refine FunPost.cell_tmp (cs := [nilS, nilS]) (by simp (config := { maxSteps := 1000000 }) (disch := (first | omega | (simp only [go_sem]; try omega))) only [go_sem, Nat.reduceAdd, Nat.reduceEqDiff, Nat.reduceLeDiff, Nat.reduceMul, Nat.reduceLT, reduceIte, Int.reduceToNat, w64_id, cast_succ, pc_lds c0]) ?_
        exact rgN_set b2 b3
  · rw [if_neg h2]
    have d1 : decide ((ps.length : Int) = 2) = false := decide_eq_false (by omega)
    repeat (first | (with_reducible first | refine SW.seq ?_ | refine SW.block ?_ | refine SW.rowC ?_ | refine SW.skip ?_ | refine SW.exit ?_ | refine PFn.use (hsp) ?_ | refine PFn.useq (hsp) ?_ | intro _ | refine And.intro (by omega) ?_) | simp (config := { maxSteps := 1000000 }) (disch := (first | omega | (simp only [go_sem]; try omega))) only [go_sem, Nat.reduceAdd, Nat.reduceEqDiff, Nat.reduceLeDiff, Nat.reduceMul, Nat.reduceLT, reduceIte, Int.reduceToNat, w64_id, cast_succ, d1])
    refine SW.condT rfl ?_
    repeat (first | (with_reducible first | refine SW.seq ?_ | refine SW.block ?_ | refine SW.rowC ?_ | refine SW.skip ?_ | refine SW.exit ?_ | intro _ | refine And.intro (by omega) ?_) | simp (config := { maxSteps := 1000000 }) (disch := (first | omega | (simp only [go_sem]; try omega))) only [go_sem, Nat.reduceAdd, Nat.reduceEqDiff, Nat.reduceLeDiff, Nat.reduceMul, Nat.reduceLT, reduceIte, Int.reduceToNat, w64_id, cast_succ])
    refine SW.ret ?_
    refine FunPost.cell_tmp (cs := [nilS, nilS]) (by simp (config := { maxSteps := 1000000 }) (disch := (first | omega | (simp only [go_sem]; try omega))) only [go_sem, Nat.reduceAdd, Nat.reduceEqDiff, Nat.reduceLeDiff, Nat.reduceMul, Nat.reduceLT, reduceIte, Int.reduceToNat, w64_id, cast_succ]) ?_
    exact rgN_gr
end Go.Proofs.YtdgcgckehihboaaDoor
