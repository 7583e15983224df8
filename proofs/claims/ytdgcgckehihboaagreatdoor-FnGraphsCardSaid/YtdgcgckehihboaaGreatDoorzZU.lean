/- Graphs: the law. DOORT -/
import Derived.Test.YtdgcgckehihboaaGreatDoorProg
import Derived.KernelRfl
import Derived.Test.YtdgcgckehihboaaGreatDoorzZT
import Derived.Test.YtdgcgckehihboaaGreatDoorzZO
import Derived.Test.YtdgcgckehihboaaGreatDoorzZQ
import Derived.Test.YtdgcgckehihboaaGreatDoorzZN
import Derived.Test.YtdgcgckehihboaaGreatDoorRows
import Derived.Shelf.Vars
import Derived.Stop.LaidErr
import Derived.MakeChecks
import Derived.Lib.LaidTab
set_option linter.unusedSimpArgs false
set_option linter.unusedVariables false
set_option linter.unusedSectionVars false
set_option maxHeartbeats 4000000
set_option maxRecDepth 100000
namespace Go.Proofs.YtdgcgckehihboaaGreatDoor
variable [Go.Av.DoorC] [Go.Proofs.YtdgcgckehihboaaGreatDoor.DoorT]
open Go.Av
abbrev f_laws_FnGraphs : Nat := 3
def c_laws_FnGraphs : SC :=
 .seq (.reg [
     ⟨(some 4), .mv (.const (.bool false)), none⟩] [0, 1])
 (.seq (.seq (.reg [
     ⟨(some 21), .mv (.tmp 0), none⟩,
     ⟨(some 22), .call 4 [(.tmp 21)], none⟩,
     ⟨(some 23), .mv (.tmp 22), none⟩,
     ⟨(some 24), .mv (.tmp 1), (some (23, false))⟩,
     ⟨(some 25), .call 4 [(.tmp 24)], (some (23, false))⟩,
     ⟨(some 26), .pick (.tmp 23) (.const (.bool true)) (.tmp 25), none⟩] [0, 1, 26])
 (.cond (.tmp 26)
  (.seq (.reg [
      ⟨(some 4), .mv (.const (.bool true)), none⟩] [4])
  (.ret))
  (.skip)))
 (.seq (.reg [
     ⟨(some 27), .mv (.tmp 0), none⟩,
     ⟨(some 28), .call 5 [(.tmp 27)], none⟩,
     ⟨(some 5), .alloc 27 [(.slice none 0 0), (.slice none 0 0)], none⟩,
     ⟨none, .store 2 (.tmp 5) (.tmp 28), none⟩] [1, 5])
 (.seq (.reg [
     ⟨(some 30), .load 2 true (.tmp 5), none⟩,
     ⟨(some 31), .call 7 [(.tmp 30)], none⟩,
     ⟨(some 32), .call 6 [(.tmp 31)], none⟩,
     ⟨(some 29), .mv (.tmp 32), none⟩,
     ⟨(some 33), .ext (.tmp 29) 0, none⟩,
     ⟨(some 34), .ext (.tmp 29) 1, none⟩,
     ⟨(some 6), .alloc 27 [(.slice none 0 0), (.slice none 0 0)], none⟩,
     ⟨none, .store 2 (.tmp 6) (.tmp 33), none⟩,
     ⟨(some 7), .mv (.tmp 34), none⟩] [1, 5, 6, 7])
 (.seq (.seq (.reg [
     ⟨(some 35), .load 2 true (.tmp 5), none⟩,
     ⟨(some 36), .call 8 [(.tmp 35)], none⟩,
     ⟨(some 37), .un .not (.tmp 36), none⟩] [1, 5, 6, 7, 37])
 (.cond (.tmp 37)
  (.seq (.reg [
      ⟨(some 38), .mv (.tmp 7), none⟩,
      ⟨(some 39), .un .not (.tmp 38), none⟩,
      ⟨(some 4), .mv (.tmp 39), none⟩] [4])
  (.ret))
  (.skip)))
 (.seq (.seq (.reg [
     ⟨(some 40), .mv (.tmp 7), none⟩,
     ⟨(some 41), .un .not (.tmp 40), none⟩,
     ⟨(some 42), .mv (.tmp 41), none⟩,
     ⟨(some 43), .load 2 true (.tmp 6), (some (42, false))⟩,
     ⟨(some 44), .load 2 true (.tmp 5), (some (42, false))⟩,
     ⟨(some 45), .call 9 [(.tmp 43), (.tmp 44)], (some (42, false))⟩,
     ⟨(some 46), .un .not (.tmp 45), (some (42, false))⟩,
     ⟨(some 47), .pick (.tmp 42) (.const (.bool true)) (.tmp 46), none⟩] [1, 5, 47])
 (.cond (.tmp 47)
  (.seq (.reg [
      ⟨(some 4), .mv (.const (.bool false)), none⟩] [4])
  (.ret))
  (.skip)))
 (.seq (.reg [
     ⟨(some 48), .faddr 0 (.tmp 5), none⟩,
     ⟨(some 49), .load 1 false (.tmp 48), none⟩,
     ⟨(some 50), .len (.tmp 49), none⟩,
     ⟨(some 8), .mv (.tmp 50), none⟩] [1, 5, 8])
 (.seq (.reg [
     ⟨(some 51), .mv (.tmp 1), none⟩,
     ⟨(some 52), .mv (.tmp 8), none⟩,
     ⟨(some 53), .call 10 [(.tmp 51), (.tmp 52)], none⟩,
     ⟨(some 9), .mv (.tmp 53), none⟩] [5, 8, 9])
 (.seq (.reg [
     ⟨(some 54), .bslice 2 1 0 [] [], none⟩,
     ⟨(some 10), .mv (.tmp 54), none⟩] [5, 8, 9, 10])
 (.seq (.seq (.reg [
     ⟨(some 11), .mv (.const (.int .i64 0)), none⟩] [5, 8, 9, 10, 11])
 (.block 0 (.loop [5, 8, 9, 10, 11]
   (.seq (.seq (.reg [
       ⟨(some 55), .mv (.tmp 11), none⟩,
       ⟨(some 56), .mv (.tmp 8), none⟩,
       ⟨(some 57), .bin .lss (.tmp 55) (.tmp 56), none⟩] [5, 8, 9, 10, 11, 57])
   (.cond (.tmp 57)
    (.skip)
    (.exit 0)))
   (.seq (.block 1 (.reg [
        ⟨(some 60), .mv (.tmp 10), none⟩,
        ⟨(some 61), .bslice 2 1 1 [(.int .i64 0)] [(0, (.const (.int .i64 0)))], none⟩,
        ⟨(some 62), .app 2 1 8 (.tmp 60) (.tmp 61), none⟩,
        ⟨(some 10), .mv (.tmp 62), none⟩] [5, 8, 9, 10, 11]))
   (.reg [
       ⟨(some 58), .mv (.tmp 11), none⟩,
       ⟨(some 59), .bin .add (.tmp 58) (.const (.int .i64 1)), none⟩,
       ⟨(some 11), .mv (.tmp 59), none⟩] [5, 8, 9, 10, 11]))))))
 (.seq (.seq (.reg [
     ⟨(some 12), .mv (.const (.int .i64 0)), none⟩] [5, 8, 9, 10, 12])
 (.block 2 (.loop [5, 8, 9, 10, 12]
   (.seq (.seq (.reg [
       ⟨(some 63), .mv (.tmp 12), none⟩,
       ⟨(some 64), .mv (.tmp 8), none⟩,
       ⟨(some 65), .bin .lss (.tmp 63) (.tmp 64), none⟩] [5, 8, 9, 10, 12, 65])
   (.cond (.tmp 65)
    (.skip)
    (.exit 2)))
   (.seq (.block 3 (.reg [
        ⟨(some 68), .mv (.tmp 10), none⟩,
        ⟨(some 69), .mv (.tmp 9), none⟩,
        ⟨(some 70), .mv (.tmp 12), none⟩,
        ⟨(some 71), .iaddr 1 (.tmp 69) (.tmp 70), none⟩,
        ⟨(some 72), .load 1 false (.tmp 71), none⟩,
        ⟨(some 73), .mv (.tmp 12), none⟩,
        ⟨(some 74), .iaddr 1 (.tmp 68) (.tmp 72), none⟩,
        ⟨none, .store 1 (.tmp 74) (.tmp 73), none⟩] [5, 8, 9, 10, 12]))
   (.reg [
       ⟨(some 66), .mv (.tmp 12), none⟩,
       ⟨(some 67), .bin .add (.tmp 66) (.const (.int .i64 1)), none⟩,
       ⟨(some 12), .mv (.tmp 67), none⟩] [5, 8, 9, 10, 12]))))))
 (.seq (.reg [
     ⟨(some 76), .load 2 true (.tmp 5), none⟩,
     ⟨(some 77), .mv (.tmp 9), none⟩,
     ⟨(some 78), .call 11 [(.tmp 76), (.tmp 77)], none⟩,
     ⟨(some 75), .mv (.tmp 78), none⟩,
     ⟨(some 79), .ext (.tmp 75) 0, none⟩,
     ⟨(some 80), .ext (.tmp 75) 1, none⟩,
     ⟨(some 13), .alloc 27 [(.slice none 0 0), (.slice none 0 0)], none⟩,
     ⟨none, .store 2 (.tmp 13) (.tmp 79), none⟩,
     ⟨(some 14), .mv (.tmp 80), none⟩] [5, 8, 10, 13, 14])
 (.seq (.reg [
     ⟨(some 82), .load 2 true (.tmp 13), none⟩,
     ⟨(some 83), .mv (.tmp 10), none⟩,
     ⟨(some 84), .call 11 [(.tmp 82), (.tmp 83)], none⟩,
     ⟨(some 81), .mv (.tmp 84), none⟩,
     ⟨(some 85), .ext (.tmp 81) 0, none⟩,
     ⟨(some 86), .ext (.tmp 81) 1, none⟩,
     ⟨(some 15), .alloc 27 [(.slice none 0 0), (.slice none 0 0)], none⟩,
     ⟨none, .store 2 (.tmp 15) (.tmp 85), none⟩,
     ⟨(some 16), .mv (.tmp 86), none⟩] [5, 8, 13, 14, 15, 16])
 (.seq (.seq (.reg [
     ⟨(some 87), .mv (.tmp 14), none⟩,
     ⟨(some 88), .bin .neq (.tmp 87) (.const (.int .i64 0)), none⟩,
     ⟨(some 89), .mv (.tmp 88), none⟩,
     ⟨(some 90), .mv (.tmp 16), (some (89, false))⟩,
     ⟨(some 91), .bin .neq (.tmp 90) (.const (.int .i64 0)), (some (89, false))⟩,
     ⟨(some 92), .pick (.tmp 89) (.const (.bool true)) (.tmp 91), none⟩,
     ⟨(some 93), .mv (.tmp 92), none⟩,
     ⟨(some 94), .load 2 true (.tmp 15), (some (93, false))⟩,
     ⟨(some 95), .load 2 true (.tmp 5), (some (93, false))⟩,
     ⟨(some 96), .call 9 [(.tmp 94), (.tmp 95)], (some (93, false))⟩,
     ⟨(some 97), .un .not (.tmp 96), (some (93, false))⟩,
     ⟨(some 98), .pick (.tmp 93) (.const (.bool true)) (.tmp 97), none⟩,
     ⟨(some 99), .mv (.tmp 98), none⟩,
     ⟨(some 100), .load 2 true (.tmp 13), (some (99, false))⟩,
     ⟨(some 101), .call 12 [(.tmp 100)], (some (99, false))⟩,
     ⟨(some 102), .un .not (.tmp 101), (some (99, false))⟩,
     ⟨(some 103), .pick (.tmp 99) (.const (.bool true)) (.tmp 102), none⟩] [5, 8, 103])
 (.cond (.tmp 103)
  (.seq (.reg [
      ⟨(some 4), .mv (.const (.bool false)), none⟩] [4])
  (.ret))
  (.skip)))
 (.seq (.reg [
     ⟨(some 105), .load 2 true (.tmp 5), none⟩,
     ⟨(some 106), .call 13 [(.tmp 105)], none⟩,
     ⟨(some 104), .mv (.tmp 106), none⟩,
     ⟨(some 107), .ext (.tmp 104) 0, none⟩,
     ⟨(some 108), .ext (.tmp 104) 1, none⟩,
     ⟨(some 17), .alloc 27 [(.slice none 0 0), (.slice none 0 0)], none⟩,
     ⟨none, .store 2 (.tmp 17) (.tmp 107), none⟩,
     ⟨(some 18), .mv (.tmp 108), none⟩] [5, 8, 17, 18])
 (.seq (.seq (.reg [
     ⟨(some 109), .mv (.tmp 18), none⟩,
     ⟨(some 110), .bin .neq (.tmp 109) (.const (.int .i64 0)), none⟩] [5, 8, 17, 18, 110])
 (.cond (.tmp 110)
  (.seq (.reg [
      ⟨(some 111), .mv (.tmp 18), none⟩,
      ⟨(some 112), .bin .eql (.tmp 111) (.const (.int .i64 5)), none⟩,
      ⟨(some 4), .mv (.tmp 112), none⟩] [4])
  (.ret))
  (.skip)))
 (.seq (.reg [
     ⟨(some 114), .load 2 true (.tmp 17), none⟩,
     ⟨(some 115), .call 13 [(.tmp 114)], none⟩,
     ⟨(some 113), .mv (.tmp 115), none⟩,
     ⟨(some 116), .ext (.tmp 113) 0, none⟩,
     ⟨(some 117), .ext (.tmp 113) 1, none⟩,
     ⟨(some 19), .alloc 27 [(.slice none 0 0), (.slice none 0 0)], none⟩,
     ⟨none, .store 2 (.tmp 19) (.tmp 116), none⟩,
     ⟨(some 20), .mv (.tmp 117), none⟩] [5, 8, 17, 19, 20])
 (.seq (.reg [
     ⟨(some 118), .mv (.tmp 20), none⟩,
     ⟨(some 119), .bin .eql (.tmp 118) (.const (.int .i64 0)), none⟩,
     ⟨(some 120), .mv (.tmp 119), none⟩,
     ⟨(some 121), .load 2 true (.tmp 19), (some (120, true))⟩,
     ⟨(some 122), .load 2 true (.tmp 5), (some (120, true))⟩,
     ⟨(some 123), .call 9 [(.tmp 121), (.tmp 122)], (some (120, true))⟩,
     ⟨(some 124), .pick (.tmp 120) (.tmp 123) (.const (.bool false)), none⟩,
     ⟨(some 125), .mv (.tmp 124), none⟩,
     ⟨(some 126), .faddr 1 (.tmp 17), (some (125, true))⟩,
     ⟨(some 127), .load 1 false (.tmp 126), (some (125, true))⟩,
     ⟨(some 128), .len (.tmp 127), (some (125, true))⟩,
     ⟨(some 129), .faddr 1 (.tmp 5), (some (125, true))⟩,
     ⟨(some 130), .load 1 false (.tmp 129), (some (125, true))⟩,
     ⟨(some 131), .len (.tmp 130), (some (125, true))⟩,
     ⟨(some 132), .bin .add (.tmp 128) (.tmp 131), (some (125, true))⟩,
     ⟨(some 133), .mv (.tmp 8), (some (125, true))⟩,
     ⟨(some 134), .mv (.tmp 8), (some (125, true))⟩,
     ⟨(some 135), .bin .sub (.tmp 134) (.const (.int .i64 1)), (some (125, true))⟩,
     ⟨(some 136), .bin .mul (.tmp 133) (.tmp 135), (some (125, true))⟩,
     ⟨(some 137), .bin .quo (.tmp 136) (.const (.int .i64 2)), (some (125, true))⟩,
     ⟨(some 138), .bin .eql (.tmp 132) (.tmp 137), (some (125, true))⟩,
     ⟨(some 139), .pick (.tmp 125) (.tmp 138) (.const (.bool false)), none⟩,
     ⟨(some 4), .mv (.tmp 139), none⟩] [4])
 (.ret))))))))))))))))))
theorem s_laws_FnGraphs : stripF Tryz.prog 3 [[0, 1], [0, 1, 26], [4], [1, 5], [1, 5, 6, 7], [1, 5, 6, 7, 37], [4], [1, 5, 47], [4], [1, 5, 8], [5, 8, 9], [5, 8, 9, 10], [5, 8, 9, 10, 11], [5, 8, 9, 10, 11], [5, 8, 9, 10, 11, 57], [5, 8, 9, 10, 11], [5, 8, 9, 10, 11], [5, 8, 9, 10, 12], [5, 8, 9, 10, 12], [5, 8, 9, 10, 12, 65], [5, 8, 9, 10, 12], [5, 8, 9, 10, 12], [5, 8, 10, 13, 14], [5, 8, 13, 14, 15, 16], [5, 8, 103], [4], [5, 8, 17, 18], [5, 8, 17, 18, 110], [4], [5, 8, 17, 19, 20], [4]] = some (c_laws_FnGraphs, [.tmp 4], 140) := by kernel_rfl
theorem rgP_nil : rgP [] = none := by
  cases h : rgP [] with
  | none => rfl
  | some g =>
    have h2 := ((rgP_iff [] g).1 h).2
    unfold gtx at h2
    simp at h2
theorem gtx_len {cols : List Int} {es : List (Int × Int)} (h : grB cols es = true) : (gtx cols es).length ≤ 100000 := by
  obtain ⟨b1, b2, b3, b4⟩ := grB_facts h
  have h1 : (ltx cols).length ≤ 5000 := by
    unfold ltx
    split
    · simp
    · have := join_len (m := 19) (sep := 44) (xs := cols.map Lib.itoa) (fun p hp => by obtain ⟨n, hn, rfl⟩ := List.mem_map.1 hp; have := b2 n hn; exact itoa_len (by omega))
      rw [List.length_map] at this
      omega
  have h2 := join_len (m := 40) (sep := 44) (xs := es.map etx) (fun p hp => by obtain ⟨e, he, rfl⟩ := List.mem_map.1 hp; have := b4 e he; exact etx_len (by omega) (by omega))
  rw [List.length_map] at h2
  unfold gtx
  rw [List.length_append, List.length_cons]
  omega
theorem ren_of_frozR {H : List Blk} {b : Nat} {a a' : AV} (h : Froz H b a a') : Ren H b [] a a' := by
  induction h with
  | old c h => exact .old c h
  | nil => exact .nilF
  | nm i ver off len kb cs hb hk hv hl _ ih => exact .fz i ver off len kb cs hb (by simp) hk hv hl ih
  | agg cs cs' hl _ ih => exact .agg cs cs' hl ih
  | tup cs cs' hl _ ih => exact .tup cs cs' hl ih
theorem grB_eds {cols : List Int} {es : List (Int × Int)} (h : grB cols es = true) : edsB cols.length es = true := by
  unfold grB at h
  rw [Bool.and_eq_true] at h
  exact h.1
theorem appNS {X : List Blk} {t ver n ty sz bytes : Nat} {cells cs : List AV} {K : AV → List Blk → Prop} (hl : n * sz ≤ cells.length) (hn : (n + 1) * bytes ≤ 140737488355328) (hn2 : n + 1 ≤ 140737488355328) (hk : K (.nm t (ver + 1) 0 (n + 1)) (X.set t ⟨ver + 1, ty, sz, cells.take (n * sz) ++ cs⟩)) :
    AppN ty sz bytes t ver n 1 cs X K (some ⟨ver, ty, sz, cells⟩) := by
  simp only [AppN]
  exact ⟨trivial, trivial, trivial, hl, hn, hn2, hk⟩
theorem lawGraphs_ok (H : List Blk) (ns ms : List Int) (hz : ∀ z ∈ ns, 0 ≤ z ∧ z < 256) (hz2 : ∀ z ∈ ms, 0 ≤ z ∧ z < 256) : ACalls Tryz.prog f_laws_FnGraphs [ilY ns, ilY ms] H (fun r _ => r = Bv true) := by
  by_cases hl1 : ns.length ≤ 1048576
  rotate_left
  · have b1 := b10Long_fn ns
    rw [decide_eq_true (show (1048576 : Int) < ns.length by omega)] at b1
    refine ACalls.introB s_laws_FnGraphs (by simp) ?_; intro hB hA; unfold c_laws_FnGraphs; simp (config := { maxSteps := 1000000 }) (disch := (first | omega | (simp only [go_sem]; try omega))) only [go_sem, Nat.reduceAdd, Nat.reduceEqDiff, Nat.reduceLeDiff, Nat.reduceMul, Nat.reduceLT, reduceIte, Int.reduceToNat, w64_id, cast_succ]
    repeat (first | (with_reducible first | refine SW.seq ?_ | refine SW.block ?_ | refine SW.rowC ?_ | refine SW.skip ?_ | refine SW.exit ?_ | refine PFn.use (b1) ?_ | refine PFn.useq (b1) ?_ | intro _ | refine And.intro (by omega) ?_) | simp (config := { maxSteps := 1000000 }) (disch := (first | omega | (simp only [go_sem]; try omega))) only [go_sem, Nat.reduceAdd, Nat.reduceEqDiff, Nat.reduceLeDiff, Nat.reduceMul, Nat.reduceLT, reduceIte, Int.reduceToNat, w64_id, cast_succ])
    refine SW.condT rfl ?_
    repeat (first | (with_reducible first | refine SW.seq ?_ | refine SW.block ?_ | refine SW.rowC ?_ | refine SW.skip ?_ | refine SW.exit ?_ | intro _ | refine And.intro (by omega) ?_) | simp (config := { maxSteps := 1000000 }) (disch := (first | omega | (simp only [go_sem]; try omega))) only [go_sem, Nat.reduceAdd, Nat.reduceEqDiff, Nat.reduceLeDiff, Nat.reduceMul, Nat.reduceLT, reduceIte, Int.reduceToNat, w64_id, cast_succ])
    refine SW.ret ?_; (try simp only [go_sem]); (first | refine FunPost.one ?_ | refine FunPost.two ?_ | refine FunPost.three ?_); (try simp (config := { maxSteps := 1000000 }) (disch := (first | omega | (simp only [go_sem]; try omega))) only [go_sem, Nat.reduceAdd, Nat.reduceEqDiff, Nat.reduceLeDiff, Nat.reduceMul, Nat.reduceLT, reduceIte, Int.reduceToNat, w64_id, cast_succ])
    exact GR.of rfl
  have b1 := b10Long_fn ns
  rw [decide_eq_false (show ¬ (1048576 : Int) < ns.length by omega)] at b1
  by_cases hl2 : ms.length ≤ 1048576
  rotate_left
  · have b2 := b10Long_fn ms
    rw [decide_eq_true (show (1048576 : Int) < ms.length by omega)] at b2
    refine ACalls.introB s_laws_FnGraphs (by simp) ?_; intro hB hA; unfold c_laws_FnGraphs; simp (config := { maxSteps := 1000000 }) (disch := (first | omega | (simp only [go_sem]; try omega))) only [go_sem, Nat.reduceAdd, Nat.reduceEqDiff, Nat.reduceLeDiff, Nat.reduceMul, Nat.reduceLT, reduceIte, Int.reduceToNat, w64_id, cast_succ]
    repeat (first | (with_reducible first | refine SW.seq ?_ | refine SW.block ?_ | refine SW.rowC ?_ | refine SW.skip ?_ | refine SW.exit ?_ | refine PFn.use (b1) ?_ | refine PFn.useq (b1) ?_ | refine PFn.use (b2) ?_ | refine PFn.useq (b2) ?_ | intro _ | refine And.intro (by omega) ?_) | simp (config := { maxSteps := 1000000 }) (disch := (first | omega | (simp only [go_sem]; try omega))) only [go_sem, Nat.reduceAdd, Nat.reduceEqDiff, Nat.reduceLeDiff, Nat.reduceMul, Nat.reduceLT, reduceIte, Int.reduceToNat, w64_id, cast_succ])
    refine SW.condT rfl ?_
    repeat (first | (with_reducible first | refine SW.seq ?_ | refine SW.block ?_ | refine SW.rowC ?_ | refine SW.skip ?_ | refine SW.exit ?_ | intro _ | refine And.intro (by omega) ?_) | simp (config := { maxSteps := 1000000 }) (disch := (first | omega | (simp only [go_sem]; try omega))) only [go_sem, Nat.reduceAdd, Nat.reduceEqDiff, Nat.reduceLeDiff, Nat.reduceMul, Nat.reduceLT, reduceIte, Int.reduceToNat, w64_id, cast_succ])
    refine SW.ret ?_; (try simp only [go_sem]); (first | refine FunPost.one ?_ | refine FunPost.two ?_ | refine FunPost.three ?_); (try simp (config := { maxSteps := 1000000 }) (disch := (first | omega | (simp only [go_sem]; try omega))) only [go_sem, Nat.reduceAdd, Nat.reduceEqDiff, Nat.reduceLeDiff, Nat.reduceMul, Nat.reduceLT, reduceIte, Int.reduceToNat, w64_id, cast_succ])
    exact GR.of rfl
  have b2 := b10Long_fn ms
  rw [decide_eq_false (show ¬ (1048576 : Int) < ms.length by omega)] at b2
  have hbn := fun k => Bel_ilY k ns
  have hbm := fun k => Bel_ilY k ms
  refine ACalls.introB s_laws_FnGraphs (by simp) ?_; intro hB hA; unfold c_laws_FnGraphs; simp (config := { maxSteps := 1000000 }) (disch := (first | omega | (simp only [go_sem]; try omega))) only [go_sem, Nat.reduceAdd, Nat.reduceEqDiff, Nat.reduceLeDiff, Nat.reduceMul, Nat.reduceLT, reduceIte, Int.reduceToNat, w64_id, cast_succ]
  repeat (first | (with_reducible first | refine SW.seq ?_ | refine SW.block ?_ | refine SW.rowC ?_ | refine SW.skip ?_ | refine SW.exit ?_ | refine PFn.use (b1) ?_ | refine PFn.useq (b1) ?_ | refine PFn.use (b2) ?_ | refine PFn.useq (b2) ?_ | intro _ | refine And.intro (by omega) ?_) | simp (config := { maxSteps := 1000000 }) (disch := (first | omega | (simp only [go_sem]; try omega))) only [go_sem, Nat.reduceAdd, Nat.reduceEqDiff, Nat.reduceLeDiff, Nat.reduceMul, Nat.reduceLT, reduceIte, Int.reduceToNat, w64_id, cast_succ])
  refine SW.condF rfl ?_
  repeat (first | (with_reducible first | refine SW.seq ?_ | refine SW.block ?_ | refine SW.rowC ?_ | refine SW.skip ?_ | refine SW.exit ?_ | intro _ | refine And.intro (by omega) ?_) | simp (config := { maxSteps := 1000000 }) (disch := (first | omega | (simp only [go_sem]; try omega))) only [go_sem, Nat.reduceAdd, Nat.reduceEqDiff, Nat.reduceLeDiff, Nat.reduceMul, Nat.reduceLT, reduceIte, Int.reduceToNat, w64_id, cast_succ])
  refine (drawCompl_ok _ ns hz (by omega)).mono ?_
  rintro r H1 ⟨rfl, cols, es, rfl, hcl, hel⟩
  have hcE : (ilE es).cell1 = true := rfl
  have hpE : partsOf (ilE es) = [ilE es] := rfl
  have hbe := fun k => Bel_ilE k es
  repeat (first | (with_reducible first | refine SW.seq ?_ | refine SW.block ?_ | refine SW.rowC ?_ | refine SW.skip ?_ | refine SW.exit ?_ | intro _ | refine And.intro (by omega) ?_) | simp (config := { maxSteps := 1000000 }) (disch := (first | omega | (simp only [go_sem]; try omega))) only [go_sem, Nat.reduceAdd, Nat.reduceEqDiff, Nat.reduceLeDiff, Nat.reduceMul, Nat.reduceLT, reduceIte, Int.reduceToNat, w64_id, cast_succ, hcE, hpE])
  have hgt := graphText_fn cols es
  have hvg := specValidGraph_fn cols es
  cases hg : grB cols es
  · rw [hg, if_neg (by simp)] at hgt
    rw [hg] at hvg
    have hrd := implReadGraph_fn [] (by simp)
    rw [rgP_nil] at hrd
    unfold rgV at hrd
    simp only [Option.getD_none, Option.isSome_none] at hrd
    repeat (first | (with_reducible first | refine SW.seq ?_ | refine SW.block ?_ | refine SW.rowC ?_ | refine SW.skip ?_ | refine SW.exit ?_ | refine PFn.use (hgt) ?_ | refine PFn.useq (hgt) ?_ | refine PFn.use (hrd) ?_ | refine PFn.useq (hrd) ?_ | refine PFn.use (hvg) ?_ | refine PFn.useq (hvg) ?_ | intro _ | refine And.intro (by omega) ?_) | simp (config := { maxSteps := 1000000 }) (disch := (first | omega | (simp only [go_sem]; try omega))) only [go_sem, Nat.reduceAdd, Nat.reduceEqDiff, Nat.reduceLeDiff, Nat.reduceMul, Nat.reduceLT, reduceIte, Int.reduceToNat, w64_id, cast_succ])
    refine SW.condT rfl ?_
    repeat (first | (with_reducible first | refine SW.seq ?_ | refine SW.block ?_ | refine SW.rowC ?_ | refine SW.skip ?_ | refine SW.exit ?_ | intro _ | refine And.intro (by omega) ?_) | simp (config := { maxSteps := 1000000 }) (disch := (first | omega | (simp only [go_sem]; try omega))) only [go_sem, Nat.reduceAdd, Nat.reduceEqDiff, Nat.reduceLeDiff, Nat.reduceMul, Nat.reduceLT, reduceIte, Int.reduceToNat, w64_id, cast_succ])
    refine SW.ret ?_; (try simp only [go_sem]); (first | refine FunPost.one ?_ | refine FunPost.two ?_ | refine FunPost.three ?_); (try simp (config := { maxSteps := 1000000 }) (disch := (first | omega | (simp only [go_sem]; try omega))) only [go_sem, Nat.reduceAdd, Nat.reduceEqDiff, Nat.reduceLeDiff, Nat.reduceMul, Nat.reduceLT, reduceIte, Int.reduceToNat, w64_id, cast_succ])
    exact GR.of rfl
  rw [hg, if_pos rfl] at hgt
  rw [hg] at hvg
  have hrd := implReadGraph_fn (gtx cols es) (Nat.le_trans (gtx_len hg) (by omega))
  rw [(rgP_iff (gtx cols es) (cols, es)).2 ⟨hg, rfl⟩] at hrd
  unfold rgV at hrd
  simp only [Option.getD_some, Option.isSome_some] at hrd
  obtain ⟨g1, g2, g3, g4⟩ := grB_facts hg
  have hsame : PFn Tryz.prog f_impl_SameGraph [.agg [ilS cols, ilE es], .agg [ilS cols, ilE es]] (Bv true) := by
    have h := SameGraph_fn cols cols es es (by omega)
    rwa [show (decide (cols = cols) && decide (es = es)) = true by simp] at h
  repeat (first | (with_reducible first | refine SW.seq ?_ | refine SW.block ?_ | refine SW.rowC ?_ | refine SW.skip ?_ | refine SW.exit ?_ | refine PFn.use (hgt) ?_ | refine PFn.useq (hgt) ?_ | refine PFn.use (hrd) ?_ | refine PFn.useq (hrd) ?_ | refine PFn.use (hvg) ?_ | refine PFn.useq (hvg) ?_ | intro _ | refine And.intro (by omega) ?_) | simp (config := { maxSteps := 1000000 }) (disch := (first | omega | (simp only [go_sem]; try omega))) only [go_sem, Nat.reduceAdd, Nat.reduceEqDiff, Nat.reduceLeDiff, Nat.reduceMul, Nat.reduceLT, reduceIte, Int.reduceToNat, w64_id, cast_succ, hcE, hpE])
  refine SW.condF rfl ?_
  repeat (first | (with_reducible first | refine SW.seq ?_ | refine SW.block ?_ | refine SW.rowC ?_ | refine SW.skip ?_ | refine SW.exit ?_ | refine PFn.use (hsame) ?_ | refine PFn.useq (hsame) ?_ | intro _ | refine And.intro (by omega) ?_) | simp (config := { maxSteps := 1000000 }) (disch := (first | omega | (simp only [go_sem]; try omega))) only [go_sem, Nat.reduceAdd, Nat.reduceEqDiff, Nat.reduceLeDiff, Nat.reduceMul, Nat.reduceLT, reduceIte, Int.reduceToNat, w64_id, cast_succ, hcE, hpE])
  refine SW.condF rfl ?_
  generalize hn : cols.length = n at *
  repeat (first | (with_reducible first | refine SW.seq ?_ | refine SW.block ?_ | refine SW.rowC ?_ | refine SW.skip ?_ | refine SW.exit ?_ | intro _ | refine And.intro (by omega) ?_) | simp (config := { maxSteps := 1000000 }) (disch := (first | omega | (simp only [go_sem]; try omega))) only [go_sem, Nat.reduceAdd, Nat.reduceEqDiff, Nat.reduceLeDiff, Nat.reduceMul, Nat.reduceLT, reduceIte, Int.reduceToNat, w64_id, cast_succ, hn])
  refine (b10PermZ_ok _ ms n hz2 (by omega) g1).mono ?_
  rintro r H2 ⟨rfl, P, rfl, hP⟩
  have hPl : P.length = n := by
    unfold ordB at hP
    rw [decide_eq_true_eq] at hP
    exact hP.1
  repeat (first | (with_reducible first | refine SW.seq ?_ | refine SW.block ?_ | refine SW.rowC ?_ | refine SW.skip ?_ | refine SW.exit ?_ | intro _ | refine And.intro (by omega) ?_) | simp (config := { maxSteps := 1000000 }) (disch := (first | omega | (simp only [go_sem]; try omega))) only [go_sem, Nat.reduceAdd, Nat.reduceEqDiff, Nat.reduceLeDiff, Nat.reduceMul, Nat.reduceLT, reduceIte, Int.reduceToNat, w64_id, cast_succ])
  refine SW.loopE (fun E0 H0 q E' H' => ∃ i : Nat, i ≤ n ∧ q = n - i ∧ E' = aput (aput E0 11 (I i)) 10 (.nm (H1.length + 2) i 0 i) ∧ H' = H1 ++ [⟨0, tyGr, 1, [ilS cols, ilE es]⟩, ⟨0, tyGr, 1, [ilS cols, ilE es]⟩, ⟨i, 2, 1, (List.replicate i (0 : Int)).map I⟩]) n ⟨0, by omega, by omega, rfl, rfl⟩ ?_
  rintro q E' H' ⟨i, hi, rfl, rfl, rfl⟩
  have htk : (((List.replicate i (0 : Int)).map I).take i) = (List.replicate i (0 : Int)).map I := List.take_of_length_le (by simp)
  simp (config := { maxSteps := 1000000 }) (disch := (first | omega | (simp only [go_sem]; try omega))) only [go_sem, Nat.reduceAdd, Nat.reduceEqDiff, Nat.reduceLeDiff, Nat.reduceMul, Nat.reduceLT, reduceIte, Int.reduceToNat, w64_id, cast_succ]
  repeat (first | (with_reducible first | refine SW.seq ?_ | refine SW.block ?_ | refine SW.rowC ?_ | refine SW.skip ?_ | refine SW.exit ?_ | intro _ | refine And.intro (by omega) ?_) | simp (config := { maxSteps := 1000000 }) (disch := (first | omega | (simp only [go_sem]; try omega))) only [go_sem, Nat.reduceAdd, Nat.reduceEqDiff, Nat.reduceLeDiff, Nat.reduceMul, Nat.reduceLT, reduceIte, Int.reduceToNat, w64_id, cast_succ])
  (first | refine SW.condD rfl (fun h2 => ?_) (fun h2 => ?_) | refine SW.condN rfl (fun h2 => ?_) (fun h2 => ?_) | refine SW.condNB rfl (fun h2 => ?_) (fun h2 => ?_) | refine SW.condB rfl (fun h2 => ?_) (fun h2 => ?_))
  · repeat (first | (with_reducible first | refine SW.seq ?_ | refine SW.block ?_ | refine SW.rowC ?_ | refine SW.skip ?_ | refine SW.exit ?_ | intro _ | refine And.intro (by omega) ?_) | simp (config := { maxSteps := 1000000 }) (disch := (first | omega | (simp only [go_sem]; try omega))) only [go_sem, Nat.reduceAdd, Nat.reduceEqDiff, Nat.reduceLeDiff, Nat.reduceMul, Nat.reduceLT, reduceIte, Int.reduceToNat, w64_id, cast_succ, htk])
    refine appNS (by simp) (by omega) (by omega) ?_
    rw [List.set_append_right _ _ (by omega), show H1.length + 2 - H1.length = 2 by omega, Nat.mul_one, htk]
    simp only [List.set_cons_succ, List.set_cons_zero]
    repeat (first | (with_reducible first | refine SW.seq ?_ | refine SW.block ?_ | refine SW.rowC ?_ | refine SW.skip ?_ | refine SW.exit ?_ | intro _ | refine And.intro (by omega) ?_) | simp (config := { maxSteps := 1000000 }) (disch := (first | omega | (simp only [go_sem]; try omega))) only [go_sem, Nat.reduceAdd, Nat.reduceEqDiff, Nat.reduceLeDiff, Nat.reduceMul, Nat.reduceLT, reduceIte, Int.reduceToNat, w64_id, cast_succ])
    refine SLoop.nextT 3 (n - (i + 1)) hB (by simp) (by omega) (by simp) ?_ ?_ ⟨i + 1, by omega, rfl, ?_, ?_⟩
    · (simp only [go_sem, Nat.reduceAdd, Nat.reduceEqDiff, reduceIte, go_sem, and_self, and_true, true_and, implies_true, List.take_succ_cons, List.take_zero, and_true, true_and, hbe]; try omega)
    · (simp only [go_sem, Nat.reduceAdd, Nat.reduceEqDiff, reduceIte, go_sem, and_self, and_true, true_and, implies_true, List.take_succ_cons, List.take_zero, and_true, true_and, hbe]; try omega)
    · simp [go_sem]
    · rw [List.replicate_succ', List.map_append]; rfl
  · have : i = n := by omega
    subst this
    repeat (first | (with_reducible first | refine SW.seq ?_ | refine SW.block ?_ | refine SW.rowC ?_ | refine SW.skip ?_ | refine SW.exit ?_ | intro _ | refine And.intro (by omega) ?_) | simp (config := { maxSteps := 1000000 }) (disch := (first | omega | (simp only [go_sem]; try omega))) only [go_sem, Nat.reduceAdd, Nat.reduceEqDiff, Nat.reduceLeDiff, Nat.reduceMul, Nat.reduceLT, reduceIte, Int.reduceToNat, w64_id, cast_succ])
    have e0 : List.replicate i (0 : Int) = invL P i 0 := rfl
    rw [e0]
    refine SW.loopE (fun E0 H0 q E' H' => ∃ v : Nat, v ≤ i ∧ q = i - v ∧ E' = aput E0 12 (I v) ∧ H' = H1 ++ [⟨0, tyGr, 1, [ilS cols, ilE es]⟩, ⟨0, tyGr, 1, [ilS cols, ilE es]⟩, ⟨i, 2, 1, (invL P i v).map I⟩]) i ⟨0, by omega, by omega, rfl, rfl⟩ ?_
    rintro q E' H' ⟨v, hv, rfl, rfl, rfl⟩
    have hil := invL_len P i v
    simp (config := { maxSteps := 1000000 }) (disch := (first | omega | (simp only [go_sem]; try omega))) only [go_sem, Nat.reduceAdd, Nat.reduceEqDiff, Nat.reduceLeDiff, Nat.reduceMul, Nat.reduceLT, reduceIte, Int.reduceToNat, w64_id, cast_succ]
    repeat (first | (with_reducible first | refine SW.seq ?_ | refine SW.block ?_ | refine SW.rowC ?_ | refine SW.skip ?_ | refine SW.exit ?_ | intro _ | refine And.intro (by omega) ?_) | simp (config := { maxSteps := 1000000 }) (disch := (first | omega | (simp only [go_sem]; try omega))) only [go_sem, Nat.reduceAdd, Nat.reduceEqDiff, Nat.reduceLeDiff, Nat.reduceMul, Nat.reduceLT, reduceIte, Int.reduceToNat, w64_id, cast_succ])
    (first | refine SW.condD rfl (fun h3 => ?_) (fun h3 => ?_) | refine SW.condN rfl (fun h3 => ?_) (fun h3 => ?_) | refine SW.condNB rfl (fun h3 => ?_) (fun h3 => ?_) | refine SW.condB rfl (fun h3 => ?_) (fun h3 => ?_))
    · obtain ⟨w, hw, ew⟩ := ord_at hP (show v < i by omega)
      have hsn := invL_succ P i v
      rw [ew, Int.toNat_natCast] at hsn
      repeat (first | (with_reducible first | refine SW.seq ?_ | refine SW.block ?_ | refine SW.rowC ?_ | refine SW.skip ?_ | refine SW.exit ?_ | intro _ | refine And.intro (by omega) ?_) | simp (config := { maxSteps := 1000000 }) (disch := (first | omega | (simp only [go_sem]; try omega))) only [go_sem, Nat.reduceAdd, Nat.reduceEqDiff, Nat.reduceLeDiff, Nat.reduceMul, Nat.reduceLT, reduceIte, Int.reduceToNat, w64_id, cast_succ, ew, hil, hPl])
      exact SLoop.next (i - (v + 1)) (by omega) ⟨v + 1, by omega, rfl, by simp [go_sem], by rw [hsn]⟩
    · have : v = i := by omega
      subst this
      have hP1 : ordB cols.length P = true := by rw [hn]; exact hP
      have hr1 := RelabelGraph_fn cols P es hg hP1
      have hg2 := rel_valid hP1 hg
      have hc2l := relC_len cols P cols.length
      have hinv : InvP cols.length P (invL P v v) := by rw [hn]; exact invL_inv hP
      have hb1 := relC_back hP1 hinv
      have hb2 := relL_back hP1 hinv (grB_eds hg)
      have hq : ordB (relC cols P cols.length).length (invL P v v) = true := by rw [hc2l]; exact inv_ord hP1 hinv
      generalize relC cols P cols.length = c2 at *
      generalize relL P es = e2 at *
      have hr2 := RelabelGraph_fn c2 (invL P v v) e2 hg2 hq
      rw [hb1, hb2] at hr2
      have hv2 := ValidGraphI_fn c2 e2
      rw [hg2] at hv2
      have hql := invL_len P v v
      generalize invL P v v = q at *
      have hbe2 := fun k => Bel_ilE k e2
      have hcE2 : (ilE e2).cell1 = true := rfl
      have hpE2 : partsOf (ilE e2) = [ilE e2] := rfl
      refine SW.keepZ [5, 8, 9, 10] ?_
      rw [show H1 ++ [(⟨0, tyGr, 1, [ilS cols, ilE es]⟩ : Blk), ⟨0, tyGr, 1, [ilS cols, ilE es]⟩, ⟨v, 2, 1, q.map I⟩] = (H1 ++ [⟨0, tyGr, 1, [ilS cols, ilE es]⟩, ⟨0, tyGr, 1, [ilS cols, ilE es]⟩]) ++ [⟨v, 2, 1, q.map I⟩] by rw [List.append_assoc]; rfl]
      have hB2 : HB (H1 ++ [(⟨0, tyGr, 1, [ilS cols, ilE es]⟩ : Blk), ⟨0, tyGr, 1, [ilS cols, ilE es]⟩]) := hB.app (k := H1.length + 2) (by (simp only [go_sem, Nat.reduceAdd, Nat.reduceEqDiff, reduceIte, go_sem, and_self, and_true, true_and, implies_true, List.take_succ_cons, List.take_zero, and_true, true_and, hbe]; try omega)) (by simp)
      refine SW.froz (E' := [(5, .pc H1.length 0 0), (8, I v), (9, ilS P), (10, ilS q)]) hB2 (by simp) (.cons _ (.old _ (by simp [go_sem])) (.cons _ (ren_I _) (.cons _ (ren_ilS _) (.cons _ ?_ .nil)))) ?_
      · have := ren_of_frozR (froz_rowI (H := (H1 ++ [⟨0, tyGr, 1, [ilS cols, ilE es]⟩, ⟨0, tyGr, 1, [ilS cols, ilE es]⟩]) ++ [⟨v, 2, 1, q.map I⟩]) (b := (H1 ++ [(⟨0, tyGr, 1, [ilS cols, ilE es]⟩ : Blk), ⟨0, tyGr, 1, [ilS cols, ilE es]⟩]).length) (r := H1.length + 2) (ver := v) (ty := 2) (xs := q) (by simp) (by simp))
        rwa [hql] at this
      repeat (first | (with_reducible first | refine SW.seq ?_ | refine SW.block ?_ | refine SW.rowC ?_ | refine SW.skip ?_ | refine SW.exit ?_ | refine PFn.use (hr1) ?_ | refine PFn.useq (hr1) ?_ | intro _ | refine And.intro (by omega) ?_) | simp (config := { maxSteps := 1000000 }) (disch := (first | omega | (simp only [go_sem]; try omega))) only [go_sem, Nat.reduceAdd, Nat.reduceEqDiff, Nat.reduceLeDiff, Nat.reduceMul, Nat.reduceLT, reduceIte, Int.reduceToNat, w64_id, cast_succ, hcE2, hpE2])
      repeat (first | (with_reducible first | refine SW.seq ?_ | refine SW.block ?_ | refine SW.rowC ?_ | refine SW.skip ?_ | refine SW.exit ?_ | refine PFn.use (hr2) ?_ | refine PFn.useq (hr2) ?_ | refine PFn.use (hsame) ?_ | refine PFn.useq (hsame) ?_ | refine PFn.use (hv2) ?_ | refine PFn.useq (hv2) ?_ | intro _ | refine And.intro (by omega) ?_) | simp (config := { maxSteps := 1000000 }) (disch := (first | omega | (simp only [go_sem]; try omega))) only [go_sem, Nat.reduceAdd, Nat.reduceEqDiff, Nat.reduceLeDiff, Nat.reduceMul, Nat.reduceLT, reduceIte, Int.reduceToNat, w64_id, cast_succ, hcE, hpE, hcE2, hpE2])
      refine SW.condF rfl ?_
      have hc1 := complement_fn cols es
      have hlen := cplE_len (grB_eds hg)
      rw [hn] at hlen
      by_cases h512 : (cplE v es).length > 512
      · have hV : cpV cols es = (([], []), 5) := by unfold cpV; rw [if_pos hg, hn, if_pos h512]
        rw [hV] at hc1
        repeat (first | (with_reducible first | refine SW.seq ?_ | refine SW.block ?_ | refine SW.rowC ?_ | refine SW.skip ?_ | refine SW.exit ?_ | refine PFn.use (hc1) ?_ | refine PFn.useq (hc1) ?_ | intro _ | refine And.intro (by omega) ?_) | simp (config := { maxSteps := 1000000 }) (disch := (first | omega | (simp only [go_sem]; try omega))) only [go_sem, Nat.reduceAdd, Nat.reduceEqDiff, Nat.reduceLeDiff, Nat.reduceMul, Nat.reduceLT, reduceIte, Int.reduceToNat, w64_id, cast_succ])
        refine SW.condT rfl ?_
        repeat (first | (with_reducible first | refine SW.seq ?_ | refine SW.block ?_ | refine SW.rowC ?_ | refine SW.skip ?_ | refine SW.exit ?_ | intro _ | refine And.intro (by omega) ?_) | simp (config := { maxSteps := 1000000 }) (disch := (first | omega | (simp only [go_sem]; try omega))) only [go_sem, Nat.reduceAdd, Nat.reduceEqDiff, Nat.reduceLeDiff, Nat.reduceMul, Nat.reduceLT, reduceIte, Int.reduceToNat, w64_id, cast_succ])
        refine SW.ret ?_; (try simp only [go_sem]); (first | refine FunPost.one ?_ | refine FunPost.two ?_ | refine FunPost.three ?_); (try simp (config := { maxSteps := 1000000 }) (disch := (first | omega | (simp only [go_sem]; try omega))) only [go_sem, Nat.reduceAdd, Nat.reduceEqDiff, Nat.reduceLeDiff, Nat.reduceMul, Nat.reduceLT, reduceIte, Int.reduceToNat, w64_id, cast_succ])
        exact GR.of rfl
      have hV : cpV cols es = ((cols, cplE v es), 0) := by unfold cpV; rw [if_pos hg, hn, if_neg h512]
      have hgc : grB cols (cplE v es) = true := by
        have h := hg
        unfold grB at h ⊢
        rw [Bool.and_eq_true, Bool.and_eq_true] at h ⊢
        exact ⟨by rw [hn]; exact cplE_valid v es, h.2.1, decide_eq_true (by omega)⟩
      have hV2 : cpV cols (cplE v es) = ((cols, es), 0) := by
        unfold cpV
        rw [if_pos hgc, hn, cplE_cplE (by rw [← hn]; exact grB_eds hg), if_neg (by omega)]
      have hc2 := complement_fn cols (cplE v es)
      rw [hV] at hc1
      rw [hV2] at hc2
      generalize cplE v es = e3 at *
      have hbe3 := fun k => Bel_ilE k e3
      have hcE3 : (ilE e3).cell1 = true := rfl
      have hpE3 : partsOf (ilE e3) = [ilE e3] := rfl
      repeat (first | (with_reducible first | refine SW.seq ?_ | refine SW.block ?_ | refine SW.rowC ?_ | refine SW.skip ?_ | refine SW.exit ?_ | refine PFn.use (hc1) ?_ | refine PFn.useq (hc1) ?_ | intro _ | refine And.intro (by omega) ?_) | simp (config := { maxSteps := 1000000 }) (disch := (first | omega | (simp only [go_sem]; try omega))) only [go_sem, Nat.reduceAdd, Nat.reduceEqDiff, Nat.reduceLeDiff, Nat.reduceMul, Nat.reduceLT, reduceIte, Int.reduceToNat, w64_id, cast_succ, hcE, hpE, hcE3, hpE3])
      refine SW.condF rfl ?_
      repeat (first | (with_reducible first | refine SW.seq ?_ | refine SW.block ?_ | refine SW.rowC ?_ | refine SW.skip ?_ | refine SW.exit ?_ | refine PFn.use (hc2) ?_ | refine PFn.useq (hc2) ?_ | refine PFn.use (hsame) ?_ | refine PFn.useq (hsame) ?_ | intro _ | refine And.intro (by omega) ?_) | simp (config := { maxSteps := 1000000 }) (disch := (first | omega | (simp only [go_sem]; try omega))) only [go_sem, Nat.reduceAdd, Nat.reduceEqDiff, Nat.reduceLeDiff, Nat.reduceMul, Nat.reduceLT, reduceIte, Int.reduceToNat, w64_id, cast_succ, hcE, hpE, hcE3, hpE3])
      have hvv : v * v ≤ 64 * 64 := Nat.mul_le_mul g1 g1
      have hm : (v : Int) * ((v : Int) - 1) = 2 * ((e3.length : Int) + (es.length : Int)) := by
        have h : ((v * v : Nat) : Int) = 2 * ((e3.length : Int) + (es.length : Int)) + (v : Int) := by omega
        rw [Int.mul_sub, Int.mul_one, ← Int.natCast_mul]
        omega
      have hfin : decide ((e3.length : Int) + (es.length : Int) = w64 ((w64 ((v : Int) * ((v : Int) - 1))).tdiv 2)) = true := by
        rw [hm, w64_id (n := 2 * ((e3.length : Int) + (es.length : Int))) (by omega) (by omega), Int.mul_tdiv_cancel_left _ (by omega), w64_id (by omega) (by omega)]
        exact decide_eq_true rfl
      rw [hfin]
      refine SW.ret ?_; (try simp only [go_sem]); (first | refine FunPost.one ?_ | refine FunPost.two ?_ | refine FunPost.three ?_); (try simp (config := { maxSteps := 1000000 }) (disch := (first | omega | (simp only [go_sem]; try omega))) only [go_sem, Nat.reduceAdd, Nat.reduceEqDiff, Nat.reduceLeDiff, Nat.reduceMul, Nat.reduceLT, reduceIte, Int.reduceToNat, w64_id, cast_succ])
      exact GR.of rfl
end Go.Proofs.YtdgcgckehihboaaGreatDoor
namespace Go.Proofs.YtdgcgckehihboaaGreatDoor
variable [Go.Av.DoorC] [Go.Proofs.YtdgcgckehihboaaGreatDoor.DoorT]
open Go.Av Go.RowKit
theorem errStar : "*" ++ "errors.errorString" = "*errors.errorString" := by decide
theorem errRow (u : TypeId) (h : Tryz.prog.typeName? 3 u = some "*errors.errorString") : u = 168 :=
  typeName_ptr_named (nm := "errors.errorString") (by rw [errStar]; kernel_rfl) (by kernel_rfl) (by decide) u (by rw [errStar]; exact h)
theorem glob_of {W : World} (hsh : W.ShapedOpen Tryz.prog) (hL : laidMetH Tryz.prog Rows.fnGraphsRow.laid W) : Glob W.heap.size W := by
  rw [MakeChecks.laidMetH_plain _ _ _ (by kernel_rfl)] at hL
  have h1 := hL.tail
  have h2 := h1.tail
  have h3 := h2.tail
  have h4 := h3.tail
  have h5 := h4.tail
  have hm : ∃ m : Int, W.cell? ⟨0, 0, none⟩ = some (.int .i64 m) :=
    cell_of_shapedOpen_int hsh (of_decide_eq_true (by kernel_rfl)) (zero := #[.int .i64 0]) (t := 3) (by kernel_rfl) rfl (by kernel_rfl) (by kernel_rfl) (by kernel_rfl)
  have ht : Lib.TabIs Tryz.prog W "internal/strconv.uint64pow10" .u64 Lib.pow10Tab :=
    Lib.tabIs_of_head (g := 3) (t := 150) (e := 66) (n := 20) (by kernel_rfl) (by kernel_rfl) (by kernel_rfl) (by kernel_rfl) (by kernel_rfl) (by kernel_rfl) h2
  have hd : ∃ cs, W.var? Tryz.prog "math/bits.deBruijn64tab" = some cs := by
    obtain ⟨ps, ⟨g, t, cs, fuel, p, q, hg, ht, hv, hd, _⟩, _⟩ := h1
    exact ⟨cs, hv⟩
  have hsR : ∃ tp p, W.var? Tryz.prog "strconv.ErrRange" = some #[.iface tp p] := by
    obtain ⟨a, s, hv, -⟩ := laid_sentinel h4 (g := 2) (by kernel_rfl) (by kernel_rfl) (ti := 75) Tryz.underlying75 (tp := 168) errRow Tryz.underlying168 Tryz.underlying170 rfl rfl Tryz.underlying9 (by kernel_rfl) (by kernel_rfl)
    exact ⟨_, _, hv⟩
  have hsS : ∃ tp p, W.var? Tryz.prog "strconv.ErrSyntax" = some #[.iface tp p] := by
    obtain ⟨a, s, hv, -⟩ := laid_sentinel h5 (g := 1) (by kernel_rfl) (by kernel_rfl) (ti := 75) Tryz.underlying75 (tp := 168) errRow Tryz.underlying168 Tryz.underlying170 rfl rfl Tryz.underlying9 (by kernel_rfl) (by kernel_rfl)
    exact ⟨_, _, hv⟩
  refine ⟨?_, hm, ?_, hsS, hsR⟩
  · obtain ⟨cs, hd⟩ := hd
    have hg : Program.globalNamed Tryz.prog "math/bits.deBruijn64tab" = some 7 := by kernel_rfl
    simp only [World.var?, hg, Option.bind_some] at hd
    split at hd
    · rename_i h
      have := (Array.getElem?_eq_some_iff.1 h).1
      omega
    · cases hd
  · have hg : Program.globalNamed Tryz.prog "internal/strconv.uint64pow10" = some 3 := by kernel_rfl
    unfold Lib.TabIs at ht
    simp only [World.var?, hg, Option.bind_some] at ht
    split at ht
    · rename_i c t q h
      cases ht
      exact ⟨t, q, h⟩
    · cases ht
end Go.Proofs.YtdgcgckehihboaaGreatDoor
