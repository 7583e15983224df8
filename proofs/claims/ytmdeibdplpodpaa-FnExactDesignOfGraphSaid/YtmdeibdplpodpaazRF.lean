/- DesignOfGraph: the reference. -/
import Derived.Test.YtmdeibdplpodpaaProg
import Derived.KernelRfl
import Derived.Test.YtmdeibdplpodpaazRE
import Derived.Test.YtmdeibdplpodpaazLS
set_option linter.unusedSimpArgs false
set_option linter.unusedVariables false
set_option maxHeartbeats 4000000
set_option maxRecDepth 100000
namespace Go.Proofs.Ytmdeibdplpodpaa
open Go.Av
abbrev f_spec_DesignOfGraph : Nat := 13
def c_spec_DesignOfGraph : SC :=
 .seq (.reg [
     ⟨(some 1), .box 30 (.tmp 0), none⟩,
     ⟨(some 2), .alloc 38 [(.int .i64 0), (.slice none 0 0)], none⟩,
     ⟨(some 3), .mv (.const (.int .i64 0)), none⟩] [1, 2])
 (.seq (.seq (.reg [
     ⟨(some 4), .load 2 true (.tmp 1), none⟩,
     ⟨(some 5), .call 25 [(.tmp 4)], none⟩,
     ⟨(some 6), .un .not (.tmp 5), none⟩] [1, 2, 6])
 (.cond (.tmp 6)
  (.seq (.reg [
      ⟨(some 7), .build [(.int .i64 0), (.slice none 0 0)] [], none⟩,
      ⟨none, .store 2 (.tmp 2) (.tmp 7), none⟩,
      ⟨(some 3), .mv (.const (.int .i64 1)), none⟩] [2, 3])
  (.ret))
  (.skip)))
 (.seq (.reg [
     ⟨(some 8), .call 36 [(.tmp 1)], none⟩,
     ⟨(some 9), .ext (.tmp 8) 0, none⟩,
     ⟨(some 10), .ext (.tmp 8) 1, none⟩,
     ⟨none, .store 2 (.tmp 2) (.tmp 9), none⟩,
     ⟨(some 3), .mv (.tmp 10), none⟩] [2, 3])
 (.ret)))
theorem s_spec_DesignOfGraph : stripF Try.prog 13 [[1, 2], [1, 2, 6], [2, 3], [2, 3]] = some (c_spec_DesignOfGraph, [.cell 2 2, .tmp 3], 11) := by kernel_rfl
abbrev f_spec_l23Design : Nat := 36
def c_spec_l23Design : SC :=
 .seq (.reg [
     ⟨(some 2), .alloc 38 [(.int .i64 0), (.slice none 0 0)], none⟩,
     ⟨(some 3), .mv (.const (.int .i64 0)), none⟩] [0, 2])
 (.seq (.reg [
     ⟨(some 4), .mv (.const (.int .i64 0)), none⟩] [0, 2, 4])
 (.seq (.seq (.reg [
     ⟨(some 5), .mv (.const (.int .i64 0)), none⟩] [0, 2, 4, 5])
 (.block 0 (.loop [0, 2, 4, 5]
   (.seq (.seq (.reg [
       ⟨(some 10), .mv (.tmp 5), none⟩,
       ⟨(some 11), .mv (.tmp 0), none⟩,
       ⟨(some 12), .nilc (.tmp 11), none⟩,
       ⟨(some 13), .faddr 0 (.tmp 12), none⟩,
       ⟨(some 14), .load 1 false (.tmp 13), none⟩,
       ⟨(some 15), .len (.tmp 14), none⟩,
       ⟨(some 16), .bin .lss (.tmp 10) (.tmp 15), none⟩] [0, 2, 4, 5, 16])
   (.cond (.tmp 16)
    (.skip)
    (.exit 0)))
   (.seq (.block 1 (.seq (.seq (.reg [
        ⟨(some 19), .mv (.tmp 0), none⟩,
        ⟨(some 20), .nilc (.tmp 19), none⟩,
        ⟨(some 21), .faddr 0 (.tmp 20), none⟩,
        ⟨(some 22), .load 1 false (.tmp 21), none⟩,
        ⟨(some 23), .mv (.tmp 5), none⟩,
        ⟨(some 24), .iaddr 1 (.tmp 22) (.tmp 23), none⟩,
        ⟨(some 25), .load 1 false (.tmp 24), none⟩,
        ⟨(some 26), .bin .gtr (.tmp 25) (.const (.int .i64 1)), none⟩,
        ⟨(some 27), .mv (.tmp 26), none⟩,
        ⟨(some 28), .mv (.tmp 5), (some (27, false))⟩,
        ⟨(some 29), .bin .gtr (.tmp 28) (.const (.int .i64 0)), (some (27, false))⟩,
        ⟨(some 30), .mv (.tmp 29), (some (27, false))⟩,
        ⟨(some 31), .mv (.tmp 0), (some (30, true))⟩,
        ⟨(some 32), .nilc (.tmp 31), (some (30, true))⟩,
        ⟨(some 33), .faddr 0 (.tmp 32), (some (30, true))⟩,
        ⟨(some 34), .load 1 false (.tmp 33), (some (30, true))⟩,
        ⟨(some 35), .mv (.tmp 5), (some (30, true))⟩,
        ⟨(some 36), .iaddr 1 (.tmp 34) (.tmp 35), (some (30, true))⟩,
        ⟨(some 37), .load 1 false (.tmp 36), (some (30, true))⟩,
        ⟨(some 38), .mv (.tmp 0), (some (30, true))⟩,
        ⟨(some 39), .nilc (.tmp 38), (some (30, true))⟩,
        ⟨(some 40), .faddr 0 (.tmp 39), (some (30, true))⟩,
        ⟨(some 41), .load 1 false (.tmp 40), (some (30, true))⟩,
        ⟨(some 42), .mv (.tmp 5), (some (30, true))⟩,
        ⟨(some 43), .bin .sub (.tmp 42) (.const (.int .i64 1)), (some (30, true))⟩,
        ⟨(some 44), .iaddr 1 (.tmp 41) (.tmp 43), (some (30, true))⟩,
        ⟨(some 45), .load 1 false (.tmp 44), (some (30, true))⟩,
        ⟨(some 46), .bin .lss (.tmp 37) (.tmp 45), (some (30, true))⟩,
        ⟨(some 47), .pick (.tmp 30) (.tmp 46) (.const (.bool false)), (some (27, false))⟩,
        ⟨(some 48), .pick (.tmp 27) (.const (.bool true)) (.tmp 47), none⟩] [0, 2, 4, 5, 48])
    (.cond (.tmp 48)
     (.seq (.reg [
         ⟨(some 49), .build [(.int .i64 0), (.slice none 0 0)] [], none⟩,
         ⟨none, .store 2 (.tmp 2) (.tmp 49), none⟩,
         ⟨(some 3), .mv (.const (.int .i64 6)), none⟩] [2, 3])
     (.ret))
     (.skip)))
    (.reg [
        ⟨(some 50), .mv (.tmp 4), none⟩,
        ⟨(some 51), .mv (.tmp 0), none⟩,
        ⟨(some 52), .nilc (.tmp 51), none⟩,
        ⟨(some 53), .faddr 0 (.tmp 52), none⟩,
        ⟨(some 54), .load 1 false (.tmp 53), none⟩,
        ⟨(some 55), .mv (.tmp 5), none⟩,
        ⟨(some 56), .iaddr 1 (.tmp 54) (.tmp 55), none⟩,
        ⟨(some 57), .load 1 false (.tmp 56), none⟩,
        ⟨(some 58), .bin .sub (.const (.int .i64 1)) (.tmp 57), none⟩,
        ⟨(some 59), .bin .add (.tmp 50) (.tmp 58), none⟩,
        ⟨(some 4), .mv (.tmp 59), none⟩] [0, 2, 4, 5])))
   (.reg [
       ⟨(some 17), .mv (.tmp 5), none⟩,
       ⟨(some 18), .bin .add (.tmp 17) (.const (.int .i64 1)), none⟩,
       ⟨(some 5), .mv (.tmp 18), none⟩] [0, 2, 4, 5]))))))
 (.seq (.seq (.reg [
     ⟨(some 60), .mv (.tmp 4), none⟩,
     ⟨(some 61), .call 53 [(.tmp 60), (.const (.int .i64 1)), (.const (.int .i64 32))], none⟩,
     ⟨(some 62), .un .not (.tmp 61), none⟩] [0, 2, 4, 62])
 (.cond (.tmp 62)
  (.seq (.reg [
      ⟨(some 63), .build [(.int .i64 0), (.slice none 0 0)] [], none⟩,
      ⟨none, .store 2 (.tmp 2) (.tmp 63), none⟩,
      ⟨(some 3), .mv (.const (.int .i64 6)), none⟩] [2, 3])
  (.ret))
  (.skip)))
 (.seq (.reg [
     ⟨(some 64), .mv (.tmp 0), none⟩,
     ⟨(some 65), .nilc (.tmp 64), none⟩,
     ⟨(some 66), .faddr 0 (.tmp 65), none⟩,
     ⟨(some 67), .load 1 false (.tmp 66), none⟩,
     ⟨(some 68), .len (.tmp 67), none⟩,
     ⟨(some 69), .mv (.tmp 4), none⟩,
     ⟨(some 70), .bin .sub (.tmp 68) (.tmp 69), none⟩,
     ⟨(some 71), .mslice 22 24 (.slice none 0 0) (.tmp 70) (.tmp 70), none⟩,
     ⟨(some 6), .mv (.tmp 71), none⟩] [0, 2, 4, 6])
 (.seq (.seq (.reg [
     ⟨(some 7), .mv (.const (.int .i64 0)), none⟩] [0, 2, 4, 6, 7])
 (.block 2 (.loop [0, 2, 4, 6, 7]
   (.seq (.seq (.reg [
       ⟨(some 72), .mv (.tmp 7), none⟩,
       ⟨(some 73), .mv (.tmp 0), none⟩,
       ⟨(some 74), .nilc (.tmp 73), none⟩,
       ⟨(some 75), .faddr 1 (.tmp 74), none⟩,
       ⟨(some 76), .load 1 false (.tmp 75), none⟩,
       ⟨(some 77), .len (.tmp 76), none⟩,
       ⟨(some 78), .bin .lss (.tmp 72) (.tmp 77), none⟩] [0, 2, 4, 6, 7, 78])
   (.cond (.tmp 78)
    (.skip)
    (.exit 2)))
   (.seq (.block 3 (.seq (.reg [
        ⟨(some 81), .mv (.tmp 0), none⟩,
        ⟨(some 82), .nilc (.tmp 81), none⟩,
        ⟨(some 83), .faddr 1 (.tmp 82), none⟩,
        ⟨(some 84), .load 1 false (.tmp 83), none⟩,
        ⟨(some 85), .mv (.tmp 7), none⟩,
        ⟨(some 86), .iaddr 2 (.tmp 84) (.tmp 85), none⟩,
        ⟨(some 87), .load 2 true (.tmp 86), none⟩,
        ⟨(some 8), .alloc 61 [(.int .i64 0), (.int .i64 0)], none⟩,
        ⟨none, .store 2 (.tmp 8) (.tmp 87), none⟩] [0, 2, 4, 6, 7, 8])
    (.seq (.seq (.reg [
        ⟨(some 88), .faddr 0 (.tmp 8), none⟩,
        ⟨(some 89), .load 1 false (.tmp 88), none⟩,
        ⟨(some 90), .mv (.tmp 4), none⟩,
        ⟨(some 91), .bin .geq (.tmp 89) (.tmp 90), none⟩,
        ⟨(some 92), .mv (.tmp 91), none⟩,
        ⟨(some 93), .faddr 1 (.tmp 8), (some (92, false))⟩,
        ⟨(some 94), .load 1 false (.tmp 93), (some (92, false))⟩,
        ⟨(some 95), .mv (.tmp 4), (some (92, false))⟩,
        ⟨(some 96), .bin .lss (.tmp 94) (.tmp 95), (some (92, false))⟩,
        ⟨(some 97), .pick (.tmp 92) (.const (.bool true)) (.tmp 96), none⟩] [0, 2, 4, 6, 7, 8, 97])
    (.cond (.tmp 97)
     (.seq (.reg [
         ⟨(some 98), .build [(.int .i64 0), (.slice none 0 0)] [], none⟩,
         ⟨none, .store 2 (.tmp 2) (.tmp 98), none⟩,
         ⟨(some 3), .mv (.const (.int .i64 6)), none⟩] [2, 3])
     (.ret))
     (.skip)))
    (.mix (.one ⟨(some 99), .mv (.tmp 6), none⟩
     (.one ⟨(some 102), .mv (.tmp 4), none⟩
     (.one ⟨(some 104), .mv (.tmp 6), none⟩
     (.one ⟨(some 105), .faddr 1 (.tmp 8), none⟩
     (.one ⟨(some 106), .load 1 false (.tmp 105), none⟩
     (.one ⟨(some 107), .mv (.tmp 4), none⟩
     (.one ⟨(some 108), .bin .sub (.tmp 106) (.tmp 107), none⟩
     (.one ⟨(some 109), .iaddr 1 (.tmp 104) (.tmp 108), none⟩
     (.one ⟨(some 110), .load 1 false (.tmp 109), none⟩
     (.one ⟨(some 111), .faddr 0 (.tmp 8), none⟩
     (.one ⟨(some 112), .load 1 false (.tmp 111), none⟩
     (.both (.one ⟨(some 100), .faddr 1 (.tmp 8), none⟩
      (.both (.one ⟨(some 101), .load 1 false (.tmp 100), none⟩
       (.one ⟨(some 103), .bin .sub (.tmp 101) (.tmp 102), none⟩
       (.one ⟨(some 113), .bslice 2 1 1 [(.int .i64 0)] [(0, (.tmp 112))], none⟩
       (.one ⟨(some 114), .app 2 1 8 (.tmp 110) (.tmp 113), none⟩
       (.one ⟨(some 115), .iaddr 1 (.tmp 99) (.tmp 103), none⟩
       (.one ⟨none, .store 1 (.tmp 115) (.tmp 114), none⟩
       (.done)))))))
      (.one ⟨(some 113), .bslice 2 1 1 [(.int .i64 0)] [(0, (.tmp 112))], none⟩
       (.both (.one ⟨(some 101), .load 1 false (.tmp 100), none⟩
        (.one ⟨(some 103), .bin .sub (.tmp 101) (.tmp 102), none⟩
        (.one ⟨(some 114), .app 2 1 8 (.tmp 110) (.tmp 113), none⟩
        (.one ⟨(some 115), .iaddr 1 (.tmp 99) (.tmp 103), none⟩
        (.one ⟨none, .store 1 (.tmp 115) (.tmp 114), none⟩
        (.done))))))
       (.one ⟨(some 114), .app 2 1 8 (.tmp 110) (.tmp 113), none⟩
        (.one ⟨(some 101), .load 1 false (.tmp 100), none⟩
        (.one ⟨(some 103), .bin .sub (.tmp 101) (.tmp 102), none⟩
        (.one ⟨(some 115), .iaddr 1 (.tmp 99) (.tmp 103), none⟩
        (.one ⟨none, .store 1 (.tmp 115) (.tmp 114), none⟩
        (.done))))))))))
     (.one ⟨(some 113), .bslice 2 1 1 [(.int .i64 0)] [(0, (.tmp 112))], none⟩
      (.both (.one ⟨(some 100), .faddr 1 (.tmp 8), none⟩
       (.both (.one ⟨(some 101), .load 1 false (.tmp 100), none⟩
        (.one ⟨(some 103), .bin .sub (.tmp 101) (.tmp 102), none⟩
        (.one ⟨(some 114), .app 2 1 8 (.tmp 110) (.tmp 113), none⟩
        (.one ⟨(some 115), .iaddr 1 (.tmp 99) (.tmp 103), none⟩
        (.one ⟨none, .store 1 (.tmp 115) (.tmp 114), none⟩
        (.done))))))
       (.one ⟨(some 114), .app 2 1 8 (.tmp 110) (.tmp 113), none⟩
        (.one ⟨(some 101), .load 1 false (.tmp 100), none⟩
        (.one ⟨(some 103), .bin .sub (.tmp 101) (.tmp 102), none⟩
        (.one ⟨(some 115), .iaddr 1 (.tmp 99) (.tmp 103), none⟩
        (.one ⟨none, .store 1 (.tmp 115) (.tmp 114), none⟩
        (.done))))))))
      (.one ⟨(some 114), .app 2 1 8 (.tmp 110) (.tmp 113), none⟩
       (.one ⟨(some 100), .faddr 1 (.tmp 8), none⟩
       (.one ⟨(some 101), .load 1 false (.tmp 100), none⟩
       (.one ⟨(some 103), .bin .sub (.tmp 101) (.tmp 102), none⟩
       (.one ⟨(some 115), .iaddr 1 (.tmp 99) (.tmp 103), none⟩
       (.one ⟨none, .store 1 (.tmp 115) (.tmp 114), none⟩
       (.done))))))))))))))))))))) [0, 2, 4, 6, 7]))))
   (.reg [
       ⟨(some 79), .mv (.tmp 7), none⟩,
       ⟨(some 80), .bin .add (.tmp 79) (.const (.int .i64 1)), none⟩,
       ⟨(some 7), .mv (.tmp 80), none⟩] [0, 2, 4, 6, 7]))))))
 (.seq (.seq (.reg [
     ⟨(some 9), .mv (.const (.int .i64 0)), none⟩] [2, 4, 6, 9])
 (.block 4 (.loop [2, 4, 6, 9]
   (.seq (.seq (.reg [
       ⟨(some 116), .mv (.tmp 9), none⟩,
       ⟨(some 117), .mv (.tmp 6), none⟩,
       ⟨(some 118), .len (.tmp 117), none⟩,
       ⟨(some 119), .bin .lss (.tmp 116) (.tmp 118), none⟩] [2, 4, 6, 9, 119])
   (.cond (.tmp 119)
    (.skip)
    (.exit 4)))
   (.seq (.block 5 (.seq (.reg [
        ⟨(some 122), .mv (.tmp 6), none⟩,
        ⟨(some 123), .mv (.tmp 9), none⟩,
        ⟨(some 124), .iaddr 1 (.tmp 122) (.tmp 123), none⟩,
        ⟨(some 125), .load 1 false (.tmp 124), none⟩,
        ⟨(some 126), .len (.tmp 125), none⟩,
        ⟨(some 127), .bin .eql (.tmp 126) (.const (.int .i64 0)), none⟩] [2, 4, 6, 9, 127])
    (.cond (.tmp 127)
     (.seq (.reg [
         ⟨(some 128), .build [(.int .i64 0), (.slice none 0 0)] [], none⟩,
         ⟨none, .store 2 (.tmp 2) (.tmp 128), none⟩,
         ⟨(some 3), .mv (.const (.int .i64 6)), none⟩] [2, 3])
     (.ret))
     (.skip))))
   (.reg [
       ⟨(some 120), .mv (.tmp 9), none⟩,
       ⟨(some 121), .bin .add (.tmp 120) (.const (.int .i64 1)), none⟩,
       ⟨(some 9), .mv (.tmp 121), none⟩] [2, 4, 6, 9]))))))
 (.seq (.reg [
     ⟨(some 129), .mv (.tmp 4), none⟩,
     ⟨(some 130), .mv (.tmp 6), none⟩,
     ⟨(some 131), .call 67 [(.tmp 130)], none⟩,
     ⟨(some 132), .build [(.int .i64 0), (.slice none 0 0)] [(0, 1, (.tmp 129)), (1, 1, (.tmp 131))], none⟩,
     ⟨none, .store 2 (.tmp 2) (.tmp 132), none⟩,
     ⟨(some 3), .mv (.const (.int .i64 0)), none⟩] [2, 3])
 (.ret))))))))
theorem s_spec_l23Design : stripF Try.prog 36 [[0, 2], [0, 2, 4], [0, 2, 4, 5], [0, 2, 4, 5], [0, 2, 4, 5, 16], [0, 2, 4, 5, 48], [2, 3], [0, 2, 4, 5], [0, 2, 4, 5], [0, 2, 4, 62], [2, 3], [0, 2, 4, 6], [0, 2, 4, 6, 7], [0, 2, 4, 6, 7], [0, 2, 4, 6, 7, 78], [0, 2, 4, 6, 7, 8], [0, 2, 4, 6, 7, 8, 97], [2, 3], [0, 2, 4, 6, 7], [0, 2, 4, 6, 7], [2, 4, 6, 9], [2, 4, 6, 9], [2, 4, 6, 9, 119], [2, 4, 6, 9, 127], [2, 3], [2, 4, 6, 9], [2, 3]] = some (c_spec_l23Design, [.cell 2 2, .tmp 3], 133) := by kernel_rfl
theorem ren_of_frozR {H : List Blk} {b : Nat} {a a' : AV} (h : Froz H b a a') : Ren H b [] a a' := by
  induction h with
  | old c h => exact .old c h
  | nil => exact .nilF
  | nm i ver off len kb cs hb hk hv hl _ ih => exact .fz i ver off len kb cs hb (by simp) hk hv hl ih
  | agg cs cs' hl _ ih => exact .agg cs cs' hl ih
  | tup cs cs' hl _ ih => exact .tup cs cs' hl ih
theorem l23Design_ok (H : List Blk) (p : Nat) (cols : List Int) (es : List (Int × Int)) (hp : H[p]? = some ⟨0, tyGr, 1, [ilS cols, ilE es]⟩) (hg : grB cols es = true) :
    ACalls Try.prog f_spec_l23Design [.pc p 0 0] H (fun r H' => r = .tup [.agg [I (if dogB cols es = true then zc cols else 0), ilSS (if dogB cols es = true then sortD cmpL (dogR cols es) else [])], I (if dogB cols es = true then 0 else 6)] ∧ H' = H) := by
  obtain ⟨f1, f2, f3, f4⟩ := grB_facts hg
  have hbe := fun b => Bel_ilE b es
  have pa := fun o ext => pc_alive (off := o) (get_appU hp ext)
  have pl := fun o ext => pc_ld (off := o) (get_appU hp ext)
  refine ACalls.introB s_spec_l23Design (by simp) ?_; intro hB hA; unfold c_spec_l23Design; simp (config := { maxSteps := 1000000 }) (disch := (first | omega | (simp only [go_sem]; try omega))) only [go_sem, Nat.reduceAdd, Nat.reduceEqDiff, Nat.reduceLeDiff, Nat.reduceMul, Nat.reduceLT, reduceIte, Int.reduceToNat, w64_id, cast_succ]
  repeat (first | (with_reducible first | refine SW.seq ?_ | refine SW.block ?_ | refine SW.rowC ?_ | refine SW.skip ?_ | refine SW.exit ?_ | intro _ | refine And.intro (by omega) ?_) | simp (config := { maxSteps := 1000000 }) (disch := (first | omega | (simp only [go_sem]; try omega))) only [go_sem, Nat.reduceAdd, Nat.reduceEqDiff, Nat.reduceLeDiff, Nat.reduceMul, Nat.reduceLT, reduceIte, Int.reduceToNat, w64_id, cast_succ])
  refine SW.loopE (fun E0 H0 q E' X => ∃ (pre post : List Int), cols = pre ++ post ∧ q = post.length ∧ E' = aput (aput E0 5 (I pre.length)) 4 (I (zc pre)) ∧ X = H ++ [⟨0, 38, 1, [I 0, nilS]⟩] ∧ goodC pre) cols.length ⟨[], cols, rfl, rfl, rfl, rfl, goodC_nil⟩ ?_
  rintro q E' X ⟨pre, post, hq, rfl, rfl, rfl, hgc⟩
  have hzl := zc_le pre
  simp (config := { maxSteps := 1000000 }) (disch := (first | omega | (simp only [go_sem]; try omega))) only [go_sem, Nat.reduceAdd, Nat.reduceEqDiff, Nat.reduceLeDiff, Nat.reduceMul, Nat.reduceLT, reduceIte, Int.reduceToNat, w64_id, cast_succ]
  repeat (first | (with_reducible first | refine SW.seq ?_ | refine SW.block ?_ | refine SW.rowC ?_ | refine SW.skip ?_ | refine SW.exit ?_ | intro _ | refine And.intro (by omega) ?_) | simp (config := { maxSteps := 1000000 }) (disch := (first | omega | (simp only [go_sem]; try omega))) only [go_sem, Nat.reduceAdd, Nat.reduceEqDiff, Nat.reduceLeDiff, Nat.reduceMul, Nat.reduceLT, reduceIte, Int.reduceToNat, w64_id, cast_succ, pa, pl])
  (first | refine SW.condD rfl (fun h2 => ?_) (fun h2 => ?_) | refine SW.condN rfl (fun h2 => ?_) (fun h2 => ?_) | refine SW.condNB rfl (fun h2 => ?_) (fun h2 => ?_) | refine SW.condB rfl (fun h2 => ?_) (fun h2 => ?_))
  · obtain ⟨c, post, rfl, hgx, -⟩ := consOf (d := 0) hq (by omega)
    have hc0 := f4 c (by rw [hq]; simp)
    have hpl : pre.length + post.length + 1 = cols.length := by rw [hq]; simp; omega
    by_cases c1 : 1 < c
    · have d1 : decide (1 < c) = true := decide_eq_true c1
      have hb : dogB cols es = false := by unfold dogB; rw [hq, bad_big c1]; rfl
      rw [hb]
      repeat (first | (with_reducible first | refine SW.seq ?_ | refine SW.block ?_ | refine SW.rowC ?_ | refine SW.skip ?_ | refine SW.exit ?_ | intro _ | refine And.intro (by omega) ?_) | simp (config := { maxSteps := 1000000 }) (disch := (first | omega | (simp only [go_sem]; try omega))) only [go_sem, Nat.reduceAdd, Nat.reduceEqDiff, Nat.reduceLeDiff, Nat.reduceMul, Nat.reduceLT, reduceIte, Int.reduceToNat, w64_id, cast_succ, pa, pl, hgx, d1])
      refine SW.condT rfl ?_
      repeat (first | (with_reducible first | refine SW.seq ?_ | refine SW.block ?_ | refine SW.rowC ?_ | refine SW.skip ?_ | refine SW.exit ?_ | intro _ | refine And.intro (by omega) ?_) | simp (config := { maxSteps := 1000000 }) (disch := (first | omega | (simp only [go_sem]; try omega))) only [go_sem, Nat.reduceAdd, Nat.reduceEqDiff, Nat.reduceLeDiff, Nat.reduceMul, Nat.reduceLT, reduceIte, Int.reduceToNat, w64_id, cast_succ])
      refine SW.ret ?_
      refine FunPost.cell_tmp (cs := [I 0, nilS]) (by simp (config := { maxSteps := 1000000 }) (disch := (first | omega | (simp only [go_sem]; try omega))) only [go_sem, Nat.reduceAdd, Nat.reduceEqDiff, Nat.reduceLeDiff, Nat.reduceMul, Nat.reduceLT, reduceIte, Int.reduceToNat, w64_id, cast_succ]) ?_
      exact GR.froz (froz_tup2 (froz_agg2 (froz_I' _) froz_nilS) (froz_I' _)) ⟨rfl, rfl⟩
    have d1 : decide (1 < c) = false := decide_eq_false c1
    have hnx : (zc pre : Int) + (1 - c) = (zc (pre ++ [c]) : Nat) := by
      rw [zc_snoc]
      by_cases h : c = 0
      · rw [if_pos h]; omega
      · rw [if_neg h]; omega
    by_cases c2 : pre.length = 0
    · have d2 : decide ((0 : Int) < (pre.length : Int)) = false := decide_eq_false (by omega)
      have hgn := goodC_snoc hgc hc0.1 (by omega) (fun h => by omega)
      repeat (first | (with_reducible first | refine SW.seq ?_ | refine SW.block ?_ | refine SW.rowC ?_ | refine SW.skip ?_ | refine SW.exit ?_ | intro _ | refine And.intro (by omega) ?_) | simp (config := { maxSteps := 1000000 }) (disch := (first | omega | (simp only [go_sem]; try omega))) only [go_sem, Nat.reduceAdd, Nat.reduceEqDiff, Nat.reduceLeDiff, Nat.reduceMul, Nat.reduceLT, reduceIte, Int.reduceToNat, w64_id, cast_succ, pa, pl, hgx, d1, d2])
      refine SW.condF rfl ?_
      repeat (first | (with_reducible first | refine SW.seq ?_ | refine SW.block ?_ | refine SW.rowC ?_ | refine SW.skip ?_ | refine SW.exit ?_ | intro _ | refine And.intro (by omega) ?_) | simp (config := { maxSteps := 1000000 }) (disch := (first | omega | (simp only [go_sem]; try omega))) only [go_sem, Nat.reduceAdd, Nat.reduceEqDiff, Nat.reduceLeDiff, Nat.reduceMul, Nat.reduceLT, reduceIte, Int.reduceToNat, w64_id, cast_succ, pa, pl, hgx])
      refine SLoop.next post.length (by simp) ⟨pre ++ [c], post, by rw [hq]; simp, rfl, ?_, rfl, hgn⟩
      rw [hnx]; simp [go_sem]
    have d2 : decide ((0 : Int) < (pre.length : Int)) = true := decide_eq_true (by omega)
    have e1 : (pre.length : Int) - 1 = ((pre.length - 1 : Nat) : Int) := by omega
    have hpv : cols.getD (pre.length - 1) 0 = pre.getD (pre.length - 1) 0 := by rw [hq, List.getD_eq_getElem?_getD, List.getElem?_append_left (by omega), ← List.getD_eq_getElem?_getD]
    by_cases c3 : c < pre.getD (pre.length - 1) 0
    · have d3 : decide (c < pre.getD (pre.length - 1) 0) = true := decide_eq_true c3
      have hb : dogB cols es = false := by unfold dogB; rw [hq, bad_down (by omega) c3]; rfl
      rw [hb]
      repeat (first | (with_reducible first | refine SW.seq ?_ | refine SW.block ?_ | refine SW.rowC ?_ | refine SW.skip ?_ | refine SW.exit ?_ | intro _ | refine And.intro (by omega) ?_) | simp (config := { maxSteps := 1000000 }) (disch := (first | omega | (simp only [go_sem]; try omega))) only [go_sem, Nat.reduceAdd, Nat.reduceEqDiff, Nat.reduceLeDiff, Nat.reduceMul, Nat.reduceLT, reduceIte, Int.reduceToNat, w64_id, cast_succ, pa, pl, hgx, d1, d2, e1, hpv, d3])
      refine SW.condT rfl ?_
      repeat (first | (with_reducible first | refine SW.seq ?_ | refine SW.block ?_ | refine SW.rowC ?_ | refine SW.skip ?_ | refine SW.exit ?_ | intro _ | refine And.intro (by omega) ?_) | simp (config := { maxSteps := 1000000 }) (disch := (first | omega | (simp only [go_sem]; try omega))) only [go_sem, Nat.reduceAdd, Nat.reduceEqDiff, Nat.reduceLeDiff, Nat.reduceMul, Nat.reduceLT, reduceIte, Int.reduceToNat, w64_id, cast_succ])
      refine SW.ret ?_
      refine FunPost.cell_tmp (cs := [I 0, nilS]) (by simp (config := { maxSteps := 1000000 }) (disch := (first | omega | (simp only [go_sem]; try omega))) only [go_sem, Nat.reduceAdd, Nat.reduceEqDiff, Nat.reduceLeDiff, Nat.reduceMul, Nat.reduceLT, reduceIte, Int.reduceToNat, w64_id, cast_succ]) ?_
      exact GR.froz (froz_tup2 (froz_agg2 (froz_I' _) froz_nilS) (froz_I' _)) ⟨rfl, rfl⟩
    have d3 : decide (c < pre.getD (pre.length - 1) 0) = false := decide_eq_false c3
    have hgn := goodC_snoc hgc hc0.1 (by omega) (fun h => by omega)
    repeat (first | (with_reducible first | refine SW.seq ?_ | refine SW.block ?_ | refine SW.rowC ?_ | refine SW.skip ?_ | refine SW.exit ?_ | intro _ | refine And.intro (by omega) ?_) | simp (config := { maxSteps := 1000000 }) (disch := (first | omega | (simp only [go_sem]; try omega))) only [go_sem, Nat.reduceAdd, Nat.reduceEqDiff, Nat.reduceLeDiff, Nat.reduceMul, Nat.reduceLT, reduceIte, Int.reduceToNat, w64_id, cast_succ, pa, pl, hgx, d1, d2, e1, hpv, d3])
    refine SW.condF rfl ?_
    repeat (first | (with_reducible first | refine SW.seq ?_ | refine SW.block ?_ | refine SW.rowC ?_ | refine SW.skip ?_ | refine SW.exit ?_ | intro _ | refine And.intro (by omega) ?_) | simp (config := { maxSteps := 1000000 }) (disch := (first | omega | (simp only [go_sem]; try omega))) only [go_sem, Nat.reduceAdd, Nat.reduceEqDiff, Nat.reduceLeDiff, Nat.reduceMul, Nat.reduceLT, reduceIte, Int.reduceToNat, w64_id, cast_succ, pa, pl, hgx])
    refine SLoop.next post.length (by simp) ⟨pre ++ [c], post, by rw [hq]; simp, rfl, ?_, rfl, hgn⟩
    rw [hnx]; simp [go_sem]
  obtain ⟨he, rfl⟩ := nilOf hq (by omega)
  have hwi := l00In_fn (zc pre) 1 32
  have hdc : decide (pre = twoC (zc pre) (pre.length - zc pre)) = true := decide_eq_true hgc
  cases hww : decide ((1 : Int) ≤ zc pre) && decide ((zc pre : Int) ≤ 32)
  · have hb : dogB pre es = false := by unfold dogB dogC; rw [hdc, hww]; rfl
    rw [hb]
    rw [hww] at hwi
    repeat (first | (with_reducible first | refine SW.seq ?_ | refine SW.block ?_ | refine SW.rowC ?_ | refine SW.skip ?_ | refine SW.exit ?_ | refine PFn.use (hwi) ?_ | refine PFn.useq (hwi) ?_ | intro _ | refine And.intro (by omega) ?_) | simp (config := { maxSteps := 1000000 }) (disch := (first | omega | (simp only [go_sem]; try omega))) only [go_sem, Nat.reduceAdd, Nat.reduceEqDiff, Nat.reduceLeDiff, Nat.reduceMul, Nat.reduceLT, reduceIte, Int.reduceToNat, w64_id, cast_succ, pa, pl])
    refine SW.condT rfl ?_
    repeat (first | (with_reducible first | refine SW.seq ?_ | refine SW.block ?_ | refine SW.rowC ?_ | refine SW.skip ?_ | refine SW.exit ?_ | intro _ | refine And.intro (by omega) ?_) | simp (config := { maxSteps := 1000000 }) (disch := (first | omega | (simp only [go_sem]; try omega))) only [go_sem, Nat.reduceAdd, Nat.reduceEqDiff, Nat.reduceLeDiff, Nat.reduceMul, Nat.reduceLT, reduceIte, Int.reduceToNat, w64_id, cast_succ])
    refine SW.ret ?_
    refine FunPost.cell_tmp (cs := [I 0, nilS]) (by simp (config := { maxSteps := 1000000 }) (disch := (first | omega | (simp only [go_sem]; try omega))) only [go_sem, Nat.reduceAdd, Nat.reduceEqDiff, Nat.reduceLeDiff, Nat.reduceMul, Nat.reduceLT, reduceIte, Int.reduceToNat, w64_id, cast_succ]) ?_
    exact GR.froz (froz_tup2 (froz_agg2 (froz_I' _) froz_nilS) (froz_I' _)) ⟨rfl, rfl⟩
  rw [hww] at hwi
  have hsub : (pre.length : Int) - (zc pre : Int) = ((pre.length - zc pre : Nat) : Int) := by omega
  have hd : dogB pre es = (dogE pre es && !((dogR pre es).any fun l => decide (l.length = 0))) := by unfold dogB dogC; rw [hdc, hww]; rfl
  repeat (first | (with_reducible first | refine SW.seq ?_ | refine SW.block ?_ | refine SW.rowC ?_ | refine SW.skip ?_ | refine SW.exit ?_ | refine PFn.use (hwi) ?_ | refine PFn.useq (hwi) ?_ | intro _ | refine And.intro (by omega) ?_) | simp (config := { maxSteps := 1000000 }) (disch := (first | omega | (simp only [go_sem]; try omega))) only [go_sem, Nat.reduceAdd, Nat.reduceEqDiff, Nat.reduceLeDiff, Nat.reduceMul, Nat.reduceLT, reduceIte, Int.reduceToNat, w64_id, cast_succ, pa, pl])
  refine SW.condF rfl ?_
  repeat (first | (with_reducible first | refine SW.seq ?_ | refine SW.block ?_ | refine SW.rowC ?_ | refine SW.skip ?_ | refine SW.exit ?_ | intro _ | refine And.intro (by omega) ?_) | simp (config := { maxSteps := 1000000 }) (disch := (first | omega | (simp only [go_sem]; try omega))) only [go_sem, Nat.reduceAdd, Nat.reduceEqDiff, Nat.reduceLeDiff, Nat.reduceMul, Nat.reduceLT, reduceIte, Int.reduceToNat, w64_id, cast_succ, pa, pl, hsub])
  have hpl := (List.getElem?_eq_some_iff.1 hp).1
  have hgcc := hgc
  clear hww hwi hdc hgc
  refine SW.loopE (fun E0 H0 m E' X => ∃ (pe post : List (Int × Int)) (cells : List AV), es = pe ++ post ∧ m = post.length ∧ E' = aput E0 7 (I pe.length) ∧ X[H.length]? = some ⟨0, 38, 1, [I 0, nilS]⟩ ∧ GroT X (H.length + 1) (H.length + 1) cells ((nbrT pre.length pe).drop (zc pre)) ∧ dogE pre pe = true ∧ (∀ e ∈ pe, e.1 < (zc pre : Int)) ∧ ∀ j, j < H.length → X[j]? = H[j]?) es.length
    ⟨[], es, List.replicate (pre.length - zc pre) nilS, rfl, rfl, rfl, by simp, ?_, rfl, by simp, fun j hj => by rw [List.getElem?_append_left hj]⟩ ?_
  · rw [rows_zero]
    refine GroT.replicate (Nat.le_refl _) ?_
    simp
  rintro m E' X ⟨pe, post, cells, hqe, rfl, rfl, m0, hO, hpe, hlt, hfX⟩
  have hpX : X[p]? = some ⟨0, tyGr, 1, [ilS pre, ilE es]⟩ := (hfX p hpl).trans hp
  have hTl : ((nbrT pre.length pe).drop (zc pre)).length = pre.length - zc pre := by rw [List.length_drop, nbrT_len]
  have hcl : cells.length = pre.length - zc pre := by rw [hO.len, hTl]
  have pa := fun o => pc_alive (off := o) hpX
  have pl := fun o => pc_ld (off := o) hpX
  have pa' := fun o ext => pc_alive (off := o) (get_appU hpX ext)
  have pl' := fun o ext => pc_ld (off := o) (get_appU hpX ext)
  simp (config := { maxSteps := 1000000 }) (disch := (first | omega | (simp only [go_sem]; try omega))) only [go_sem, Nat.reduceAdd, Nat.reduceEqDiff, Nat.reduceLeDiff, Nat.reduceMul, Nat.reduceLT, reduceIte, Int.reduceToNat, w64_id, cast_succ]
  repeat (first | (with_reducible first | refine SW.seq ?_ | refine SW.block ?_ | refine SW.rowC ?_ | refine SW.skip ?_ | refine SW.exit ?_ | intro _ | refine And.intro (by omega) ?_) | simp (config := { maxSteps := 1000000 }) (disch := (first | omega | (simp only [go_sem]; try omega))) only [go_sem, Nat.reduceAdd, Nat.reduceEqDiff, Nat.reduceLeDiff, Nat.reduceMul, Nat.reduceLT, reduceIte, Int.reduceToNat, w64_id, cast_succ, pa, pl])
  (first | refine SW.condD rfl (fun h4 => ?_) (fun h4 => ?_) | refine SW.condN rfl (fun h4 => ?_) (fun h4 => ?_) | refine SW.condNB rfl (fun h4 => ?_) (fun h4 => ?_) | refine SW.condB rfl (fun h4 => ?_) (fun h4 => ?_))
  · obtain ⟨⟨x, y⟩, post, rfl, hgx, -⟩ := consOf (d := (0, 0)) hqe (by omega)
    obtain ⟨x0, x1, x2⟩ := f3 (x, y) (by rw [hqe]; simp)
    obtain ⟨a, rfl⟩ : ∃ a : Nat, x = a := ⟨x.toNat, by simp at x0; omega⟩
    obtain ⟨b, rfl⟩ : ∃ b : Nat, y = b := ⟨y.toNat, by simp at x0 x1; omega⟩
    replace x2 : b < pre.length := by simpa using x2
    replace x1 : a < b := by simpa using x1
    have l1 : ∀ H, acells H 2 (.el (ilE es) (pe.length * 2)) = some [I (a : Int), I (b : Int)] := fun H => by
      have := (rd_ilE H es).ld (j := pe.length) (by omega)
      rwa [hgx] at this
    have hec := eqc_iff hgcc x1 x2
    have hsn : dogE pre (pe ++ [((a : Int), (b : Int))]) = !(decide (zc pre ≤ a) || decide (b < zc pre)) := by
      rw [← hec]
      unfold dogE at hpe ⊢
      rw [List.all_append, hpe]
      simp
    by_cases cb : zc pre ≤ a ∨ b < zc pre
    · have hb : dogB pre es = false := by
        have hf : dogE pre (pe ++ [((a : Int), (b : Int))]) = false := by
          rw [hsn]
          rcases cb with h | h
          · rw [decide_eq_true h]; rfl
          · rw [decide_eq_true h]; simp
        rw [hd, show dogE pre es = false by
          unfold dogE at hf ⊢
          rw [show es = (pe ++ [((a : Int), (b : Int))]) ++ post by rw [hqe]; simp, List.all_append, hf]; rfl]
        rfl
      rw [hb]
      have m1 := get_appU m0 [(⟨0, tyE, 1, [I (a : Int), I (b : Int)]⟩ : Blk)]
      have md := fun o => pc_alive (off := o) m1
      have ws : astore (X ++ [⟨0, tyE, 1, [I (a : Int), I (b : Int)]⟩]) [I 0, nilS] (.pc H.length 0 0) = some (X ++ [⟨0, tyE, 1, [I (a : Int), I (b : Int)]⟩]) := by
        rw [pc_st m1 (by simp)]
        exact congrArg some (set_same m1)
      have hml := (List.getElem?_eq_some_iff.1 m0).1
      have hbad : GR H (fun r H' => r = AV.tup [AV.agg [I 0, ilSS []], I 6] ∧ H' = H) (AV.tup [AV.agg [I 0, nilS], I 6]) (X ++ [⟨0, tyE, 1, [I (a : Int), I (b : Int)]⟩]) := by
        obtain ⟨ext, he⟩ := ext_ofR (H := H) (H1 := X ++ [(⟨0, tyE, 1, [I (a : Int), I (b : Int)]⟩ : Blk)]) (by simp; omega) (fun j hj => by rw [List.getElem?_append_left (by omega)]; exact hfX j hj)
        rw [he]
        exact GR.froz (froz_tup2 (froz_agg2 (froz_I' _) froz_nilS) (froz_I' _)) ⟨rfl, rfl⟩
      by_cases ca : zc pre ≤ a
      · have d1 : decide ((zc pre : Int) ≤ (a : Int)) = true := decide_eq_true (by omega)
        repeat (first | (with_reducible first | refine SW.seq ?_ | refine SW.block ?_ | refine SW.rowC ?_ | refine SW.skip ?_ | refine SW.exit ?_ | intro _ | refine And.intro (by omega) ?_) | simp (config := { maxSteps := 1000000 }) (disch := (first | omega | (simp only [go_sem]; try omega))) only [go_sem, Nat.reduceAdd, Nat.reduceEqDiff, Nat.reduceLeDiff, Nat.reduceMul, Nat.reduceLT, reduceIte, Int.reduceToNat, w64_id, cast_succ, pa, pl, pa', pl', l1, d1])
        refine SW.condT rfl ?_
        repeat (first | (with_reducible first | refine SW.seq ?_ | refine SW.block ?_ | refine SW.rowC ?_ | refine SW.skip ?_ | refine SW.exit ?_ | intro _ | refine And.intro (by omega) ?_) | simp (config := { maxSteps := 1000000 }) (disch := (first | omega | (simp only [go_sem]; try omega))) only [go_sem, Nat.reduceAdd, Nat.reduceEqDiff, Nat.reduceLeDiff, Nat.reduceMul, Nat.reduceLT, reduceIte, Int.reduceToNat, w64_id, cast_succ, md, ws])
        refine SW.ret ?_
        refine FunPost.cell_tmp (cs := [I 0, nilS]) (pc_lds (get_appU m0 _) (by simp)) ?_
        exact hbad
      · have d1 : decide ((zc pre : Int) ≤ (a : Int)) = false := decide_eq_false (by omega)
        have d2 : decide ((b : Int) < (zc pre : Int)) = true := decide_eq_true (by omega)
        repeat (first | (with_reducible first | refine SW.seq ?_ | refine SW.block ?_ | refine SW.rowC ?_ | refine SW.skip ?_ | refine SW.exit ?_ | intro _ | refine And.intro (by omega) ?_) | simp (config := { maxSteps := 1000000 }) (disch := (first | omega | (simp only [go_sem]; try omega))) only [go_sem, Nat.reduceAdd, Nat.reduceEqDiff, Nat.reduceLeDiff, Nat.reduceMul, Nat.reduceLT, reduceIte, Int.reduceToNat, w64_id, cast_succ, pa, pl, pa', pl', l1, d1, d2])
        refine SW.condT rfl ?_
        repeat (first | (with_reducible first | refine SW.seq ?_ | refine SW.block ?_ | refine SW.rowC ?_ | refine SW.skip ?_ | refine SW.exit ?_ | intro _ | refine And.intro (by omega) ?_) | simp (config := { maxSteps := 1000000 }) (disch := (first | omega | (simp only [go_sem]; try omega))) only [go_sem, Nat.reduceAdd, Nat.reduceEqDiff, Nat.reduceLeDiff, Nat.reduceMul, Nat.reduceLT, reduceIte, Int.reduceToNat, w64_id, cast_succ, md, ws])
        refine SW.ret ?_
        refine FunPost.cell_tmp (cs := [I 0, nilS]) (pc_lds (get_appU m0 _) (by simp)) ?_
        exact hbad
    have d1 : decide ((zc pre : Int) ≤ (a : Int)) = false := decide_eq_false (by omega)
    have d2 : decide ((b : Int) < (zc pre : Int)) = false := decide_eq_false (by omega)
    have hf : dogE pre (pe ++ [((a : Int), (b : Int))]) = true := by
      rw [hsn, decide_eq_false (by omega), decide_eq_false (by omega)]; rfl
    have hlt2 : ∀ e ∈ pe ++ [((a : Int), (b : Int))], e.1 < (zc pre : Int) := fun e he => by
      rcases List.mem_append.1 he with h | h
      · exact hlt e h
      · rw [List.mem_singleton.1 h]; simp; omega
    have hbv : (b : Int) - (zc pre : Int) = ((b - zc pre : Nat) : Int) := by omega
    have hrs := rows_snoc pre.length pe (v := zc pre) (a := a) (b := b) (by omega) (by omega) x2
    have vt' : ∀ ext, aview (X ++ ext) (.nm (H.length + 1) 0 0 (pre.length - zc pre)) = some (pre.length - zc pre, cells) := fun ext => view_nm (get_appB2 hO.tb ext) hcl
    repeat (first | (with_reducible first | refine SW.seq ?_ | refine SW.block ?_ | refine SW.rowC ?_ | refine SW.skip ?_ | refine SW.exit ?_ | intro _ | refine And.intro (by omega) ?_) | simp (config := { maxSteps := 1000000 }) (disch := (first | omega | (simp only [go_sem]; try omega))) only [go_sem, Nat.reduceAdd, Nat.reduceEqDiff, Nat.reduceLeDiff, Nat.reduceMul, Nat.reduceLT, reduceIte, Int.reduceToNat, w64_id, cast_succ, pa, pl, pa', pl', l1, d1, d2])
    refine SW.condF rfl ?_
    repeat (first | (with_reducible first | refine SW.seq ?_ | refine SW.block ?_ | refine SW.rowC ?_ | refine SW.skip ?_ | refine SW.exit ?_ | intro _ | refine And.intro (by omega) ?_) | simp (config := { maxSteps := 1000000 }) (disch := (first | omega | (simp only [go_sem]; try omega))) only [go_sem, Nat.reduceAdd, Nat.reduceEqDiff, Nat.reduceLeDiff, Nat.reduceMul, Nat.reduceLT, reduceIte, Int.reduceToNat, w64_id, cast_succ, pa, pl, pa', pl', l1])
    have hXl := (List.getElem?_eq_some_iff.1 hO.tb).1
    have hTa : ((nbrT pre.length pe).drop (zc pre)).getD (b - zc pre) [] = nbr pe b := by
      unfold nbrT
      rw [List.getD_eq_getElem?_getD, List.getElem?_drop, show zc pre + (b - zc pre) = b by omega, List.getElem?_map, List.getElem?_range x2]; rfl
    have hnl := nbr_len pe b
    have hpel : pe.length ≤ es.length := by rw [hqe]; simp
    rw [← hTa] at hnl
    generalize hTT : (nbrT pre.length pe).drop (zc pre) = T at *
    refine SW.mixR (fun E' Z => aget E' 0 = .pc p 0 0 ∧ aget E' 2 = .pc H.length 0 0 ∧ aget E' 4 = I (zc pre) ∧ aget E' 6 = .nm (H.length + 1) 0 0 (pre.length - zc pre) ∧ aget E' 7 = I pe.length ∧ ∃ cells2, GroT Z (H.length + 1) (H.length + 1) cells2 (addR T (b - zc pre) a) ∧ Z[H.length]? = X[H.length]? ∧ ∀ j, j < H.length → Z[j]? = X[j]?) ?_ ?_
    · have hb0 : ∀ ext, (X ++ ⟨0, tyE, 1, [I (a : Int), I (b : Int)]⟩ :: ext)[X.length]? = some ⟨0, tyE, 1, [I (a : Int), I (b : Int)]⟩ := fun ext => by rw [List.getElem?_append_right (Nat.le_refl _), Nat.sub_self]; rfl
      have qa := fun o ext => pc_alive (off := o) (hb0 ext)
      have ql := fun o ext => pc_ld (off := o) (hb0 ext)
      obtain ⟨c, hca⟩ : ∃ c, cells[b - zc pre]? = some c := ⟨_, List.getElem?_eq_getElem (by omega)⟩
      simp (config := { maxSteps := 1000000 }) (disch := (first | omega | (simp only [go_sem]; try omega))) only [go_sem, Nat.reduceAdd, Nat.reduceEqDiff, Nat.reduceLeDiff, Nat.reduceMul, Nat.reduceLT, reduceIte, Int.reduceToNat, w64_id, cast_succ, qa, ql, vt', hca, hbv]
      repeat' (with_reducible refine And.intro ?_ ?_)
      all_goals
        refine hO.app (by simp) (fun j bl hb => get_appB2 hb _) hca (by omega) (a : Int) ?_
        intro v Z c1 hZl hZt hG hfr hft
        have hZl2 : X.length + 1 < Z.length := by simp at hZl; omega
        have hZb : Z[X.length]? = some ⟨0, tyE, 1, [I a, I b]⟩ := by rw [hfr X.length (.inr (Nat.le_refl _)) (by simp)]; simp
        have za := fun o => pc_alive (off := o) hZb
        have zl := fun o => pc_ld (off := o) hZb
        have zv : aview Z (.nm (H.length + 1) 0 0 (pre.length - zc pre)) = some (pre.length - zc pre, cells) := view_nm hZt hcl
        have zw : astore Z [v] (.el (.nm (H.length + 1) 0 0 (pre.length - zc pre)) (b - zc pre)) = some (Z.set (H.length + 1) ⟨0, tyLL, 1, cells.set (b - zc pre) v⟩) := by rw [store_nm hZt (by omega)]
        have fin : ∃ cells2, GroT (Z.set (H.length + 1) ⟨0, tyLL, 1, cells.set (b - zc pre) v⟩) (H.length + 1) (H.length + 1) cells2 (addR T (b - zc pre) a) ∧ (Z.set (H.length + 1) ⟨0, tyLL, 1, cells.set (b - zc pre) v⟩)[H.length]? = X[H.length]? ∧ ∀ j, j < H.length → (Z.set (H.length + 1) ⟨0, tyLL, 1, cells.set (b - zc pre) v⟩)[j]? = X[j]? := by
          refine ⟨_, hG, ?_, fun j hj => ?_⟩
          · rw [List.getElem?_set_ne (by omega), hfr _ (.inl (by omega)) (by simp; omega), List.getElem?_append_left (by omega)]
          · rw [List.getElem?_set_ne (by omega), hfr _ (.inl (by omega)) (by simp; omega), List.getElem?_append_left (by omega)]
        simp (config := { maxSteps := 1000000 }) (disch := (first | omega | (simp only [go_sem]; try omega))) only [go_sem, Nat.reduceAdd, Nat.reduceEqDiff, Nat.reduceLeDiff, Nat.reduceMul, Nat.reduceLT, reduceIte, Int.reduceToNat, w64_id, cast_succ, za, zl, zv, zw, hbv, c1.1, c1.2]
        exact fin
    rintro E2 Z ⟨e0, e2, e4, e6, e7, cells2, hO2, hZ0, hZf⟩
    simp (config := { maxSteps := 1000000 }) (disch := (first | omega | (simp only [go_sem]; try omega))) only [go_sem, Nat.reduceAdd, Nat.reduceEqDiff, Nat.reduceLeDiff, Nat.reduceMul, Nat.reduceLT, reduceIte, Int.reduceToNat, w64_id, cast_succ, e0, e2, e4, e6, e7]
    repeat (first | (with_reducible first | refine SW.seq ?_ | refine SW.block ?_ | refine SW.rowC ?_ | refine SW.skip ?_ | refine SW.exit ?_ | intro _ | refine And.intro (by omega) ?_) | simp (config := { maxSteps := 1000000 }) (disch := (first | omega | (simp only [go_sem]; try omega))) only [go_sem, Nat.reduceAdd, Nat.reduceEqDiff, Nat.reduceLeDiff, Nat.reduceMul, Nat.reduceLT, reduceIte, Int.reduceToNat, w64_id, cast_succ])
    exact SLoop.next post.length (by simp) ⟨pe ++ [((a : Int), (b : Int))], post, cells2, by rw [hqe]; simp, rfl, by simp [go_sem], hZ0.trans m0, hrs ▸ hO2, hf, hlt2, fun j hj => (hZf j hj).trans (hfX j hj)⟩
  obtain ⟨he2, rfl⟩ := nilOf hqe (by omega)
  have hrr : dogR pre pe = (nbrT pre.length pe).drop (zc pre) := by
    unfold dogR
    refine rows_isort ?_ hlt
    unfold grB edsB at hg
    simp only [Bool.and_eq_true, decide_eq_true_eq] at hg
    exact hg.1.2
  rw [hpe, Bool.true_and] at hd
  rw [hrr] at hd ⊢
  have hTb : ∀ x ∈ (nbrT pre.length pe).drop (zc pre), x.length ≤ 2000000 := fun x hx => by
    obtain ⟨k, _, rfl⟩ := List.mem_map.1 (List.mem_of_mem_drop hx)
    have := nbr_len pe k
    omega
  have hcl0 := hO.own
  generalize (nbrT pre.length pe).drop (zc pre) = T at *
  have hml := (List.getElem?_eq_some_iff.1 m0).1
  have ho : OwnSS X (Fr (H.length + 1)) (.nm (H.length + 1) 0 0 (pre.length - zc pre)) T := .inl ⟨_, _, _, _, by rw [hTl], hcl0⟩
  have hof : Froz X (H.length + 1) (.nm (H.length + 1) 0 0 (pre.length - zc pre)) (ilSS T) := ho.froz (fun r hr => hr)
  obtain ⟨ext, he⟩ := ext_ofR (H := H ++ [(⟨0, 38, 1, [I 0, nilS]⟩ : Blk)]) (H1 := X) (by simp; omega) (fun j hj => by
    by_cases hj2 : j < H.length
    · rw [List.getElem?_append_left hj2]; exact hfX j hj2
    · have : j = H.length := by simp at hj; omega
      subst this
      rw [m0]; simp)
  have hBb : HB (H ++ [(⟨0, 38, 1, [I 0, nilS]⟩ : Blk)]) := hB.app (k := H.length) (by (simp only [go_sem, Nat.reduceAdd, Nat.reduceEqDiff, reduceIte, go_sem, and_self, and_true, true_and, implies_true, List.take_succ_cons, List.take_zero, and_true, true_and]; try omega)) (by simp)
  have hHl : (H ++ [(⟨0, 38, 1, [I 0, nilS]⟩ : Blk)]).length = H.length + 1 := by simp
  subst he
  clear pa pl pa' pl' hO hcl0 ho m0 hfX hcl hpX hml
  refine SW.froz (E' := [(0, .pc p 0 0), (2, .pc H.length 0 0), (4, I (zc pre)), (6, ilSS T), (7, I pe.length), (78, Bv (decide ((pe.length : Int) < pe.length)))]) hBb (by simp) (.cons _ (.old _ (by rw [hHl]; simp [go_sem]; omega)) (.cons _ (.old _ (by rw [hHl]; simp [go_sem])) (.cons _ (ren_I _) (.cons _ (by rw [hHl]; exact ren_of_frozR hof) (.cons _ (ren_I _) (.cons _ (ren_B _) .nil)))))) ?_
  repeat (first | (with_reducible first | refine SW.seq ?_ | refine SW.block ?_ | refine SW.rowC ?_ | refine SW.skip ?_ | refine SW.exit ?_ | intro _ | refine And.intro (by omega) ?_) | simp (config := { maxSteps := 1000000 }) (disch := (first | omega | (simp only [go_sem]; try omega))) only [go_sem, Nat.reduceAdd, Nat.reduceEqDiff, Nat.reduceLeDiff, Nat.reduceMul, Nat.reduceLT, reduceIte, Int.reduceToNat, w64_id, cast_succ])
  refine SW.loopE (fun E0 H0 q E' Y => ∃ (p1 p2 : List (List Int)), T = p1 ++ p2 ∧ q = p2.length ∧ E' = aput E0 9 (I p1.length) ∧ Y = H ++ [⟨0, 38, 1, [I 0, nilS]⟩] ∧ (p1.any fun l => decide (l.length = 0)) = false) T.length ⟨[], T, rfl, rfl, rfl, rfl, rfl⟩ ?_
  rintro q E' Y ⟨p1, p2, hq2, rfl, rfl, rfl, hne⟩
  simp (config := { maxSteps := 1000000 }) (disch := (first | omega | (simp only [go_sem]; try omega))) only [go_sem, Nat.reduceAdd, Nat.reduceEqDiff, Nat.reduceLeDiff, Nat.reduceMul, Nat.reduceLT, reduceIte, Int.reduceToNat, w64_id, cast_succ]
  repeat (first | (with_reducible first | refine SW.seq ?_ | refine SW.block ?_ | refine SW.rowC ?_ | refine SW.skip ?_ | refine SW.exit ?_ | intro _ | refine And.intro (by omega) ?_) | simp (config := { maxSteps := 1000000 }) (disch := (first | omega | (simp only [go_sem]; try omega))) only [go_sem, Nat.reduceAdd, Nat.reduceEqDiff, Nat.reduceLeDiff, Nat.reduceMul, Nat.reduceLT, reduceIte, Int.reduceToNat, w64_id, cast_succ])
  (first | refine SW.condD rfl (fun h5 => ?_) (fun h5 => ?_) | refine SW.condN rfl (fun h5 => ?_) (fun h5 => ?_) | refine SW.condNB rfl (fun h5 => ?_) (fun h5 => ?_) | refine SW.condB rfl (fun h5 => ?_) (fun h5 => ?_))
  · obtain ⟨l, p2, rfl, hgl, -⟩ := consOf (d := []) hq2 (by omega)
    by_cases hz : l.length = 0
    · have hb : dogB pre pe = false := by
        rw [hd, show (T.any fun l => decide (l.length = 0)) = true from List.any_eq_true.2 ⟨l, by rw [hq2]; simp, decide_eq_true hz⟩]
        rfl
      rw [hb]
      have d1 : decide ((l.length : Int) = 0) = true := decide_eq_true (by omega)
      repeat (first | (with_reducible first | refine SW.seq ?_ | refine SW.block ?_ | refine SW.rowC ?_ | refine SW.skip ?_ | refine SW.exit ?_ | intro _ | refine And.intro (by omega) ?_) | simp (config := { maxSteps := 1000000 }) (disch := (first | omega | (simp only [go_sem]; try omega))) only [go_sem, Nat.reduceAdd, Nat.reduceEqDiff, Nat.reduceLeDiff, Nat.reduceMul, Nat.reduceLT, reduceIte, Int.reduceToNat, w64_id, cast_succ, hgl, d1])
      refine SW.condT rfl ?_
      repeat (first | (with_reducible first | refine SW.seq ?_ | refine SW.block ?_ | refine SW.rowC ?_ | refine SW.skip ?_ | refine SW.exit ?_ | intro _ | refine And.intro (by omega) ?_) | simp (config := { maxSteps := 1000000 }) (disch := (first | omega | (simp only [go_sem]; try omega))) only [go_sem, Nat.reduceAdd, Nat.reduceEqDiff, Nat.reduceLeDiff, Nat.reduceMul, Nat.reduceLT, reduceIte, Int.reduceToNat, w64_id, cast_succ])
      refine SW.ret ?_
      refine FunPost.cell_tmp (cs := [I 0, nilS]) (by simp (config := { maxSteps := 1000000 }) (disch := (first | omega | (simp only [go_sem]; try omega))) only [go_sem, Nat.reduceAdd, Nat.reduceEqDiff, Nat.reduceLeDiff, Nat.reduceMul, Nat.reduceLT, reduceIte, Int.reduceToNat, w64_id, cast_succ]) ?_
      exact GR.froz (froz_tup2 (froz_agg2 (froz_I' _) froz_nilS) (froz_I' _)) ⟨rfl, rfl⟩
    · have d1 : decide ((l.length : Int) = 0) = false := decide_eq_false (by omega)
      repeat (first | (with_reducible first | refine SW.seq ?_ | refine SW.block ?_ | refine SW.rowC ?_ | refine SW.skip ?_ | refine SW.exit ?_ | intro _ | refine And.intro (by omega) ?_) | simp (config := { maxSteps := 1000000 }) (disch := (first | omega | (simp only [go_sem]; try omega))) only [go_sem, Nat.reduceAdd, Nat.reduceEqDiff, Nat.reduceLeDiff, Nat.reduceMul, Nat.reduceLT, reduceIte, Int.reduceToNat, w64_id, cast_succ, hgl, d1])
      refine SW.condF rfl ?_
      repeat (first | (with_reducible first | refine SW.seq ?_ | refine SW.block ?_ | refine SW.rowC ?_ | refine SW.skip ?_ | refine SW.exit ?_ | intro _ | refine And.intro (by omega) ?_) | simp (config := { maxSteps := 1000000 }) (disch := (first | omega | (simp only [go_sem]; try omega))) only [go_sem, Nat.reduceAdd, Nat.reduceEqDiff, Nat.reduceLeDiff, Nat.reduceMul, Nat.reduceLT, reduceIte, Int.reduceToNat, w64_id, cast_succ, hgl])
      exact SLoop.next p2.length (by simp) ⟨p1 ++ [l], p2, by rw [hq2]; simp, rfl, by simp [go_sem], rfl, by rw [List.any_append, hne]; simpa using hz⟩
  obtain ⟨rfl, rfl⟩ := nilOf hq2 (by omega)
  have hb : dogB pre pe = true := by
    rw [hd, hne]
    rfl
  rw [hb]
  have hso := l10SortF_fn p1 (by omega) hTb
  generalize hS : sortD cmpL p1 = S at *
  repeat (first | (with_reducible first | refine SW.seq ?_ | refine SW.block ?_ | refine SW.rowC ?_ | refine SW.skip ?_ | refine SW.exit ?_ | refine PFn.use (hso) ?_ | refine PFn.useq (hso) ?_ | intro _ | refine And.intro (by omega) ?_) | simp (config := { maxSteps := 1000000 }) (disch := (first | omega | (simp only [go_sem]; try omega))) only [go_sem, Nat.reduceAdd, Nat.reduceEqDiff, Nat.reduceLeDiff, Nat.reduceMul, Nat.reduceLT, reduceIte, Int.reduceToNat, w64_id, cast_succ])
  refine SW.ret ?_
  refine FunPost.cell_tmp (cs := [I (zc pre), ilSS S]) (by simp (config := { maxSteps := 1000000 }) (disch := (first | omega | (simp only [go_sem]; try omega))) only [go_sem, Nat.reduceAdd, Nat.reduceEqDiff, Nat.reduceLeDiff, Nat.reduceMul, Nat.reduceLT, reduceIte, Int.reduceToNat, w64_id, cast_succ]) ?_
  exact GR.froz (froz_tup2 (froz_agg2 (froz_I' _) (froz_ilSS _)) (froz_I' _)) ⟨rfl, rfl⟩
theorem specDog_fn (cols : List Int) (es : List (Int × Int)) : PFn Try.prog f_spec_DesignOfGraph [.agg [ilS cols, ilE es]] (.tup [.agg [I (dogN cols es), ilSS (dogV cols es)], I (dogA cols es)]) := by
  have hv := l21Ok_fn cols es
  have hbe := fun b => Bel_ilE b es
  intro H
  unfold dogN dogV dogA
  cases hg : grB cols es
  · rw [hg] at hv
    refine ACalls.introB s_spec_DesignOfGraph (by simp) ?_; intro hB hA; unfold c_spec_DesignOfGraph; simp (config := { maxSteps := 1000000 }) (disch := (first | omega | (simp only [go_sem]; try omega))) only [go_sem, Nat.reduceAdd, Nat.reduceEqDiff, Nat.reduceLeDiff, Nat.reduceMul, Nat.reduceLT, reduceIte, Int.reduceToNat, w64_id, cast_succ]
    repeat (first | (with_reducible first | refine SW.seq ?_ | refine SW.block ?_ | refine SW.rowC ?_ | refine SW.skip ?_ | refine SW.exit ?_ | refine PFn.use (hv) ?_ | refine PFn.useq (hv) ?_ | intro _ | refine And.intro (by omega) ?_) | simp (config := { maxSteps := 1000000 }) (disch := (first | omega | (simp only [go_sem]; try omega))) only [go_sem, Nat.reduceAdd, Nat.reduceEqDiff, Nat.reduceLeDiff, Nat.reduceMul, Nat.reduceLT, reduceIte, Int.reduceToNat, w64_id, cast_succ])
    refine SW.condT rfl ?_
    repeat (first | (with_reducible first | refine SW.seq ?_ | refine SW.block ?_ | refine SW.rowC ?_ | refine SW.skip ?_ | refine SW.exit ?_ | intro _ | refine And.intro (by omega) ?_) | simp (config := { maxSteps := 1000000 }) (disch := (first | omega | (simp only [go_sem]; try omega))) only [go_sem, Nat.reduceAdd, Nat.reduceEqDiff, Nat.reduceLeDiff, Nat.reduceMul, Nat.reduceLT, reduceIte, Int.reduceToNat, w64_id, cast_succ])
    refine SW.ret ?_
    refine FunPost.cell_tmp (cs := [I 0, nilS]) (by simp (config := { maxSteps := 1000000 }) (disch := (first | omega | (simp only [go_sem]; try omega))) only [go_sem, Nat.reduceAdd, Nat.reduceEqDiff, Nat.reduceLeDiff, Nat.reduceMul, Nat.reduceLT, reduceIte, Int.reduceToNat, w64_id, cast_succ]) ?_
    exact GR.froz (froz_tup2 (froz_agg2 (froz_I' _) froz_nilS) (froz_I' _)) ⟨rfl, rfl⟩
  rw [hg] at hv
  refine ACalls.introB s_spec_DesignOfGraph (by simp) ?_; intro hB hA; unfold c_spec_DesignOfGraph; simp (config := { maxSteps := 1000000 }) (disch := (first | omega | (simp only [go_sem]; try omega))) only [go_sem, Nat.reduceAdd, Nat.reduceEqDiff, Nat.reduceLeDiff, Nat.reduceMul, Nat.reduceLT, reduceIte, Int.reduceToNat, w64_id, cast_succ]
  repeat (first | (with_reducible first | refine SW.seq ?_ | refine SW.block ?_ | refine SW.rowC ?_ | refine SW.skip ?_ | refine SW.exit ?_ | refine PFn.use (hv) ?_ | refine PFn.useq (hv) ?_ | intro _ | refine And.intro (by omega) ?_) | simp (config := { maxSteps := 1000000 }) (disch := (first | omega | (simp only [go_sem]; try omega))) only [go_sem, Nat.reduceAdd, Nat.reduceEqDiff, Nat.reduceLeDiff, Nat.reduceMul, Nat.reduceLT, reduceIte, Int.reduceToNat, w64_id, cast_succ])
  refine SW.condF rfl ?_
  repeat (first | (with_reducible first | refine SW.seq ?_ | refine SW.block ?_ | refine SW.rowC ?_ | refine SW.skip ?_ | refine SW.exit ?_ | intro _ | refine And.intro (by omega) ?_) | simp (config := { maxSteps := 1000000 }) (disch := (first | omega | (simp only [go_sem]; try omega))) only [go_sem, Nat.reduceAdd, Nat.reduceEqDiff, Nat.reduceLeDiff, Nat.reduceMul, Nat.reduceLT, reduceIte, Int.reduceToNat, w64_id, cast_succ])
  refine (l23Design_ok _ H.length cols es (by simp) hg).mono ?_
  rintro r X ⟨rfl, rfl⟩
  generalize (if dogB cols es = true then sortD cmpL (dogR cols es) else []) = S
  repeat (first | (with_reducible first | refine SW.seq ?_ | refine SW.block ?_ | refine SW.rowC ?_ | refine SW.skip ?_ | refine SW.exit ?_ | intro _ | refine And.intro (by omega) ?_) | simp (config := { maxSteps := 1000000 }) (disch := (first | omega | (simp only [go_sem]; try omega))) only [go_sem, Nat.reduceAdd, Nat.reduceEqDiff, Nat.reduceLeDiff, Nat.reduceMul, Nat.reduceLT, reduceIte, Int.reduceToNat, w64_id, cast_succ])
  refine SW.ret ?_
  refine FunPost.cell_tmp (cs := [I (if dogB cols es = true then (zc cols : Int) else 0), ilSS S]) (by simp (config := { maxSteps := 1000000 }) (disch := (first | omega | (simp only [go_sem]; try omega))) only [go_sem, Nat.reduceAdd, Nat.reduceEqDiff, Nat.reduceLeDiff, Nat.reduceMul, Nat.reduceLT, reduceIte, Int.reduceToNat, w64_id, cast_succ]) ?_
  exact GR.froz (froz_tup2 (froz_agg2 (froz_I' _) (froz_ilSS _)) (froz_I' _)) ⟨rfl, rfl⟩
end Go.Proofs.Ytmdeibdplpodpaa
