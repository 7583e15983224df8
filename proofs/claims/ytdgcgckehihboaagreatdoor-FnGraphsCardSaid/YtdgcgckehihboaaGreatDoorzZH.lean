/- Graphs read: the program's ReadGraph. -/
import Derived.Test.YtdgcgckehihboaaGreatDoorProg
import Derived.KernelRfl
import Derived.Test.YtdgcgckehihboaaGreatDoorzZF
import Derived.Test.YtdgcgckehihboaaGreatDoorzZD
set_option linter.unusedSimpArgs false
set_option linter.unusedVariables false
set_option linter.unusedSectionVars false
set_option maxHeartbeats 4000000
set_option maxRecDepth 100000
namespace Go.Proofs.YtdgcgckehihboaaGreatDoor
variable [Go.Av.DoorC] [Go.Proofs.YtdgcgckehihboaaGreatDoor.DoorT]
open Go.Av
abbrev f_impl_ReadGraph : Nat := 6
def c_impl_ReadGraph : SC :=
 .seq (.reg [
     ⟨(some 2), .alloc 27 [(.slice none 0 0), (.slice none 0 0)], none⟩,
     ⟨(some 3), .mv (.const (.bool false)), none⟩] [0, 2])
 (.seq (.reg [
     ⟨(some 15), .mv (.tmp 0), none⟩,
     ⟨(some 16), .call 16 [(.tmp 15), (.const (.string ⟨#[59]⟩))], none⟩,
     ⟨(some 14), .mv (.tmp 16), none⟩,
     ⟨(some 17), .ext (.tmp 14) 0, none⟩,
     ⟨(some 18), .ext (.tmp 14) 1, none⟩,
     ⟨(some 19), .ext (.tmp 14) 2, none⟩,
     ⟨(some 4), .mv (.tmp 17), none⟩,
     ⟨(some 5), .mv (.tmp 18), none⟩,
     ⟨(some 6), .mv (.tmp 19), none⟩] [0, 2, 4, 5])
 (.seq (.reg [
     ⟨(some 7), .alloc 27 [(.slice none 0 0), (.slice none 0 0)], none⟩] [0, 2, 4, 5, 7])
 (.seq (.reg [
     ⟨(some 21), .mv (.tmp 4), none⟩,
     ⟨(some 22), .call 17 [(.tmp 21)], none⟩,
     ⟨(some 20), .mv (.tmp 22), none⟩,
     ⟨(some 23), .ext (.tmp 20) 0, none⟩,
     ⟨(some 24), .ext (.tmp 20) 1, none⟩,
     ⟨(some 25), .faddr 0 (.tmp 7), none⟩,
     ⟨none, .store 1 (.tmp 25) (.tmp 23), none⟩] [0, 2, 5, 7])
 (.seq (.seq (.reg [
     ⟨(some 26), .mv (.tmp 5), none⟩,
     ⟨(some 27), .sop (.eql true) [(.tmp 26), (.const (.string ByteArray.empty))], none⟩] [0, 2, 5, 7, 27])
 (.cond (.tmp 27)
  (.seq (.reg [
      ⟨(some 28), .mv (.tmp 5), none⟩,
      ⟨(some 29), .call 18 [(.tmp 28), (.const (.string ⟨#[44]⟩))], none⟩,
      ⟨(some 30), .len (.tmp 29), none⟩,
      ⟨(some 31), .mv (.const (.int .i64 0)), none⟩] [0, 2, 7, 29, 30, 31])
  (.block 0 (.loop [0, 2, 7, 29, 30, 31]
    (.seq (.reg [
        ⟨(some 32), .bin .lss (.tmp 31) (.tmp 30), none⟩] [0, 2, 7, 29, 30, 31, 32])
    (.seq (.cond (.tmp 32)
     (.skip)
     (.exit 0))
    (.seq (.block 1 (.seq (.reg [
         ⟨(some 33), .iaddr 1 (.tmp 29) (.tmp 31), none⟩,
         ⟨(some 34), .load 1 false (.tmp 33), none⟩,
         ⟨(some 9), .mv (.tmp 34), none⟩] [0, 2, 7, 9, 29, 30, 31])
     (.seq (.reg [
         ⟨(some 36), .mv (.tmp 9), none⟩,
         ⟨(some 37), .call 16 [(.tmp 36), (.const (.string ⟨#[45]⟩))], none⟩,
         ⟨(some 35), .mv (.tmp 37), none⟩,
         ⟨(some 38), .ext (.tmp 35) 0, none⟩,
         ⟨(some 39), .ext (.tmp 35) 1, none⟩,
         ⟨(some 40), .ext (.tmp 35) 2, none⟩,
         ⟨(some 10), .mv (.tmp 38), none⟩,
         ⟨(some 11), .mv (.tmp 39), none⟩,
         ⟨(some 12), .mv (.tmp 40), none⟩] [0, 2, 7, 10, 11, 29, 30, 31])
     (.seq (.reg [
         ⟨(some 13), .alloc 49 [(.int .i64 0), (.int .i64 0)], none⟩] [0, 2, 7, 10, 11, 13, 29, 30, 31])
     (.seq (.reg [
         ⟨(some 42), .mv (.tmp 10), none⟩,
         ⟨(some 43), .call 19 [(.tmp 42)], none⟩,
         ⟨(some 41), .mv (.tmp 43), none⟩,
         ⟨(some 44), .ext (.tmp 41) 0, none⟩,
         ⟨(some 45), .ext (.tmp 41) 1, none⟩,
         ⟨(some 46), .faddr 0 (.tmp 13), none⟩,
         ⟨none, .store 1 (.tmp 46) (.tmp 44), none⟩] [0, 2, 7, 11, 13, 29, 30, 31])
     (.seq (.reg [
         ⟨(some 48), .mv (.tmp 11), none⟩,
         ⟨(some 49), .call 19 [(.tmp 48)], none⟩,
         ⟨(some 47), .mv (.tmp 49), none⟩,
         ⟨(some 50), .ext (.tmp 47) 0, none⟩,
         ⟨(some 51), .ext (.tmp 47) 1, none⟩,
         ⟨(some 52), .faddr 1 (.tmp 13), none⟩,
         ⟨none, .store 1 (.tmp 52) (.tmp 50), none⟩] [0, 2, 7, 13, 29, 30, 31])
     (.reg [
         ⟨(some 53), .faddr 1 (.tmp 7), none⟩,
         ⟨(some 54), .load 1 false (.tmp 53), none⟩,
         ⟨(some 55), .load 2 true (.tmp 13), none⟩,
         ⟨(some 56), .bslice 49 2 1 [(.int .i64 0), (.int .i64 0)] [(0, (.tmp 55))], none⟩,
         ⟨(some 57), .app 49 2 16 (.tmp 54) (.tmp 56), none⟩,
         ⟨(some 58), .faddr 1 (.tmp 7), none⟩,
         ⟨none, .store 1 (.tmp 58) (.tmp 57), none⟩] [0, 2, 7, 29, 30, 31])))))))
    (.reg [
        ⟨(some 59), .bin .add (.tmp 31) (.const (.int .i64 1)), none⟩,
        ⟨(some 31), .mv (.tmp 59), none⟩] [0, 2, 7, 29, 30, 31])))))))
  (.skip)))
 (.seq (.seq (.reg [
     ⟨(some 60), .load 2 true (.tmp 7), none⟩,
     ⟨(some 61), .call 12 [(.tmp 60)], none⟩,
     ⟨(some 62), .un .not (.tmp 61), none⟩,
     ⟨(some 63), .mv (.tmp 62), none⟩,
     ⟨(some 64), .load 2 true (.tmp 7), (some (63, false))⟩,
     ⟨(some 65), .call 7 [(.tmp 64)], (some (63, false))⟩,
     ⟨(some 66), .mv (.tmp 0), (some (63, false))⟩,
     ⟨(some 67), .sop (.eql true) [(.tmp 65), (.tmp 66)], (some (63, false))⟩,
     ⟨(some 68), .pick (.tmp 63) (.const (.bool true)) (.tmp 67), none⟩] [2, 7, 68])
 (.cond (.tmp 68)
  (.seq (.reg [
      ⟨(some 69), .build [(.slice none 0 0), (.slice none 0 0)] [], none⟩,
      ⟨none, .store 2 (.tmp 2) (.tmp 69), none⟩,
      ⟨(some 3), .mv (.const (.bool false)), none⟩] [2, 3])
  (.ret))
  (.skip)))
 (.seq (.reg [
     ⟨(some 70), .load 2 true (.tmp 7), none⟩,
     ⟨none, .store 2 (.tmp 2) (.tmp 70), none⟩,
     ⟨(some 3), .mv (.const (.bool true)), none⟩] [2, 3])
 (.ret)))))))
theorem s_impl_ReadGraph : stripF Tryz.prog 6 [[0, 2], [0, 2, 4, 5], [0, 2, 4, 5, 7], [0, 2, 5, 7], [0, 2, 5, 7, 27], [0, 2, 7, 29, 30, 31], [0, 2, 7, 29, 30, 31], [0, 2, 7, 29, 30, 31, 32], [0, 2, 7, 9, 29, 30, 31], [0, 2, 7, 10, 11, 29, 30, 31], [0, 2, 7, 10, 11, 13, 29, 30, 31], [0, 2, 7, 11, 13, 29, 30, 31], [0, 2, 7, 13, 29, 30, 31], [0, 2, 7, 29, 30, 31], [0, 2, 7, 29, 30, 31], [2, 7, 68], [2, 3], [2, 3]] = some (c_impl_ReadGraph, [.cell 2 2, .tmp 3], 71) := by kernel_rfl
def GrB (H : List Blk) (o : Option (List Int × List (Int × Int))) (r : AV) (H' : List Blk) : Prop :=
  ∃ ext v u q, H' = H ++ ext ∧ r = .tup [.agg [v, u], Bv o.isSome] ∧ H.length ≤ q ∧ q ≤ H'.length ∧ OwnS H' (Btw H.length q) H'.length v (o.getD ([], [])).1 ∧ OwnE H' (Btw q H'.length) u (o.getD ([], [])).2
theorem nilGB {H H' : List Blk} (h : ∃ ext, H' = H ++ ext) : GrB H none (.tup [.agg [nilS, nilS], Bv false]) H' := by
  obtain ⟨ext, rfl⟩ := h
  exact ⟨ext, nilS, nilS, H.length, rfl, rfl, Nat.le_refl _, by simp, .inr ⟨rfl, .inl rfl⟩, .inr ⟨rfl, .inl rfl⟩⟩
theorem cut_len (s : List UInt8) (b : UInt8) : (Lib.cut s [b]).1.length ≤ s.length ∧ (Lib.cut s [b]).2.1.length ≤ s.length := by
  unfold Lib.cut
  split
  · simp; omega
  · simp
theorem implReadGraph_ok (H : List Blk) (s : List UInt8) (hs : s.length ≤ 1100000) : ACalls Tryz.prog f_impl_ReadGraph [Tx s] H (GrB H (rgP s)) := by
  unfold rgP rgC rgE
  have hc1 := cut_fn s [59] (by omega)
  have hcl := cut_len s 59
  generalize Lib.cut s [59] = cu at *
  obtain ⟨sa, sb, sf⟩ := cu
  simp only at hc1 hcl
  obtain ⟨hla, hlb⟩ := hcl
  have hrl := fun H => implReadList_ok H sa (by omega)
  generalize rdP sa = cols at *
  have hem : ∀ w ∈ edW sb, w.length ≤ 1100000 := fun w hw => Nat.le_trans (edW_len hw) (by omega)
  have hen : (edW sb).length ≤ 1200000 := Nat.le_trans (edW_num sb) (by omega)
  refine ACalls.introB s_impl_ReadGraph (by simp) ?_; intro hB hA; unfold c_impl_ReadGraph; simp (config := { maxSteps := 1000000 }) (disch := (first | omega | (simp only [go_sem]; try omega))) only [go_sem, Nat.reduceAdd, Nat.reduceEqDiff, Nat.reduceLeDiff, Nat.reduceMul, Nat.reduceLT, reduceIte, Int.reduceToNat, w64_id, cast_succ]
  repeat (first | (with_reducible first | refine SW.seq ?_ | refine SW.block ?_ | refine SW.rowC ?_ | refine SW.skip ?_ | refine SW.exit ?_ | refine PFn.use (hc1) ?_ | refine PFn.useq (hc1) ?_ | intro _ | refine And.intro (by omega) ?_) | simp (config := { maxSteps := 1000000 }) (disch := (first | omega | (simp only [go_sem]; try omega))) only [go_sem, Nat.reduceAdd, Nat.reduceEqDiff, Nat.reduceLeDiff, Nat.reduceMul, Nat.reduceLT, reduceIte, Int.reduceToNat, w64_id, cast_succ])
  refine (hrl _).mono ?_
  rintro r H1 ⟨v, b, rfl, hgc, hl1, hk1⟩
  have b0 : H1[H.length]? = some ⟨0, tyGr, 1, [nilS, nilS]⟩ := by rw [hk1 _ (by simp)]; simp
  have b1 : H1[H.length + 1]? = some ⟨0, tyGr, 1, [nilS, nilS]⟩ := by rw [hk1 _ (by simp)]; simp
  have b3 : ∀ j, j < H.length → H1[j]? = H[j]? := fun j hj => by rw [hk1 _ (by simp; omega), List.getElem?_append_left hj]
  simp only [List.length_append, List.length_cons, List.length_nil, Nat.zero_add, Nat.reduceAdd] at hgc hl1
  clear hk1
  repeat (first | (with_reducible first | refine SW.seq ?_ | refine SW.block ?_ | refine SW.rowC ?_ | refine SW.skip ?_ | refine SW.exit ?_ | intro _ | refine And.intro (by omega) ?_) | simp (config := { maxSteps := 1000000 }) (disch := (first | omega | (simp only [go_sem]; try omega))) only [go_sem, Nat.reduceAdd, Nat.reduceEqDiff, Nat.reduceLeDiff, Nat.reduceMul, Nat.reduceLT, reduceIte, Int.reduceToNat, w64_id, cast_succ, pc_alive b1, pc_ld b1, hgc.one.1, hgc.one.2])
  rw [pc_st b1 (by simp)]
  have hgb : GBx H [nilS, nilS] [v, nilS] (H1.set (H.length + 1) ⟨0, tyGr, 1, [v, nilS]⟩) := GBx.put ⟨b0, b1, hl1, b3⟩ (Nat.le_refl _) (Nat.le_refl _) (fun _ _ => rfl)
  have hgc2 : GrowF (H1.set (H.length + 1) ⟨0, tyGr, 1, [v, nilS]⟩) (H.length + 2) 2 1 v cols.length (cols.map I) := hgc.same (fun j b h1 h2 => by rw [List.getElem?_set_ne (by omega)]; exact h2)
  clear b0 b1 b3 hgc hl1
  repeat (first | (with_reducible first | refine SW.seq ?_ | refine SW.block ?_ | refine SW.rowC ?_ | refine SW.skip ?_ | refine SW.exit ?_ | intro _ | refine And.intro (by omega) ?_) | simp (config := { maxSteps := 1000000 }) (disch := (first | omega | (simp only [go_sem]; try omega))) only [go_sem, Nat.reduceAdd, Nat.reduceEqDiff, Nat.reduceLeDiff, Nat.reduceMul, Nat.reduceLT, reduceIte, Int.reduceToNat, w64_id, cast_succ])
  generalize H1.set (H.length + 1) ⟨0, tyGr, 1, [v, nilS]⟩ = H2 at *
  obtain ⟨b0, b1, b2, b3⟩ := hgb
  refine SW.thenZ (fun E' H' => ∃ ev, keep [0, 2, 7] E' = [(0, Tx s), (2, .pc H.length 0 0), (7, .pc (H.length + 1) 0 0)] ∧ GBx H [nilS, nilS] [v, ev] H' ∧ (∀ j, H.length + 2 ≤ j → j < H2.length → H'[j]? = H2[j]?) ∧ GrowF H' H2.length tyE 2 ev ((edW sb).map rdQ).length (flatE ((edW sb).map rdQ)) ∧ H2.length ≤ H'.length) ?_ ?_
  · by_cases ht : sb = []
    · have d2 : decide (sb = []) = true := decide_eq_true ht
      subst ht
      repeat (first | (with_reducible first | refine SW.seq ?_ | refine SW.block ?_ | refine SW.rowC ?_ | refine SW.skip ?_ | refine SW.exit ?_ | intro _ | refine And.intro (by omega) ?_) | simp (config := { maxSteps := 1000000 }) (disch := (first | omega | (simp only [go_sem]; try omega))) only [go_sem, Nat.reduceAdd, Nat.reduceEqDiff, Nat.reduceLeDiff, Nat.reduceMul, Nat.reduceLT, reduceIte, Int.reduceToNat, w64_id, cast_succ, d2, Bool.not_true])
      refine SW.condF rfl ?_
      repeat (first | (with_reducible first | refine SW.seq ?_ | refine SW.block ?_ | refine SW.rowC ?_ | refine SW.skip ?_ | refine SW.exit ?_ | intro _ | refine And.intro (by omega) ?_) | simp (config := { maxSteps := 1000000 }) (disch := (first | omega | (simp only [go_sem]; try omega))) only [go_sem, Nat.reduceAdd, Nat.reduceEqDiff, Nat.reduceLeDiff, Nat.reduceMul, Nat.reduceLT, reduceIte, Int.reduceToNat, w64_id, cast_succ])
      refine ⟨nilS, ?_⟩
      simp only [show edW [] = [] from rfl]
      exact ⟨⟨b0, b1, b2, b3⟩, fun _ _ _ => trivial, .inl ⟨rfl, rfl, rfl⟩⟩
    · have d2 : decide (sb = []) = false := decide_eq_false ht
      have hst := split_fn sb [44] (by omega) (by simp)
      rw [split_is] at hst
      have hew : edW sb = spl 44 sb := by unfold edW; rw [if_neg ht]
      rw [← hew] at hst
      generalize edW sb = ls at *
      repeat (first | (with_reducible first | refine SW.seq ?_ | refine SW.block ?_ | refine SW.rowC ?_ | refine SW.skip ?_ | refine SW.exit ?_ | intro _ | refine And.intro (by omega) ?_) | simp (config := { maxSteps := 1000000 }) (disch := (first | omega | (simp only [go_sem]; try omega))) only [go_sem, Nat.reduceAdd, Nat.reduceEqDiff, Nat.reduceLeDiff, Nat.reduceMul, Nat.reduceLT, reduceIte, Int.reduceToNat, w64_id, cast_succ, d2, Bool.not_false])
      refine SW.condT rfl ?_
      repeat (first | (with_reducible first | refine SW.seq ?_ | refine SW.block ?_ | refine SW.rowC ?_ | refine SW.skip ?_ | refine SW.exit ?_ | refine PFn.use (hst) ?_ | refine PFn.useq (hst) ?_ | intro _ | refine And.intro (by omega) ?_) | simp (config := { maxSteps := 1000000 }) (disch := (first | omega | (simp only [go_sem]; try omega))) only [go_sem, Nat.reduceAdd, Nat.reduceEqDiff, Nat.reduceLeDiff, Nat.reduceMul, Nat.reduceLT, reduceIte, Int.reduceToNat, w64_id, cast_succ])
      refine SW.loopE (fun E0 H0 q E' H' => ∃ (pre post : List (List UInt8)) (ev : AV), ls = pre ++ post ∧ q = post.length ∧ E' = aput E0 31 (I pre.length) ∧ GBx H [nilS, nilS] [v, ev] H' ∧ GrowF H' H2.length tyE 2 ev pre.length (flatE (pre.map rdQ)) ∧ H2.length ≤ H'.length ∧ ∀ j, H.length + 2 ≤ j → j < H2.length → H'[j]? = H2[j]?) ls.length ⟨[], ls, nilS, rfl, rfl, rfl, ⟨b0, b1, b2, b3⟩, .inl ⟨rfl, rfl, rfl⟩, Nat.le_refl _, fun _ _ _ => rfl⟩ ?_
      clear b0 b1 b3
      rintro q E' H3 ⟨pre, post, ev, hq, rfl, rfl, ⟨b0, b1, b2', b3⟩, hge, hl2, hk2⟩
      have hpl : pre.length ≤ 1200000 := by have := congrArg List.length hq; simp at this; omega
      simp (config := { maxSteps := 1000000 }) (disch := (first | omega | (simp only [go_sem]; try omega))) only [go_sem, Nat.reduceAdd, Nat.reduceEqDiff, Nat.reduceLeDiff, Nat.reduceMul, Nat.reduceLT, reduceIte, Int.reduceToNat, w64_id, cast_succ]
      repeat (first | (with_reducible first | refine SW.seq ?_ | refine SW.block ?_ | refine SW.rowC ?_ | refine SW.skip ?_ | refine SW.exit ?_ | intro _ | refine And.intro (by omega) ?_) | simp (config := { maxSteps := 1000000 }) (disch := (first | omega | (simp only [go_sem]; try omega))) only [go_sem, Nat.reduceAdd, Nat.reduceEqDiff, Nat.reduceLeDiff, Nat.reduceMul, Nat.reduceLT, reduceIte, Int.reduceToNat, w64_id, cast_succ])
      (first | refine SW.condD rfl (fun h5 => ?_) (fun h5 => ?_) | refine SW.condN rfl (fun h5 => ?_) (fun h5 => ?_) | refine SW.condNB rfl (fun h5 => ?_) (fun h5 => ?_) | refine SW.condB rfl (fun h5 => ?_) (fun h5 => ?_))
      · obtain ⟨w, post, rfl, hg, -⟩ := consOf (d := []) hq (by omega)
        have hpl2 : pre.length + 1 ≤ 1200000 := by have := congrArg List.length hq; simp at this; omega
        have hwl := hem w (by rw [hq]; simp)
        have hcw := cut_fn w [45] (by omega)
        have hcwl := cut_len w 45
        have hqe : rdQ w = ((rdD (Lib.cut w [45]).1).getD 0, (rdD (Lib.cut w [45]).2.1).getD 0) := rfl
        obtain ⟨e, he⟩ : ∃ e, rdQ w = e := ⟨_, rfl⟩
        rw [he] at hqe
        generalize Lib.cut w [45] = cw at *
        obtain ⟨wa, wb, wf⟩ := cw
        simp only at hcw hcwl hqe
        have hd1 := readDecimal_fn wa (by omega)
        have hd2 := readDecimal_fn wb (by omega)
        repeat (first | (with_reducible first | refine SW.seq ?_ | refine SW.block ?_ | refine SW.rowC ?_ | refine SW.skip ?_ | refine SW.exit ?_ | refine PFn.use (hcw) ?_ | refine PFn.useq (hcw) ?_ | refine PFn.use (hd1) ?_ | refine PFn.useq (hd1) ?_ | refine PFn.use (hd2) ?_ | refine PFn.useq (hd2) ?_ | intro _ | refine And.intro (by omega) ?_) | simp (config := { maxSteps := 1000000 }) (disch := (first | omega | (simp only [go_sem]; try omega))) only [go_sem, Nat.reduceAdd, Nat.reduceEqDiff, Nat.reduceLeDiff, Nat.reduceMul, Nat.reduceLT, reduceIte, Int.reduceToNat, w64_id, cast_succ, hg])
        have c1 : (H3 ++ [(⟨0, 49, 1, [I ((rdD wa).getD 0), I ((rdD wb).getD 0)]⟩ : Blk)])[H.length + 1]? = some ⟨0, tyGr, 1, [v, ev]⟩ := by rw [List.getElem?_append_left (by omega)]; exact b1
        have hge2 := hge.same (H' := H3 ++ [(⟨0, 49, 1, [I ((rdD wa).getD 0), I ((rdD wb).getD 0)]⟩ : Blk)]) (fun j b _ h => by rw [List.getElem?_append_left (List.getElem?_eq_some_iff.1 h).1]; exact h)
        have c2 : (H3 ++ [(⟨0, 49, 1, [I ((rdD wa).getD 0), I ((rdD wb).getD 0)]⟩ : Blk)])[H3.length]? = some ⟨0, 49, 1, [I ((rdD wa).getD 0), I ((rdD wb).getD 0)]⟩ := by simp
        have el : acells (H3 ++ [(⟨0, 49, 1, [I ((rdD wa).getD 0), I ((rdD wb).getD 0)]⟩ : Blk)]) 2 (.pc H3.length 0 0) = some [I ((rdD wa).getD 0), I ((rdD wb).getD 0)] := pc_lds c2 (by simp)
        clear c2
        have nm2 : ∀ (ty : Nat) (a b : AV), NmV 0 0 1 (some ⟨0, ty, 2, [a, b]⟩) = some (1, [a, b]) := fun ty a b => by simp [NmV]
        have hc1 : ∀ j, j < H3.length → (H3 ++ [(⟨0, 49, 1, [I ((rdD wa).getD 0), I ((rdD wb).getD 0)]⟩ : Blk)])[j]? = H3[j]? := fun j hj => List.getElem?_append_left hj
        have hcl : (H3 ++ [(⟨0, 49, 1, [I ((rdD wa).getD 0), I ((rdD wb).getD 0)]⟩ : Blk)]).length = H3.length + 1 := by simp
        generalize H3 ++ [(⟨0, 49, 1, [I ((rdD wa).getD 0), I ((rdD wb).getD 0)]⟩ : Blk)] = H4 at *
        repeat (first | (with_reducible first | refine SW.seq ?_ | refine SW.block ?_ | refine SW.rowC ?_ | refine SW.skip ?_ | refine SW.exit ?_ | intro _ | refine And.intro (by omega) ?_) | simp (config := { maxSteps := 1000000 }) (disch := (first | omega | (simp only [go_sem]; try omega))) only [go_sem, Nat.reduceAdd, Nat.reduceEqDiff, Nat.reduceLeDiff, Nat.reduceMul, Nat.reduceLT, reduceIte, Int.reduceToNat, w64_id, cast_succ, pc_alive c1, pc_ld c1, el, nm2])
        refine GrowF.appX hge2 (by omega) rfl (by simp [AV.cell1]; exact ⟨rfl, rfl⟩) (by omega) (by omega) ?_
        intro v3 H5 d1 d2 d3
        have e1 : H5[H.length + 1]? = some ⟨0, tyGr, 1, [v, ev]⟩ := by rw [d3 _ (by omega)]; exact c1
        repeat (first | (with_reducible first | refine SW.seq ?_ | refine SW.block ?_ | refine SW.rowC ?_ | refine SW.skip ?_ | refine SW.exit ?_ | intro _ | refine And.intro (by omega) ?_) | simp (config := { maxSteps := 1000000 }) (disch := (first | omega | (simp only [go_sem]; try omega))) only [go_sem, Nat.reduceAdd, Nat.reduceEqDiff, Nat.reduceLeDiff, Nat.reduceMul, Nat.reduceLT, reduceIte, Int.reduceToNat, w64_id, cast_succ, pc_alive e1, pc_ld e1, d1.one.1, d1.one.2])
        rw [pc_st e1 (by simp)]
        repeat (first | (with_reducible first | refine SW.seq ?_ | refine SW.block ?_ | refine SW.rowC ?_ | refine SW.skip ?_ | refine SW.exit ?_ | intro _ | refine And.intro (by omega) ?_) | simp (config := { maxSteps := 1000000 }) (disch := (first | omega | (simp only [go_sem]; try omega))) only [go_sem, Nat.reduceAdd, Nat.reduceEqDiff, Nat.reduceLeDiff, Nat.reduceMul, Nat.reduceLT, reduceIte, Int.reduceToNat, w64_id, cast_succ])
        have hgb5 : GBx H [nilS, nilS] [v, v3] (H5.set (H.length + 1) ⟨0, tyGr, 1, [v, v3]⟩) := GBx.put (base := H2.length) (c1 := [v, ev]) (H1 := H4) ⟨by rw [hc1 _ (by omega)]; exact b0, c1, by omega, fun j hj => by rw [hc1 _ (by omega)]; exact b3 j hj⟩ b2 (by omega) (fun j hj => d3 j hj)
        refine SLoop.next post.length (by simp) ⟨pre ++ [w], post, v3, by rw [hq]; simp, rfl, ?_, hgb5, ?_, by simp; omega, ?_⟩
        · simp only [List.length_append, List.length_singleton]; rfl
        · rw [List.map_append, List.map_singleton, he, hqe, flatE_snoc, List.length_append, List.length_singleton]
          exact d1.same (fun j b h1 h2 => by rw [List.getElem?_set_ne (by omega)]; exact h2)
        · intro j hj1 hj2
          rw [List.getElem?_set_ne (by omega), d3 _ hj2, hc1 _ (by omega)]; exact hk2 j hj1 hj2
      · obtain ⟨rfl, rfl⟩ := nilOf hq (by omega)
        repeat (first | (with_reducible first | refine SW.seq ?_ | refine SW.block ?_ | refine SW.rowC ?_ | refine SW.skip ?_ | refine SW.exit ?_ | intro _ | refine And.intro (by omega) ?_) | simp (config := { maxSteps := 1000000 }) (disch := (first | omega | (simp only [go_sem]; try omega))) only [go_sem, Nat.reduceAdd, Nat.reduceEqDiff, Nat.reduceLeDiff, Nat.reduceMul, Nat.reduceLT, reduceIte, Int.reduceToNat, w64_id, cast_succ])
        exact ⟨ev, ⟨b0, b1, b2', b3⟩, hk2, hge, hl2⟩
  generalize (edW sb).map rdQ = es at *
  rintro E' H3 ⟨ev, hE', ⟨b0, b1, b2', b3⟩, hk3, hge, hl3⟩
  have hgc := hgc2.same (H' := H3) (fun j b h1 h2 => (hk3 j h1 (List.getElem?_eq_some_iff.1 h2).1).trans h2)
  refine SW.keepZ [0, 2, 7] ?_
  rw [hE']
  have hfz : Frozs H3 [.agg [v, ev]] [.agg [ilS cols, ilE es]] := .cons (froz_agg2 (hgc.frozI (Nat.zero_le _)) (hge.frozE (Nat.zero_le _))) .nil
  have hvg := (ValidGraphI_fn cols es).lend hfz
  have hgt := (graphText_fn cols es).lend hfz
  repeat (first | (with_reducible first | refine SW.seq ?_ | refine SW.block ?_ | refine SW.rowC ?_ | refine SW.skip ?_ | refine SW.exit ?_ | intro _ | refine And.intro (by omega) ?_) | simp (config := { maxSteps := 1000000 }) (disch := (first | omega | (simp only [go_sem]; try omega))) only [go_sem, Nat.reduceAdd, Nat.reduceEqDiff, Nat.reduceLeDiff, Nat.reduceMul, Nat.reduceLT, reduceIte, Int.reduceToNat, w64_id, cast_succ, pc_lds b1, pc_alive b1, pc_ld b1])
  refine ACalls.fn hvg ?_
  by_cases hok : grB cols es = true ∧ gtx cols es = s
  · obtain ⟨ho1, ho2⟩ := hok
    rw [if_pos ⟨ho1, ho2⟩]
    rw [ho1, if_pos rfl] at hgt
    have d6 : decide (gtx cols es = s) = true := decide_eq_true ho2
    rw [ho1]
    repeat (first | (with_reducible first | refine SW.seq ?_ | refine SW.block ?_ | refine SW.rowC ?_ | refine SW.skip ?_ | refine SW.exit ?_ | intro _ | refine And.intro (by omega) ?_) | simp (config := { maxSteps := 1000000 }) (disch := (first | omega | (simp only [go_sem]; try omega))) only [go_sem, Nat.reduceAdd, Nat.reduceEqDiff, Nat.reduceLeDiff, Nat.reduceMul, Nat.reduceLT, reduceIte, Int.reduceToNat, w64_id, cast_succ, pc_lds b1, pc_alive b1, pc_ld b1])
    refine ACalls.fn hgt ?_
    repeat (first | (with_reducible first | refine SW.seq ?_ | refine SW.block ?_ | refine SW.rowC ?_ | refine SW.skip ?_ | refine SW.exit ?_ | intro _ | refine And.intro (by omega) ?_) | simp (config := { maxSteps := 1000000 }) (disch := (first | omega | (simp only [go_sem]; try omega))) only [go_sem, Nat.reduceAdd, Nat.reduceEqDiff, Nat.reduceLeDiff, Nat.reduceMul, Nat.reduceLT, reduceIte, Int.reduceToNat, w64_id, cast_succ, d6, Bool.not_true])
    refine SW.condF rfl ?_
    repeat (first | (with_reducible first | refine SW.seq ?_ | refine SW.block ?_ | refine SW.rowC ?_ | refine SW.skip ?_ | refine SW.exit ?_ | intro _ | refine And.intro (by omega) ?_) | simp (config := { maxSteps := 1000000 }) (disch := (first | omega | (simp only [go_sem]; try omega))) only [go_sem, Nat.reduceAdd, Nat.reduceEqDiff, Nat.reduceLeDiff, Nat.reduceMul, Nat.reduceLT, reduceIte, Int.reduceToNat, w64_id, cast_succ, pc_lds b1, pc_alive b1, pc_ld b1, hgc.one.1, hgc.one.2, hge.one.1, hge.one.2])
    rw [pc_st b0 (by simp)]
    repeat (first | (with_reducible first | refine SW.seq ?_ | refine SW.block ?_ | refine SW.rowC ?_ | refine SW.skip ?_ | refine SW.exit ?_ | intro _ | refine And.intro (by omega) ?_) | simp (config := { maxSteps := 1000000 }) (disch := (first | omega | (simp only [go_sem]; try omega))) only [go_sem, Nat.reduceAdd, Nat.reduceEqDiff, Nat.reduceLeDiff, Nat.reduceMul, Nat.reduceLT, reduceIte, Int.reduceToNat, w64_id, cast_succ])
    refine SW.ret ?_
    have c0 : (H3.set H.length ⟨0, tyGr, 1, [v, ev]⟩)[H.length]? = some ⟨0, tyGr, 1, [v, ev]⟩ := List.getElem?_set_self (by omega)
    refine FunPost.cell_tmp (cs := [v, ev]) (by simp (config := { maxSteps := 1000000 }) (disch := (first | omega | (simp only [go_sem]; try omega))) only [go_sem, Nat.reduceAdd, Nat.reduceEqDiff, Nat.reduceLeDiff, Nat.reduceMul, Nat.reduceLT, reduceIte, Int.reduceToNat, w64_id, cast_succ, pc_lds c0]) ?_
    refine GR.of ?_
    have hpre : ∃ ext, H3.set H.length ⟨0, tyGr, 1, [v, ev]⟩ = H ++ ext := prefix_of (by simp; omega) (fun j hj => by rw [List.getElem?_set_ne (by omega)]; exact b3 j hj)
    have hgc' := hgc.same (H' := H3.set H.length ⟨0, tyGr, 1, [v, ev]⟩) (fun j b h1 h2 => by rw [List.getElem?_set_ne (by omega)]; exact h2)
    have hge' := hge.same (H' := H3.set H.length ⟨0, tyGr, 1, [v, ev]⟩) (fun j b h1 h2 => by rw [List.getElem?_set_ne (by omega)]; exact h2)
    have hl4 : (H3.set H.length ⟨0, tyGr, 1, [v, ev]⟩).length = H3.length := by simp
    generalize H3.set H.length ⟨0, tyGr, 1, [v, ev]⟩ = H4 at *
    obtain ⟨ext, rfl⟩ := hpre
    refine ⟨ext, v, ev, H2.length, rfl, rfl, by omega, by omega, ?_, ?_⟩
    · rcases hgc2 with ⟨rfl, h1, h2⟩ | ⟨t, ver, rfl, h1, h2, h3⟩
      · exact .inr ⟨List.length_eq_zero_iff.1 h1, .inl rfl⟩
      · have ht := (List.getElem?_eq_some_iff.1 h2).1
        rcases hgc' with ⟨h5, _⟩ | ⟨t', ver', h5, h6, h7, h8⟩
        · cases h5
        · cases h5
          exact .inl ⟨t, ver, _, rfl, ⟨by omega, ht⟩, by omega, h7⟩
    · rcases hge' with ⟨rfl, h1, h2⟩ | ⟨t, ver, rfl, h1, h2, h3⟩
      · exact .inr ⟨List.length_eq_zero_iff.1 h1, .inl rfl⟩
      · exact .inl ⟨t, ver, _, rfl, ⟨h1, (List.getElem?_eq_some_iff.1 h2).1⟩, h2⟩
  · rw [if_neg hok]
    have bad : GR H (GrB H none) (.tup [.agg [nilS, nilS], Bv false]) (H3.set H.length ⟨0, tyGr, 1, [nilS, nilS]⟩) := GR.of (nilGB (prefix_of (by simp; omega) (fun j hj => by rw [List.getElem?_set_ne (by omega)]; exact b3 j hj)))
    cases ho1 : grB cols es
    · repeat (first | (with_reducible first | refine SW.seq ?_ | refine SW.block ?_ | refine SW.rowC ?_ | refine SW.skip ?_ | refine SW.exit ?_ | intro _ | refine And.intro (by omega) ?_) | simp (config := { maxSteps := 1000000 }) (disch := (first | omega | (simp only [go_sem]; try omega))) only [go_sem, Nat.reduceAdd, Nat.reduceEqDiff, Nat.reduceLeDiff, Nat.reduceMul, Nat.reduceLT, reduceIte, Int.reduceToNat, w64_id, cast_succ, Bool.not_false])
      refine SW.condT rfl ?_
      repeat (first | (with_reducible first | refine SW.seq ?_ | refine SW.block ?_ | refine SW.rowC ?_ | refine SW.skip ?_ | refine SW.exit ?_ | intro _ | refine And.intro (by omega) ?_) | simp (config := { maxSteps := 1000000 }) (disch := (first | omega | (simp only [go_sem]; try omega))) only [go_sem, Nat.reduceAdd, Nat.reduceEqDiff, Nat.reduceLeDiff, Nat.reduceMul, Nat.reduceLT, reduceIte, Int.reduceToNat, w64_id, cast_succ])
      rw [pc_st b0 (by simp)]
      repeat (first | (with_reducible first | refine SW.seq ?_ | refine SW.block ?_ | refine SW.rowC ?_ | refine SW.skip ?_ | refine SW.exit ?_ | intro _ | refine And.intro (by omega) ?_) | simp (config := { maxSteps := 1000000 }) (disch := (first | omega | (simp only [go_sem]; try omega))) only [go_sem, Nat.reduceAdd, Nat.reduceEqDiff, Nat.reduceLeDiff, Nat.reduceMul, Nat.reduceLT, reduceIte, Int.reduceToNat, w64_id, cast_succ])
      refine SW.ret ?_
      have c0 : (H3.set H.length ⟨0, tyGr, 1, [nilS, nilS]⟩)[H.length]? = some ⟨0, tyGr, 1, [nilS, nilS]⟩ := List.getElem?_set_self (by omega)
      refine FunPost.cell_tmp (cs := [nilS, nilS]) (by simp (config := { maxSteps := 1000000 }) (disch := (first | omega | (simp only [go_sem]; try omega))) only [go_sem, Nat.reduceAdd, Nat.reduceEqDiff, Nat.reduceLeDiff, Nat.reduceMul, Nat.reduceLT, reduceIte, Int.reduceToNat, w64_id, cast_succ, pc_lds c0]) ?_
      exact bad
    · have d6 : decide (gtx cols es = s) = false := decide_eq_false (fun h => hok ⟨ho1, h⟩)
      rw [ho1, if_pos rfl] at hgt
      repeat (first | (with_reducible first | refine SW.seq ?_ | refine SW.block ?_ | refine SW.rowC ?_ | refine SW.skip ?_ | refine SW.exit ?_ | intro _ | refine And.intro (by omega) ?_) | simp (config := { maxSteps := 1000000 }) (disch := (first | omega | (simp only [go_sem]; try omega))) only [go_sem, Nat.reduceAdd, Nat.reduceEqDiff, Nat.reduceLeDiff, Nat.reduceMul, Nat.reduceLT, reduceIte, Int.reduceToNat, w64_id, cast_succ, Bool.not_true, pc_lds b1, pc_alive b1, pc_ld b1])
      refine ACalls.fn hgt ?_
      repeat (first | (with_reducible first | refine SW.seq ?_ | refine SW.block ?_ | refine SW.rowC ?_ | refine SW.skip ?_ | refine SW.exit ?_ | intro _ | refine And.intro (by omega) ?_) | simp (config := { maxSteps := 1000000 }) (disch := (first | omega | (simp only [go_sem]; try omega))) only [go_sem, Nat.reduceAdd, Nat.reduceEqDiff, Nat.reduceLeDiff, Nat.reduceMul, Nat.reduceLT, reduceIte, Int.reduceToNat, w64_id, cast_succ, d6, Bool.not_false])
      refine SW.condT rfl ?_
      repeat (first | (with_reducible first | refine SW.seq ?_ | refine SW.block ?_ | refine SW.rowC ?_ | refine SW.skip ?_ | refine SW.exit ?_ | intro _ | refine And.intro (by omega) ?_) | simp (config := { maxSteps := 1000000 }) (disch := (first | omega | (simp only [go_sem]; try omega))) only [go_sem, Nat.reduceAdd, Nat.reduceEqDiff, Nat.reduceLeDiff, Nat.reduceMul, Nat.reduceLT, reduceIte, Int.reduceToNat, w64_id, cast_succ])
      rw [pc_st b0 (by simp)]
      repeat (first | (with_reducible first | refine SW.seq ?_ | refine SW.block ?_ | refine SW.rowC ?_ | refine SW.skip ?_ | refine SW.exit ?_ | intro _ | refine And.intro (by omega) ?_) | simp (config := { maxSteps := 1000000 }) (disch := (first | omega | (simp only [go_sem]; try omega))) only [go_sem, Nat.reduceAdd, Nat.reduceEqDiff, Nat.reduceLeDiff, Nat.reduceMul, Nat.reduceLT, reduceIte, Int.reduceToNat, w64_id, cast_succ])
      refine SW.ret ?_
      have c0 : (H3.set H.length ⟨0, tyGr, 1, [nilS, nilS]⟩)[H.length]? = some ⟨0, tyGr, 1, [nilS, nilS]⟩ := List.getElem?_set_self (by omega)
      refine FunPost.cell_tmp (cs := [nilS, nilS]) (by simp (config := { maxSteps := 1000000 }) (disch := (first | omega | (simp only [go_sem]; try omega))) only [go_sem, Nat.reduceAdd, Nat.reduceEqDiff, Nat.reduceLeDiff, Nat.reduceMul, Nat.reduceLT, reduceIte, Int.reduceToNat, w64_id, cast_succ, pc_lds c0]) ?_
      exact bad
end Go.Proofs.YtdgcgckehihboaaGreatDoor
