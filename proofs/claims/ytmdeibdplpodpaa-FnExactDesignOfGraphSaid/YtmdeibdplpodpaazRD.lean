/- DesignOfGraph: the program. -/
import Derived.Test.YtmdeibdplpodpaaProg
import Derived.KernelRfl
import Derived.Test.YtmdeibdplpodpaazRC
import Derived.Test.YtmdeibdplpodpaazFD
import Derived.Test.YtmdeibdplpodpaazK2
import Derived.Test.YtmdeibdplpodpaazL8
set_option linter.unusedSimpArgs false
set_option linter.unusedVariables false
set_option maxHeartbeats 4000000
set_option maxRecDepth 100000
namespace Go.Proofs.Ytmdeibdplpodpaa
open Go.Av
abbrev f_impl_DesignOfGraph : Nat := 14
def c_impl_DesignOfGraph : SC :=
 .seq (.reg [
     ⟨(some 1), .box 30 (.tmp 0), none⟩,
     ⟨(some 2), .alloc 38 [(.int .i64 0), (.slice none 0 0)], none⟩,
     ⟨(some 3), .mv (.const (.int .i64 0)), none⟩] [1, 2])
 (.seq (.seq (.reg [
     ⟨(some 11), .load 2 true (.tmp 1), none⟩,
     ⟨(some 12), .call 30 [(.tmp 11)], none⟩,
     ⟨(some 13), .un .not (.tmp 12), none⟩] [1, 2, 13])
 (.cond (.tmp 13)
  (.seq (.reg [
      ⟨(some 14), .build [(.int .i64 0), (.slice none 0 0)] [], none⟩,
      ⟨none, .store 2 (.tmp 2) (.tmp 14), none⟩,
      ⟨(some 3), .mv (.const (.int .i64 1)), none⟩] [2, 3])
  (.ret))
  (.skip)))
 (.seq (.reg [
     ⟨(some 4), .mv (.const (.int .i64 0)), none⟩] [1, 2, 4])
 (.seq (.seq (.reg [
     ⟨(some 15), .faddr 0 (.tmp 1), none⟩,
     ⟨(some 16), .load 1 false (.tmp 15), none⟩,
     ⟨(some 17), .len (.tmp 16), none⟩,
     ⟨(some 18), .mv (.const (.int .i64 0)), none⟩] [1, 2, 4, 16, 17, 18])
 (.block 0 (.loop [1, 2, 4, 16, 17, 18]
   (.seq (.reg [
       ⟨(some 19), .bin .lss (.tmp 18) (.tmp 17), none⟩] [1, 2, 4, 16, 17, 18, 19])
   (.seq (.cond (.tmp 19)
    (.skip)
    (.exit 0))
   (.seq (.block 1 (.seq (.reg [
        ⟨(some 20), .iaddr 1 (.tmp 16) (.tmp 18), none⟩,
        ⟨(some 21), .load 1 false (.tmp 20), none⟩,
        ⟨(some 6), .mv (.tmp 21), none⟩] [1, 2, 4, 6, 16, 17, 18])
    (.seq (.reg [
        ⟨(some 22), .mv (.tmp 6), none⟩,
        ⟨(some 23), .bin .eql (.tmp 22) (.const (.int .i64 0)), none⟩] [1, 2, 4, 16, 17, 18, 23])
    (.cond (.tmp 23)
     (.reg [
         ⟨(some 24), .mv (.tmp 4), none⟩,
         ⟨(some 25), .bin .add (.tmp 24) (.const (.int .i64 1)), none⟩,
         ⟨(some 4), .mv (.tmp 25), none⟩] [1, 2, 4, 16, 17, 18])
     (.skip)))))
   (.reg [
       ⟨(some 26), .bin .add (.tmp 18) (.const (.int .i64 1)), none⟩,
       ⟨(some 18), .mv (.tmp 26), none⟩] [1, 2, 4, 16, 17, 18])))))))
 (.seq (.reg [
     ⟨(some 27), .faddr 0 (.tmp 1), none⟩,
     ⟨(some 28), .load 1 false (.tmp 27), none⟩,
     ⟨(some 29), .call 32 [(.tmp 28)], none⟩,
     ⟨(some 30), .mv (.tmp 4), none⟩,
     ⟨(some 31), .bin .sub (.tmp 29) (.tmp 30), none⟩,
     ⟨(some 7), .mv (.tmp 31), none⟩] [1, 2, 4, 7])
 (.seq (.seq (.reg [
     ⟨(some 32), .faddr 0 (.tmp 1), none⟩,
     ⟨(some 33), .load 1 false (.tmp 32), none⟩,
     ⟨(some 34), .mv (.tmp 4), none⟩,
     ⟨(some 35), .mv (.tmp 7), none⟩,
     ⟨(some 36), .qcall 38 [(.tmp 34), (.tmp 35)], none⟩,
     ⟨(some 37), .qcall 37 [(.tmp 33), (.tmp 36)], none⟩,
     ⟨(some 38), .un .not (.tmp 37), none⟩,
     ⟨(some 39), .mv (.tmp 38), none⟩,
     ⟨(some 40), .mv (.tmp 4), (some (39, false))⟩,
     ⟨(some 41), .qcall 39 [(.tmp 40), (.const (.int .i64 1)), (.const (.int .i64 32))], (some (39, false))⟩,
     ⟨(some 42), .un .not (.tmp 41), (some (39, false))⟩,
     ⟨(some 43), .pick (.tmp 39) (.const (.bool true)) (.tmp 42), none⟩] [1, 2, 4, 43])
 (.cond (.tmp 43)
  (.seq (.reg [
      ⟨(some 44), .build [(.int .i64 0), (.slice none 0 0)] [], none⟩,
      ⟨none, .store 2 (.tmp 2) (.tmp 44), none⟩,
      ⟨(some 3), .mv (.const (.int .i64 6)), none⟩] [2, 3])
  (.ret))
  (.skip)))
 (.seq (.seq (.reg [
     ⟨(some 45), .faddr 1 (.tmp 1), none⟩,
     ⟨(some 46), .load 1 false (.tmp 45), none⟩,
     ⟨(some 47), .len (.tmp 46), none⟩,
     ⟨(some 48), .mv (.const (.int .i64 0)), none⟩] [1, 2, 4, 46, 47, 48])
 (.block 2 (.loop [1, 2, 4, 46, 47, 48]
   (.seq (.reg [
       ⟨(some 49), .bin .lss (.tmp 48) (.tmp 47), none⟩] [1, 2, 4, 46, 47, 48, 49])
   (.seq (.cond (.tmp 49)
    (.skip)
    (.exit 2))
   (.seq (.block 3 (.seq (.reg [
        ⟨(some 50), .iaddr 2 (.tmp 46) (.tmp 48), none⟩,
        ⟨(some 51), .load 2 true (.tmp 50), none⟩,
        ⟨(some 9), .alloc 61 [(.int .i64 0), (.int .i64 0)], none⟩,
        ⟨none, .store 2 (.tmp 9) (.tmp 51), none⟩] [1, 2, 4, 9, 46, 47, 48])
    (.seq (.reg [
        ⟨(some 52), .faddr 0 (.tmp 1), none⟩,
        ⟨(some 53), .load 1 false (.tmp 52), none⟩,
        ⟨(some 54), .faddr 0 (.tmp 9), none⟩,
        ⟨(some 55), .load 1 false (.tmp 54), none⟩,
        ⟨(some 56), .iaddr 1 (.tmp 53) (.tmp 55), none⟩,
        ⟨(some 57), .load 1 false (.tmp 56), none⟩,
        ⟨(some 58), .faddr 0 (.tmp 1), none⟩,
        ⟨(some 59), .load 1 false (.tmp 58), none⟩,
        ⟨(some 60), .faddr 1 (.tmp 9), none⟩,
        ⟨(some 61), .load 1 false (.tmp 60), none⟩,
        ⟨(some 62), .iaddr 1 (.tmp 59) (.tmp 61), none⟩,
        ⟨(some 63), .load 1 false (.tmp 62), none⟩,
        ⟨(some 64), .bin .eql (.tmp 57) (.tmp 63), none⟩] [1, 2, 4, 46, 47, 48, 64])
    (.cond (.tmp 64)
     (.seq (.reg [
         ⟨(some 65), .build [(.int .i64 0), (.slice none 0 0)] [], none⟩,
         ⟨none, .store 2 (.tmp 2) (.tmp 65), none⟩,
         ⟨(some 3), .mv (.const (.int .i64 6)), none⟩] [2, 3])
     (.ret))
     (.skip)))))
   (.reg [
       ⟨(some 66), .bin .add (.tmp 48) (.const (.int .i64 1)), none⟩,
       ⟨(some 48), .mv (.tmp 66), none⟩] [1, 2, 4, 46, 47, 48])))))))
 (.seq (.reg [
     ⟨(some 67), .load 2 true (.tmp 1), none⟩,
     ⟨(some 68), .call 40 [(.tmp 67)], none⟩,
     ⟨(some 69), .mv (.tmp 4), none⟩,
     ⟨(some 70), .slc 1 (.tmp 68) (some (.tmp 69)) none, none⟩,
     ⟨(some 10), .mv (.tmp 70), none⟩] [2, 4, 10])
 (.seq (.seq (.reg [
     ⟨(some 71), .mv (.tmp 10), none⟩,
     ⟨(some 72), .call 41 [(.tmp 71), (.func 42)], none⟩] [2, 4, 10, 72])
 (.cond (.tmp 72)
  (.seq (.reg [
      ⟨(some 73), .build [(.int .i64 0), (.slice none 0 0)] [], none⟩,
      ⟨none, .store 2 (.tmp 2) (.tmp 73), none⟩,
      ⟨(some 3), .mv (.const (.int .i64 6)), none⟩] [2, 3])
  (.ret))
  (.skip)))
 (.seq (.reg [
     ⟨(some 74), .mv (.tmp 4), none⟩,
     ⟨(some 75), .mv (.tmp 10), none⟩,
     ⟨(some 76), .call 43 [(.tmp 74), (.tmp 75)], none⟩,
     ⟨(some 77), .ext (.tmp 76) 0, none⟩,
     ⟨(some 78), .ext (.tmp 76) 1, none⟩,
     ⟨none, .store 2 (.tmp 2) (.tmp 77), none⟩,
     ⟨(some 3), .mv (.tmp 78), none⟩] [2, 3])
 (.ret))))))))))
theorem s_impl_DesignOfGraph : stripF Try.prog 14 [[1, 2], [1, 2, 13], [2, 3], [1, 2, 4], [1, 2, 4, 16, 17, 18], [1, 2, 4, 16, 17, 18], [1, 2, 4, 16, 17, 18, 19], [1, 2, 4, 6, 16, 17, 18], [1, 2, 4, 16, 17, 18, 23], [1, 2, 4, 16, 17, 18], [1, 2, 4, 16, 17, 18], [1, 2, 4, 7], [1, 2, 4, 43], [2, 3], [1, 2, 4, 46, 47, 48], [1, 2, 4, 46, 47, 48], [1, 2, 4, 46, 47, 48, 49], [1, 2, 4, 9, 46, 47, 48], [1, 2, 4, 46, 47, 48, 64], [2, 3], [1, 2, 4, 46, 47, 48], [2, 4, 10], [2, 4, 10, 72], [2, 3], [2, 3]] = some (c_impl_DesignOfGraph, [.cell 2 2, .tmp 3], 79) := by kernel_rfl
abbrev f_impl_DesignOfGraph_c1 : Nat := 42
def c_impl_DesignOfGraph_c1 : SC :=
 .seq (.reg [
     ⟨(some 2), .mv (.const (.bool false)), none⟩] [0])
 (.seq (.reg [
     ⟨(some 3), .mv (.tmp 0), none⟩,
     ⟨(some 4), .len (.tmp 3), none⟩,
     ⟨(some 5), .bin .eql (.tmp 4) (.const (.int .i64 0)), none⟩,
     ⟨(some 2), .mv (.tmp 5), none⟩] [2])
 (.ret))
theorem s_impl_DesignOfGraph_c1 : stripF Try.prog 42 [[0], [2]] = some (c_impl_DesignOfGraph_c1, [.tmp 2], 6) := by kernel_rfl
theorem neighborLists_fn (cols : List Int) (es : List (Int × Int)) (hn : cols.length ≤ 64) (hel : es.length ≤ 512) (he : ∀ e ∈ es, (0 ≤ e.1 ∧ e.1 < cols.length) ∧ 0 ≤ e.2 ∧ e.2 < cols.length) :
    PFn Try.prog f_impl_neighborLists [.agg [ilS cols, ilE es]] (ilSS ((nbrT cols.length es).map isort)) := by
  intro H
  refine (neighborLists_ok H cols es hn hel he).gr ?_
  rintro r H1 ⟨ext, cells, rfl, rfl, hG⟩
  have ho : OwnSS (H ++ ext) (Fr (H.length + 1)) (.nm (H.length + 1) 0 0 cols.length) ((nbrT cols.length es).map isort) := .inl ⟨_, _, _, _, by rw [List.length_map, nbrT_len], hG.own⟩
  exact GR.froz (ho.froz (fun r hr => by unfold Fr at hr; omega)) ⟨rfl, rfl⟩
def zc (cols : List Int) : Nat := (cols.filter fun c => decide (c = 0)).length
theorem zc_le (cols : List Int) : zc cols ≤ cols.length := List.length_filter_le _ _
theorem zc_snoc (cols : List Int) (c : Int) : zc (cols ++ [c]) = zc cols + if c = 0 then 1 else 0 := by
  unfold zc
  rw [List.filter_append, List.length_append]
  congr 1
  by_cases h : c = 0 <;> simp [h]
def dogC (cols : List Int) : Bool := decide (cols = twoC (zc cols) (cols.length - zc cols)) && (decide ((1 : Int) ≤ zc cols) && decide ((zc cols : Int) ≤ 32))
def dogE (cols : List Int) (es : List (Int × Int)) : Bool := es.all fun e => !decide (cols.getD e.1.toNat 0 = cols.getD e.2.toNat 0)
def dogR (cols : List Int) (es : List (Int × Int)) : List (List Int) := ((nbrT cols.length es).map isort).drop (zc cols)
def dogB (cols : List Int) (es : List (Int × Int)) : Bool := dogC cols && (dogE cols es && !((dogR cols es).any fun l => decide (l.length = 0)))
def dogN (cols : List Int) (es : List (Int × Int)) : Int := if grB cols es && dogB cols es then zc cols else 0
def dogV (cols : List Int) (es : List (Int × Int)) : List (List Int) := if grB cols es && dogB cols es then sortD cmpL (dogR cols es) else []
def dogA (cols : List Int) (es : List (Int × Int)) : Int := if grB cols es then (if dogB cols es then 0 else 6) else 1
theorem slicesEqual_fnR (xs ys : List Int) : PFn Try.prog f_slices_Equal_Lint64_int64 [ilS xs, ilS ys] (Bv (decide (xs = ys))) := fun H => slicesEqual_ok H _ _ xs ys (rd_ilS _ _) (rd_ilS _ _)
theorem slcD {H : List Blk} (K : AV → Prop) (xs : List (List Int)) (z y : Int) (h0 : 0 ≤ z) (h1 : z ≤ y) (h2 : y ≤ xs.length) : SlcG 1 (ilSS xs) z y H K (some (xs.length, xs.map ilS)) = K (ilSS ((xs.drop z.toNat).take (y.toNat - z.toNat))) := by
  unfold ilSS
  rw [SlcG_il (h0 := h0) (h1 := h1) (h2 := h2)]
  simp only [Nat.mul_one, ← List.map_drop, ← List.map_take, List.length_take, List.length_drop]
  rw [show min (y.toNat - z.toNat) (xs.length - z.toNat) = y.toNat - z.toNat by omega]
theorem dog_call : callable Try.prog f_impl_DesignOfGraph_c1 = true := by kernel_rfl
theorem dog_c1_fn (x : List Int) : PFn Try.prog f_impl_DesignOfGraph_c1 [ilS x] (Bv (decide (x.length = 0))) := by
  intro H
  refine ACalls.introB s_impl_DesignOfGraph_c1 (by simp) ?_; intro hB hA; unfold c_impl_DesignOfGraph_c1; simp (config := { maxSteps := 1000000 }) (disch := (first | omega | (simp only [go_sem]; try omega))) only [go_sem, Nat.reduceAdd, Nat.reduceEqDiff, Nat.reduceLeDiff, Nat.reduceMul, Nat.reduceLT, reduceIte, Int.reduceToNat, w64_id, cast_succ]
  have e : decide ((x.length : Int) = 0) = decide (x.length = 0) := decide_eq_decide.2 (by omega)
  repeat (first | (with_reducible first | refine SW.seq ?_ | refine SW.block ?_ | refine SW.rowC ?_ | refine SW.skip ?_ | refine SW.exit ?_ | intro _ | refine And.intro (by omega) ?_) | simp (config := { maxSteps := 1000000 }) (disch := (first | omega | (simp only [go_sem]; try omega))) only [go_sem, Nat.reduceAdd, Nat.reduceEqDiff, Nat.reduceLeDiff, Nat.reduceMul, Nat.reduceLT, reduceIte, Int.reduceToNat, w64_id, cast_succ, e])
  refine SW.ret ?_; (try simp only [go_sem]); (first | refine FunPost.one ?_ | refine FunPost.two ?_ | refine FunPost.three ?_); (try simp (config := { maxSteps := 1000000 }) (disch := (first | omega | (simp only [go_sem]; try omega))) only [go_sem, Nat.reduceAdd, Nat.reduceEqDiff, Nat.reduceLeDiff, Nat.reduceMul, Nat.reduceLT, reduceIte, Int.reduceToNat, w64_id, cast_succ])
  exact GR.of ⟨rfl, rfl⟩
theorem grB_facts {cols : List Int} {es : List (Int × Int)} (h : grB cols es = true) : cols.length ≤ 64 ∧ es.length ≤ 512 ∧ (∀ e ∈ es, 0 ≤ e.1 ∧ e.1 < e.2 ∧ e.2 < cols.length) ∧ (∀ c ∈ cols, 0 ≤ c ∧ c ≤ 63) := by
  unfold grB edsB colsB at h
  simp only [Bool.and_eq_true, decide_eq_true_eq, List.all_eq_true, edB] at h
  obtain ⟨⟨h1, _⟩, ⟨h2, h3⟩, h4⟩ := h
  exact ⟨h2, h4, h1, h3⟩
theorem implDog_fds (cols : List Int) (es : List (Int × Int)) : FDs Try.prog f_impl_DesignOfGraph [.agg [ilS cols, ilE es]] (dogN cols es) (dogV cols es) (dogA cols es) := by
  have hv := ValidGraph_fn cols es
  have hbe := fun b => Bel_ilE b es
  intro H
  unfold dogN dogV dogA
  cases hg : grB cols es
  · rw [hg] at hv
    refine ACalls.introB s_impl_DesignOfGraph (by simp) ?_; intro hB hA; unfold c_impl_DesignOfGraph; simp (config := { maxSteps := 1000000 }) (disch := (first | omega | (simp only [go_sem]; try omega))) only [go_sem, Nat.reduceAdd, Nat.reduceEqDiff, Nat.reduceLeDiff, Nat.reduceMul, Nat.reduceLT, reduceIte, Int.reduceToNat, w64_id, cast_succ]
    repeat (first | (with_reducible first | refine SW.seq ?_ | refine SW.block ?_ | refine SW.rowC ?_ | refine SW.skip ?_ | refine SW.exit ?_ | refine PFn.use (hv) ?_ | refine PFn.useq (hv) ?_ | intro _ | refine And.intro (by omega) ?_) | simp (config := { maxSteps := 1000000 }) (disch := (first | omega | (simp only [go_sem]; try omega))) only [go_sem, Nat.reduceAdd, Nat.reduceEqDiff, Nat.reduceLeDiff, Nat.reduceMul, Nat.reduceLT, reduceIte, Int.reduceToNat, w64_id, cast_succ])
    refine SW.condT rfl ?_
    repeat (first | (with_reducible first | refine SW.seq ?_ | refine SW.block ?_ | refine SW.rowC ?_ | refine SW.skip ?_ | refine SW.exit ?_ | intro _ | refine And.intro (by omega) ?_) | simp (config := { maxSteps := 1000000 }) (disch := (first | omega | (simp only [go_sem]; try omega))) only [go_sem, Nat.reduceAdd, Nat.reduceEqDiff, Nat.reduceLeDiff, Nat.reduceMul, Nat.reduceLT, reduceIte, Int.reduceToNat, w64_id, cast_succ])
    refine SW.ret ?_
    refine FunPost.cell_tmp (cs := [I 0, nilS]) (by simp (config := { maxSteps := 1000000 }) (disch := (first | omega | (simp only [go_sem]; try omega))) only [go_sem, Nat.reduceAdd, Nat.reduceEqDiff, Nat.reduceLeDiff, Nat.reduceMul, Nat.reduceLT, reduceIte, Int.reduceToNat, w64_id, cast_succ]) ?_
    exact GR.of ⟨_, _, rfl, rfl, .inr ⟨rfl, .inl rfl⟩⟩
  rw [hg] at hv
  refine ACalls.introB s_impl_DesignOfGraph (by simp) ?_; intro hB hA; unfold c_impl_DesignOfGraph; simp (config := { maxSteps := 1000000 }) (disch := (first | omega | (simp only [go_sem]; try omega))) only [go_sem, Nat.reduceAdd, Nat.reduceEqDiff, Nat.reduceLeDiff, Nat.reduceMul, Nat.reduceLT, reduceIte, Int.reduceToNat, w64_id, cast_succ]
  repeat (first | (with_reducible first | refine SW.seq ?_ | refine SW.block ?_ | refine SW.rowC ?_ | refine SW.skip ?_ | refine SW.exit ?_ | refine PFn.use (hv) ?_ | refine PFn.useq (hv) ?_ | intro _ | refine And.intro (by omega) ?_) | simp (config := { maxSteps := 1000000 }) (disch := (first | omega | (simp only [go_sem]; try omega))) only [go_sem, Nat.reduceAdd, Nat.reduceEqDiff, Nat.reduceLeDiff, Nat.reduceMul, Nat.reduceLT, reduceIte, Int.reduceToNat, w64_id, cast_succ])
  refine SW.condF rfl ?_
  repeat (first | (with_reducible first | refine SW.seq ?_ | refine SW.block ?_ | refine SW.rowC ?_ | refine SW.skip ?_ | refine SW.exit ?_ | intro _ | refine And.intro (by omega) ?_) | simp (config := { maxSteps := 1000000 }) (disch := (first | omega | (simp only [go_sem]; try omega))) only [go_sem, Nat.reduceAdd, Nat.reduceEqDiff, Nat.reduceLeDiff, Nat.reduceMul, Nat.reduceLT, reduceIte, Int.reduceToNat, w64_id, cast_succ])
  obtain ⟨f1, f2, f3, f4⟩ := grB_facts hg
  refine SW.loopE (fun E0 H0 q E' X => ∃ (pre post : List Int), cols = pre ++ post ∧ q = post.length ∧ E' = aput (aput E0 18 (I pre.length)) 4 (I (zc pre)) ∧ X = H ++ [⟨0, tyGr, 1, [ilS cols, ilE es]⟩, ⟨0, 38, 1, [I 0, nilS]⟩]) cols.length ⟨[], cols, rfl, rfl, rfl, rfl⟩ ?_
  rintro q E' X ⟨pre, post, hpp, rfl, rfl, rfl⟩
  have hzl := zc_le pre
  simp (config := { maxSteps := 1000000 }) (disch := (first | omega | (simp only [go_sem]; try omega))) only [go_sem, Nat.reduceAdd, Nat.reduceEqDiff, Nat.reduceLeDiff, Nat.reduceMul, Nat.reduceLT, reduceIte, Int.reduceToNat, w64_id, cast_succ]
  repeat (first | (with_reducible first | refine SW.seq ?_ | refine SW.block ?_ | refine SW.rowC ?_ | refine SW.skip ?_ | refine SW.exit ?_ | intro _ | refine And.intro (by omega) ?_) | simp (config := { maxSteps := 1000000 }) (disch := (first | omega | (simp only [go_sem]; try omega))) only [go_sem, Nat.reduceAdd, Nat.reduceEqDiff, Nat.reduceLeDiff, Nat.reduceMul, Nat.reduceLT, reduceIte, Int.reduceToNat, w64_id, cast_succ])
  (first | refine SW.condD rfl (fun h2 => ?_) (fun h2 => ?_) | refine SW.condN rfl (fun h2 => ?_) (fun h2 => ?_) | refine SW.condNB rfl (fun h2 => ?_) (fun h2 => ?_) | refine SW.condB rfl (fun h2 => ?_) (fun h2 => ?_))
  · obtain ⟨c, post, rfl, hgc, -⟩ := consOf (d := 0) hpp (by omega)
    have hpl : pre.length + post.length + 1 = cols.length := by rw [hpp]; simp; omega
    repeat (first | (with_reducible first | refine SW.seq ?_ | refine SW.block ?_ | refine SW.rowC ?_ | refine SW.skip ?_ | refine SW.exit ?_ | intro _ | refine And.intro (by omega) ?_) | simp (config := { maxSteps := 1000000 }) (disch := (first | omega | (simp only [go_sem]; try omega))) only [go_sem, Nat.reduceAdd, Nat.reduceEqDiff, Nat.reduceLeDiff, Nat.reduceMul, Nat.reduceLT, reduceIte, Int.reduceToNat, w64_id, cast_succ, hgc])
    (first | refine SW.condD rfl (fun h3 => ?_) (fun h3 => ?_) | refine SW.condN rfl (fun h3 => ?_) (fun h3 => ?_) | refine SW.condNB rfl (fun h3 => ?_) (fun h3 => ?_) | refine SW.condB rfl (fun h3 => ?_) (fun h3 => ?_))
    · repeat (first | (with_reducible first | refine SW.seq ?_ | refine SW.block ?_ | refine SW.rowC ?_ | refine SW.skip ?_ | refine SW.exit ?_ | intro _ | refine And.intro (by omega) ?_) | simp (config := { maxSteps := 1000000 }) (disch := (first | omega | (simp only [go_sem]; try omega))) only [go_sem, Nat.reduceAdd, Nat.reduceEqDiff, Nat.reduceLeDiff, Nat.reduceMul, Nat.reduceLT, reduceIte, Int.reduceToNat, w64_id, cast_succ])
      refine SLoop.next post.length (by simp) ⟨pre ++ [c], post, by simp [hpp], rfl, ?_, rfl⟩
      rw [zc_snoc, if_pos h3]
      simp [go_sem]
    · repeat (first | (with_reducible first | refine SW.seq ?_ | refine SW.block ?_ | refine SW.rowC ?_ | refine SW.skip ?_ | refine SW.exit ?_ | intro _ | refine And.intro (by omega) ?_) | simp (config := { maxSteps := 1000000 }) (disch := (first | omega | (simp only [go_sem]; try omega))) only [go_sem, Nat.reduceAdd, Nat.reduceEqDiff, Nat.reduceLeDiff, Nat.reduceMul, Nat.reduceLT, reduceIte, Int.reduceToNat, w64_id, cast_succ])
      refine SLoop.next post.length (by simp) ⟨pre ++ [c], post, by simp [hpp], rfl, ?_, rfl⟩
      rw [zc_snoc, if_neg h3]
      simp [go_sem]
  obtain ⟨rfl, rfl⟩ := nilOf hpp (by omega)
  have hsub : (pre.length : Int) - (zc pre : Int) = ((pre.length - zc pre : Nat) : Int) := by omega
  have htc := (twoColors_new (zc pre) (pre.length - zc pre) (by omega) (by omega)).pfn
  have hse := slicesEqual_fnR pre (twoC (zc pre) (pre.length - zc pre))
  have hsz := size_fn pre
  have hw : w64 ((pre.length : Int) - (zc pre : Int)) = ((pre.length - zc pre : Nat) : Int) := by rw [w64_id (by omega) (by omega)]; exact hsub
  have hwi := within_fn (zc pre) 1 32
  have e0 : (pre ++ [] : List Int) = pre := List.append_nil pre
  cases hcc : decide (pre = twoC (zc pre) (pre.length - zc pre))
  · have hb : dogB pre es = false := by unfold dogB dogC; rw [hcc]; rfl
    rw [hb]
    rw [hcc] at hse
    repeat (first | (with_reducible first | refine SW.seq ?_ | refine SW.block ?_ | refine SW.rowC ?_ | refine SW.skip ?_ | refine SW.exit ?_ | refine PFn.use (hsz) ?_ | refine PFn.useq (hsz) ?_ | refine PFn.use (htc) ?_ | refine PFn.useq (htc) ?_ | refine PFn.use (hse) ?_ | refine PFn.useq (hse) ?_ | intro _ | refine And.intro (by omega) ?_) | simp (config := { maxSteps := 1000000 }) (disch := (first | omega | (simp only [go_sem]; try omega))) only [go_sem, Nat.reduceAdd, Nat.reduceEqDiff, Nat.reduceLeDiff, Nat.reduceMul, Nat.reduceLT, reduceIte, Int.reduceToNat, w64_id, cast_succ, hsub, hw])
    refine SW.condT rfl ?_
    repeat (first | (with_reducible first | refine SW.seq ?_ | refine SW.block ?_ | refine SW.rowC ?_ | refine SW.skip ?_ | refine SW.exit ?_ | intro _ | refine And.intro (by omega) ?_) | simp (config := { maxSteps := 1000000 }) (disch := (first | omega | (simp only [go_sem]; try omega))) only [go_sem, Nat.reduceAdd, Nat.reduceEqDiff, Nat.reduceLeDiff, Nat.reduceMul, Nat.reduceLT, reduceIte, Int.reduceToNat, w64_id, cast_succ])
    refine SW.ret ?_
    refine FunPost.cell_tmp (cs := [I 0, nilS]) (by simp (config := { maxSteps := 1000000 }) (disch := (first | omega | (simp only [go_sem]; try omega))) only [go_sem, Nat.reduceAdd, Nat.reduceEqDiff, Nat.reduceLeDiff, Nat.reduceMul, Nat.reduceLT, reduceIte, Int.reduceToNat, w64_id, cast_succ]) ?_
    exact GR.of ⟨_, _, rfl, rfl, .inr ⟨rfl, .inl rfl⟩⟩
  rw [hcc] at hse
  cases hww : decide ((1 : Int) ≤ zc pre) && decide ((zc pre : Int) ≤ 32)
  · have hb : dogB pre es = false := by unfold dogB dogC; rw [hcc, hww]; rfl
    rw [hb]
    rw [hww] at hwi
    repeat (first | (with_reducible first | refine SW.seq ?_ | refine SW.block ?_ | refine SW.rowC ?_ | refine SW.skip ?_ | refine SW.exit ?_ | refine PFn.use (hsz) ?_ | refine PFn.useq (hsz) ?_ | refine PFn.use (htc) ?_ | refine PFn.useq (htc) ?_ | refine PFn.use (hse) ?_ | refine PFn.useq (hse) ?_ | refine PFn.use (hwi) ?_ | refine PFn.useq (hwi) ?_ | intro _ | refine And.intro (by omega) ?_) | simp (config := { maxSteps := 1000000 }) (disch := (first | omega | (simp only [go_sem]; try omega))) only [go_sem, Nat.reduceAdd, Nat.reduceEqDiff, Nat.reduceLeDiff, Nat.reduceMul, Nat.reduceLT, reduceIte, Int.reduceToNat, w64_id, cast_succ, hsub, hw])
    refine SW.condT rfl ?_
    repeat (first | (with_reducible first | refine SW.seq ?_ | refine SW.block ?_ | refine SW.rowC ?_ | refine SW.skip ?_ | refine SW.exit ?_ | intro _ | refine And.intro (by omega) ?_) | simp (config := { maxSteps := 1000000 }) (disch := (first | omega | (simp only [go_sem]; try omega))) only [go_sem, Nat.reduceAdd, Nat.reduceEqDiff, Nat.reduceLeDiff, Nat.reduceMul, Nat.reduceLT, reduceIte, Int.reduceToNat, w64_id, cast_succ])
    refine SW.ret ?_
    refine FunPost.cell_tmp (cs := [I 0, nilS]) (by simp (config := { maxSteps := 1000000 }) (disch := (first | omega | (simp only [go_sem]; try omega))) only [go_sem, Nat.reduceAdd, Nat.reduceEqDiff, Nat.reduceLeDiff, Nat.reduceMul, Nat.reduceLT, reduceIte, Int.reduceToNat, w64_id, cast_succ]) ?_
    exact GR.of ⟨_, _, rfl, rfl, .inr ⟨rfl, .inl rfl⟩⟩
  rw [hww] at hwi
  repeat (first | (with_reducible first | refine SW.seq ?_ | refine SW.block ?_ | refine SW.rowC ?_ | refine SW.skip ?_ | refine SW.exit ?_ | refine PFn.use (hsz) ?_ | refine PFn.useq (hsz) ?_ | refine PFn.use (htc) ?_ | refine PFn.useq (htc) ?_ | refine PFn.use (hse) ?_ | refine PFn.useq (hse) ?_ | refine PFn.use (hwi) ?_ | refine PFn.useq (hwi) ?_ | intro _ | refine And.intro (by omega) ?_) | simp (config := { maxSteps := 1000000 }) (disch := (first | omega | (simp only [go_sem]; try omega))) only [go_sem, Nat.reduceAdd, Nat.reduceEqDiff, Nat.reduceLeDiff, Nat.reduceMul, Nat.reduceLT, reduceIte, Int.reduceToNat, w64_id, cast_succ, hsub, hw])
  refine SW.condF rfl ?_
  repeat (first | (with_reducible first | refine SW.seq ?_ | refine SW.block ?_ | refine SW.rowC ?_ | refine SW.skip ?_ | refine SW.exit ?_ | intro _ | refine And.intro (by omega) ?_) | simp (config := { maxSteps := 1000000 }) (disch := (first | omega | (simp only [go_sem]; try omega))) only [go_sem, Nat.reduceAdd, Nat.reduceEqDiff, Nat.reduceLeDiff, Nat.reduceMul, Nat.reduceLT, reduceIte, Int.reduceToNat, w64_id, cast_succ])
  have hd : dogB pre es = (dogE pre es && !((dogR pre es).any fun l => decide (l.length = 0))) := by unfold dogB dogC; rw [hcc, hww]; rfl
  clear hww hcc hse hwi htc hsub hw hv e0
  refine SW.loopE (fun E0 H0 q E' X => ∃ (pe post : List (Int × Int)), es = pe ++ post ∧ q = post.length ∧ E' = aput E0 48 (I pe.length) ∧ X = H ++ [⟨0, tyGr, 1, [ilS pre, ilE es]⟩, ⟨0, 38, 1, [I 0, nilS]⟩] ∧ dogE pre pe = true) es.length ⟨[], es, rfl, rfl, rfl, rfl, rfl⟩ ?_
  rintro q E' X ⟨pe, post, hq, rfl, rfl, rfl, hpe⟩
  simp (config := { maxSteps := 1000000 }) (disch := (first | omega | (simp only [go_sem]; try omega))) only [go_sem, Nat.reduceAdd, Nat.reduceEqDiff, Nat.reduceLeDiff, Nat.reduceMul, Nat.reduceLT, reduceIte, Int.reduceToNat, w64_id, cast_succ]
  repeat (first | (with_reducible first | refine SW.seq ?_ | refine SW.block ?_ | refine SW.rowC ?_ | refine SW.skip ?_ | refine SW.exit ?_ | intro _ | refine And.intro (by omega) ?_) | simp (config := { maxSteps := 1000000 }) (disch := (first | omega | (simp only [go_sem]; try omega))) only [go_sem, Nat.reduceAdd, Nat.reduceEqDiff, Nat.reduceLeDiff, Nat.reduceMul, Nat.reduceLT, reduceIte, Int.reduceToNat, w64_id, cast_succ])
  (first | refine SW.condD rfl (fun h4 => ?_) (fun h4 => ?_) | refine SW.condN rfl (fun h4 => ?_) (fun h4 => ?_) | refine SW.condNB rfl (fun h4 => ?_) (fun h4 => ?_) | refine SW.condB rfl (fun h4 => ?_) (fun h4 => ?_))
  · obtain ⟨⟨x, y⟩, post, rfl, hgc, -⟩ := consOf (d := (0, 0)) hq (by omega)
    obtain ⟨x0, x1, x2⟩ := f3 (x, y) (by rw [hq]; simp)
    obtain ⟨a, rfl⟩ : ∃ a : Nat, x = a := ⟨x.toNat, by simp at x0; omega⟩
    obtain ⟨b, rfl⟩ : ∃ b : Nat, y = b := ⟨y.toNat, by simp at x0 x1; omega⟩
    replace x2 : b < pre.length := by simpa using x2
    replace x1 : a < b := by simpa using x1
    have l1 : ∀ H, acells H 2 (.el (ilE es) (pe.length * 2)) = some [I (a : Int), I (b : Int)] := fun H => by
      have := (rd_ilE H es).ld (j := pe.length) (by omega)
      rwa [hgc] at this
    have hsn : dogE pre (pe ++ [((a : Int), (b : Int))]) = !decide (pre.getD a 0 = pre.getD b 0) := by
      unfold dogE at hpe ⊢
      rw [List.all_append, hpe]
      simp
    repeat (first | (with_reducible first | refine SW.seq ?_ | refine SW.block ?_ | refine SW.rowC ?_ | refine SW.skip ?_ | refine SW.exit ?_ | intro _ | refine And.intro (by omega) ?_) | simp (config := { maxSteps := 1000000 }) (disch := (first | omega | (simp only [go_sem]; try omega))) only [go_sem, Nat.reduceAdd, Nat.reduceEqDiff, Nat.reduceLeDiff, Nat.reduceMul, Nat.reduceLT, reduceIte, Int.reduceToNat, w64_id, cast_succ, l1])
    cases hab : decide (pre.getD a 0 = pre.getD b 0)
    · rw [hab] at hsn
      refine SW.condF rfl ?_
      repeat (first | (with_reducible first | refine SW.seq ?_ | refine SW.block ?_ | refine SW.rowC ?_ | refine SW.skip ?_ | refine SW.exit ?_ | intro _ | refine And.intro (by omega) ?_) | simp (config := { maxSteps := 1000000 }) (disch := (first | omega | (simp only [go_sem]; try omega))) only [go_sem, Nat.reduceAdd, Nat.reduceEqDiff, Nat.reduceLeDiff, Nat.reduceMul, Nat.reduceLT, reduceIte, Int.reduceToNat, w64_id, cast_succ])
      refine SLoop.nextT 2 post.length hB (by omega) (by simp) (by simp) ?_ ?_ ⟨pe ++ [((a : Int), (b : Int))], post, by rw [hq]; simp, rfl, ?_, ?_, hsn⟩
      · (simp only [go_sem, Nat.reduceAdd, Nat.reduceEqDiff, reduceIte, go_sem, and_self, and_true, true_and, implies_true, List.take_succ_cons, List.take_zero, and_true, true_and, hbe]; try omega)
      · (simp only [go_sem, Nat.reduceAdd, Nat.reduceEqDiff, reduceIte, go_sem, and_self, and_true, true_and, implies_true, List.take_succ_cons, List.take_zero, and_true, true_and, hbe]; try omega)
      · simp [go_sem]
      · simp
    · rw [hab] at hsn
      have hb : dogB pre es = false := by
        rw [hd, show dogE pre es = false by
          unfold dogE at hsn ⊢
          rw [show es = (pe ++ [((a : Int), (b : Int))]) ++ post by rw [hq]; simp, List.all_append, hsn]; rfl]
        rfl
      rw [hb]
      refine SW.condT rfl ?_
      repeat (first | (with_reducible first | refine SW.seq ?_ | refine SW.block ?_ | refine SW.rowC ?_ | refine SW.skip ?_ | refine SW.exit ?_ | intro _ | refine And.intro (by omega) ?_) | simp (config := { maxSteps := 1000000 }) (disch := (first | omega | (simp only [go_sem]; try omega))) only [go_sem, Nat.reduceAdd, Nat.reduceEqDiff, Nat.reduceLeDiff, Nat.reduceMul, Nat.reduceLT, reduceIte, Int.reduceToNat, w64_id, cast_succ])
      refine SW.ret ?_
      refine FunPost.cell_tmp (cs := [I 0, nilS]) (by simp (config := { maxSteps := 1000000 }) (disch := (first | omega | (simp only [go_sem]; try omega))) only [go_sem, Nat.reduceAdd, Nat.reduceEqDiff, Nat.reduceLeDiff, Nat.reduceMul, Nat.reduceLT, reduceIte, Int.reduceToNat, w64_id, cast_succ]) ?_
      exact GR.of ⟨_, _, rfl, rfl, .inr ⟨rfl, .inl rfl⟩⟩
  obtain ⟨rfl, rfl⟩ := nilOf hq (by omega)
  have hn := neighborLists_fn pre pe (by omega) (by omega) (fun e he => by obtain ⟨q1, q2, q3⟩ := f3 e he; omega)
  have hTl : ((nbrT pre.length pe).map isort).length = pre.length := by rw [List.length_map, nbrT_len]
  have hTb : ∀ x ∈ (nbrT pre.length pe).map isort, x.length ≤ 2000000 := fun x hx => by
    obtain ⟨y, hy, rfl⟩ := List.mem_map.1 hx
    obtain ⟨k, _, rfl⟩ := List.mem_map.1 hy
    have := nbr_len pe k
    rw [isort_length]; omega
  rw [hpe, Bool.true_and] at hd
  unfold dogR at *
  generalize (nbrT pre.length pe).map isort = T at *
  have hzl := zc_le pre
  have htk : (T.drop (zc pre)).take (pre.length - zc pre) = T.drop (zc pre) := List.take_of_length_le (by rw [List.length_drop]; omega)
  have hsl := fun H K => slcD (H := H) K T (zc pre) pre.length (by omega) (by omega) (by omega)
  rw [hTl, Int.toNat_natCast, Int.toNat_natCast, htk] at hsl
  repeat (first | (with_reducible first | refine SW.seq ?_ | refine SW.block ?_ | refine SW.rowC ?_ | refine SW.skip ?_ | refine SW.exit ?_ | refine PFn.use (hn) ?_ | refine PFn.useq (hn) ?_ | intro _ | refine And.intro (by omega) ?_) | simp (config := { maxSteps := 1000000 }) (disch := (first | omega | (simp only [go_sem]; try omega))) only [go_sem, Nat.reduceAdd, Nat.reduceEqDiff, Nat.reduceLeDiff, Nat.reduceMul, Nat.reduceLT, reduceIte, Int.reduceToNat, w64_id, cast_succ, Option.map_some, Option.map_none, hsl, hTl])
  refine (conSS_ok ilS _ _ (T.drop (zc pre)) rfl f_impl_DesignOfGraph_c1 [] dog_call (fun l => decide (l.length = 0)) (fun x _ => dog_c1_fn x _)).mono ?_
  rintro r X ⟨rfl, rfl⟩
  cases hany : (T.drop (zc pre)).any fun l => decide (l.length = 0)
  · rw [hany] at hd
    rw [show dogB pre pe = true from hd]
    have hso := sorted_own (zc pre) (T.drop (zc pre)) (by rw [List.length_drop]; omega) (fun x hx => hTb x (List.mem_of_mem_drop hx))
    rw [if_neg (by rw [List.length_drop]; omega), if_neg (by rw [List.length_drop]; omega), if_neg (by rw [List.length_drop]; omega)] at hso
    repeat (first | (with_reducible first | refine SW.seq ?_ | refine SW.block ?_ | refine SW.rowC ?_ | refine SW.skip ?_ | refine SW.exit ?_ | intro _ | refine And.intro (by omega) ?_) | simp (config := { maxSteps := 1000000 }) (disch := (first | omega | (simp only [go_sem]; try omega))) only [go_sem, Nat.reduceAdd, Nat.reduceEqDiff, Nat.reduceLeDiff, Nat.reduceMul, Nat.reduceLT, reduceIte, Int.reduceToNat, w64_id, cast_succ])
    refine SW.condF rfl ?_
    repeat (first | (with_reducible first | refine SW.seq ?_ | refine SW.block ?_ | refine SW.rowC ?_ | refine SW.skip ?_ | refine SW.exit ?_ | intro _ | refine And.intro (by omega) ?_) | simp (config := { maxSteps := 1000000 }) (disch := (first | omega | (simp only [go_sem]; try omega))) only [go_sem, Nat.reduceAdd, Nat.reduceEqDiff, Nat.reduceLeDiff, Nat.reduceMul, Nat.reduceLT, reduceIte, Int.reduceToNat, w64_id, cast_succ])
    refine (hso _).mono ?_
    rintro r X ⟨ext, v, hX, rfl, ho⟩
    have hb : X[H.length + 1]? = some ⟨0, 38, 1, [I 0, nilS]⟩ := by rw [hX]; simp
    have hfX : ∀ j, j < H.length → X[j]? = H[j]? := fun j hj => by rw [hX, List.append_assoc, List.getElem?_append_left hj]
    have hlX := (List.getElem?_eq_some_iff.1 hb).1
    have hl2 : (H ++ [(⟨0, tyGr, 1, [ilS pre, ilE pe]⟩ : Blk), ⟨0, 38, 1, [I 0, nilS]⟩]).length = H.length + 2 := by simp
    rw [hl2] at ho
    clear hX
    have ra := fun o => pc_alive (off := o) hb
    have w1 : astore X [I (zc pre), v] (.pc (H.length + 1) 0 0) = some (X.set (H.length + 1) ⟨0, 38, 1, [I (zc pre), v]⟩) := by rw [pc_st hb (by simp)]; rfl
    repeat (first | (with_reducible first | refine SW.seq ?_ | refine SW.block ?_ | refine SW.rowC ?_ | refine SW.skip ?_ | refine SW.exit ?_ | intro _ | refine And.intro (by omega) ?_) | simp (config := { maxSteps := 1000000 }) (disch := (first | omega | (simp only [go_sem]; try omega))) only [go_sem, Nat.reduceAdd, Nat.reduceEqDiff, Nat.reduceLeDiff, Nat.reduceMul, Nat.reduceLT, reduceIte, Int.reduceToNat, w64_id, cast_succ, ra, w1, ho.oneU.1, ho.oneU.2])
    refine SW.ret ?_
    refine FunPost.cell_tmp (cs := [I (zc pre), v]) (pc_lds (List.getElem?_set_self hlX) (by simp)) ?_
    obtain ⟨e, he⟩ := prefix_of (H := H) (H' := X.set (H.length + 1) ⟨0, 38, 1, [I (zc pre), v]⟩) (by simp; omega) (fun j hj => by rw [List.getElem?_set_ne (by omega)]; exact hfX j hj)
    refine GR.of ⟨e, v, he, rfl, (ho.same (fun j b q hb => ?_)).weak (fun r h1 h2 => ⟨by have := h1.1; omega, h2⟩)⟩
    rw [List.getElem?_set_ne (by have := q.1; omega)]; exact hb
  · rw [hany] at hd
    rw [show dogB pre pe = false from hd]
    repeat (first | (with_reducible first | refine SW.seq ?_ | refine SW.block ?_ | refine SW.rowC ?_ | refine SW.skip ?_ | refine SW.exit ?_ | intro _ | refine And.intro (by omega) ?_) | simp (config := { maxSteps := 1000000 }) (disch := (first | omega | (simp only [go_sem]; try omega))) only [go_sem, Nat.reduceAdd, Nat.reduceEqDiff, Nat.reduceLeDiff, Nat.reduceMul, Nat.reduceLT, reduceIte, Int.reduceToNat, w64_id, cast_succ])
    refine SW.condT rfl ?_
    repeat (first | (with_reducible first | refine SW.seq ?_ | refine SW.block ?_ | refine SW.rowC ?_ | refine SW.skip ?_ | refine SW.exit ?_ | intro _ | refine And.intro (by omega) ?_) | simp (config := { maxSteps := 1000000 }) (disch := (first | omega | (simp only [go_sem]; try omega))) only [go_sem, Nat.reduceAdd, Nat.reduceEqDiff, Nat.reduceLeDiff, Nat.reduceMul, Nat.reduceLT, reduceIte, Int.reduceToNat, w64_id, cast_succ])
    refine SW.ret ?_
    refine FunPost.cell_tmp (cs := [I 0, nilS]) (by simp (config := { maxSteps := 1000000 }) (disch := (first | omega | (simp only [go_sem]; try omega))) only [go_sem, Nat.reduceAdd, Nat.reduceEqDiff, Nat.reduceLeDiff, Nat.reduceMul, Nat.reduceLT, reduceIte, Int.reduceToNat, w64_id, cast_succ]) ?_
    exact GR.of ⟨_, _, rfl, rfl, .inr ⟨rfl, .inl rfl⟩⟩
end Go.Proofs.Ytmdeibdplpodpaa
