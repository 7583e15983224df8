/- Rows of edges in the laws: compared, marked, held. -/
import Derived.Test.YtdgcgckehihboaaDoorProg
import Derived.KernelRfl
import Derived.Test.YtdgcgckehihboaaDoorE1
import Derived.Test.YtdgcgckehihboaaDoorL3
set_option linter.unusedSimpArgs false
set_option linter.unusedVariables false
set_option maxHeartbeats 4000000
set_option maxRecDepth 100000
namespace Go.Proofs.YtdgcgckehihboaaDoor
open Go.Av

/-! The abstract code of functions, printed by program and tied to the program by the kernel. -/
/-- loop.example/g00920/laws.eqEdgeS -/
abbrev f_laws_eqEdgeS : Nat := 20
def c_laws_eqEdgeS : SC :=
 .seq (.reg [
     ⟨(some 4), .mv (.const (.bool false)), none⟩] [0, 1])
 (.seq (.seq (.reg [
     ⟨(some 6), .mv (.tmp 0), none⟩,
     ⟨(some 7), .len (.tmp 6), none⟩,
     ⟨(some 8), .mv (.tmp 1), none⟩,
     ⟨(some 9), .len (.tmp 8), none⟩,
     ⟨(some 10), .bin .neq (.tmp 7) (.tmp 9), none⟩] [0, 1, 10])
 (.cond (.tmp 10)
  (.seq (.reg [
      ⟨(some 4), .mv (.const (.bool false)), none⟩] [4])
  (.ret))
  (.skip)))
 (.seq (.seq (.reg [
     ⟨(some 5), .mv (.const (.int .i64 0)), none⟩] [0, 1, 5])
 (.block 0 (.loop [0, 1, 5]
   (.seq (.seq (.reg [
       ⟨(some 11), .mv (.tmp 5), none⟩,
       ⟨(some 12), .mv (.tmp 0), none⟩,
       ⟨(some 13), .len (.tmp 12), none⟩,
       ⟨(some 14), .bin .lss (.tmp 11) (.tmp 13), none⟩] [0, 1, 5, 14])
   (.cond (.tmp 14)
    (.skip)
    (.exit 0)))
   (.seq (.block 1 (.seq (.reg [
        ⟨(some 17), .mv (.tmp 0), none⟩,
        ⟨(some 18), .mv (.tmp 5), none⟩,
        ⟨(some 19), .iaddr 2 (.tmp 17) (.tmp 18), none⟩,
        ⟨(some 20), .load 2 true (.tmp 19), none⟩,
        ⟨(some 21), .mv (.tmp 1), none⟩,
        ⟨(some 22), .mv (.tmp 5), none⟩,
        ⟨(some 23), .iaddr 2 (.tmp 21) (.tmp 22), none⟩,
        ⟨(some 24), .load 2 true (.tmp 23), none⟩,
        ⟨(some 25), .qcall 40 [(.tmp 20), (.tmp 24)], none⟩,
        ⟨(some 26), .un .not (.tmp 25), none⟩] [0, 1, 5, 26])
    (.cond (.tmp 26)
     (.seq (.reg [
         ⟨(some 4), .mv (.const (.bool false)), none⟩] [4])
     (.ret))
     (.skip))))
   (.reg [
       ⟨(some 15), .mv (.tmp 5), none⟩,
       ⟨(some 16), .bin .add (.tmp 15) (.const (.int .i64 1)), none⟩,
       ⟨(some 5), .mv (.tmp 16), none⟩] [0, 1, 5]))))))
 (.seq (.reg [
     ⟨(some 4), .mv (.const (.bool true)), none⟩] [4])
 (.ret))))
theorem s_laws_eqEdgeS : stripF Tryd.prog 20 [[0, 1], [0, 1, 10], [4], [0, 1, 5], [0, 1, 5], [0, 1, 5, 14], [0, 1, 5, 26], [4], [0, 1, 5], [4]] = some (c_laws_eqEdgeS, [.tmp 4], 27) := by kernel_rfl

/-- loop.example/g00920/laws.markEdgeS -/
abbrev f_laws_markEdgeS : Nat := 22
def c_laws_markEdgeS : SC :=
 .seq (.reg [
     ⟨(some 4), .mv (.const (.int .i64 0)), none⟩] [0, 1])
 (.seq (.seq (.reg [
     ⟨(some 5), .mv (.const (.int .i64 0)), none⟩] [0, 1, 5])
 (.block 0 (.loop [0, 1, 5]
   (.seq (.seq (.reg [
       ⟨(some 6), .mv (.tmp 5), none⟩,
       ⟨(some 7), .mv (.tmp 0), none⟩,
       ⟨(some 8), .len (.tmp 7), none⟩,
       ⟨(some 9), .bin .lss (.tmp 6) (.tmp 8), none⟩] [0, 1, 5, 9])
   (.cond (.tmp 9)
    (.skip)
    (.exit 0)))
   (.seq (.block 1 (.seq (.reg [
        ⟨(some 12), .mv (.tmp 0), none⟩,
        ⟨(some 13), .mv (.tmp 5), none⟩,
        ⟨(some 14), .mv (.tmp 1), none⟩,
        ⟨(some 15), .iaddr 2 (.tmp 12) (.tmp 13), none⟩,
        ⟨(some 16), .faddr 0 (.tmp 15), none⟩,
        ⟨none, .store 1 (.tmp 16) (.tmp 14), none⟩] [0, 1, 5])
    (.seq (.reg [
        ⟨(some 17), .mv (.tmp 1), none⟩,
        ⟨(some 18), .bin .add (.tmp 17) (.const (.int .i64 1)), none⟩,
        ⟨(some 1), .mv (.tmp 18), none⟩] [0, 1, 5])
    (.seq (.reg [
        ⟨(some 19), .mv (.tmp 0), none⟩,
        ⟨(some 20), .mv (.tmp 5), none⟩,
        ⟨(some 21), .mv (.tmp 1), none⟩,
        ⟨(some 22), .iaddr 2 (.tmp 19) (.tmp 20), none⟩,
        ⟨(some 23), .faddr 1 (.tmp 22), none⟩,
        ⟨none, .store 1 (.tmp 23) (.tmp 21), none⟩] [0, 1, 5])
    (.reg [
        ⟨(some 24), .mv (.tmp 1), none⟩,
        ⟨(some 25), .bin .add (.tmp 24) (.const (.int .i64 1)), none⟩,
        ⟨(some 1), .mv (.tmp 25), none⟩] [0, 1, 5])))))
   (.reg [
       ⟨(some 10), .mv (.tmp 5), none⟩,
       ⟨(some 11), .bin .add (.tmp 10) (.const (.int .i64 1)), none⟩,
       ⟨(some 5), .mv (.tmp 11), none⟩] [0, 1, 5]))))))
 (.seq (.reg [
     ⟨(some 26), .mv (.tmp 1), none⟩,
     ⟨(some 4), .mv (.tmp 26), none⟩] [4])
 (.ret)))
theorem s_laws_markEdgeS : stripF Tryd.prog 22 [[0, 1], [0, 1, 5], [0, 1, 5], [0, 1, 5, 9], [0, 1, 5], [0, 1, 5], [0, 1, 5], [0, 1, 5], [0, 1, 5], [4]] = some (c_laws_markEdgeS, [.tmp 4], 27) := by kernel_rfl

/-- loop.example/g00920/laws.heldEdgeS -/
abbrev f_laws_heldEdgeS : Nat := 24
def c_laws_heldEdgeS : SC :=
 .seq (.reg [
     ⟨(some 4), .mv (.const (.int .i64 0)), none⟩] [0, 1])
 (.seq (.seq (.reg [
     ⟨(some 5), .mv (.const (.int .i64 0)), none⟩] [0, 1, 5])
 (.block 0 (.loop [0, 1, 5]
   (.seq (.seq (.reg [
       ⟨(some 6), .mv (.tmp 5), none⟩,
       ⟨(some 7), .mv (.tmp 0), none⟩,
       ⟨(some 8), .len (.tmp 7), none⟩,
       ⟨(some 9), .bin .lss (.tmp 6) (.tmp 8), none⟩] [0, 1, 5, 9])
   (.cond (.tmp 9)
    (.skip)
    (.exit 0)))
   (.seq (.block 1 (.seq (.seq (.reg [
        ⟨(some 12), .mv (.tmp 0), none⟩,
        ⟨(some 13), .mv (.tmp 5), none⟩,
        ⟨(some 14), .iaddr 2 (.tmp 12) (.tmp 13), none⟩,
        ⟨(some 15), .faddr 0 (.tmp 14), none⟩,
        ⟨(some 16), .load 1 false (.tmp 15), none⟩,
        ⟨(some 17), .mv (.tmp 1), none⟩,
        ⟨(some 18), .bin .neq (.tmp 16) (.tmp 17), none⟩] [0, 1, 5, 18])
    (.cond (.tmp 18)
     (.seq (.reg [
         ⟨(some 4), .mv (.const (.int .i64 (-1))), none⟩] [4])
     (.ret))
     (.skip)))
    (.seq (.reg [
        ⟨(some 19), .mv (.tmp 1), none⟩,
        ⟨(some 20), .bin .add (.tmp 19) (.const (.int .i64 1)), none⟩,
        ⟨(some 1), .mv (.tmp 20), none⟩] [0, 1, 5])
    (.seq (.seq (.reg [
        ⟨(some 21), .mv (.tmp 0), none⟩,
        ⟨(some 22), .mv (.tmp 5), none⟩,
        ⟨(some 23), .iaddr 2 (.tmp 21) (.tmp 22), none⟩,
        ⟨(some 24), .faddr 1 (.tmp 23), none⟩,
        ⟨(some 25), .load 1 false (.tmp 24), none⟩,
        ⟨(some 26), .mv (.tmp 1), none⟩,
        ⟨(some 27), .bin .neq (.tmp 25) (.tmp 26), none⟩] [0, 1, 5, 27])
    (.cond (.tmp 27)
     (.seq (.reg [
         ⟨(some 4), .mv (.const (.int .i64 (-1))), none⟩] [4])
     (.ret))
     (.skip)))
    (.reg [
        ⟨(some 28), .mv (.tmp 1), none⟩,
        ⟨(some 29), .bin .add (.tmp 28) (.const (.int .i64 1)), none⟩,
        ⟨(some 1), .mv (.tmp 29), none⟩] [0, 1, 5])))))
   (.reg [
       ⟨(some 10), .mv (.tmp 5), none⟩,
       ⟨(some 11), .bin .add (.tmp 10) (.const (.int .i64 1)), none⟩,
       ⟨(some 5), .mv (.tmp 11), none⟩] [0, 1, 5]))))))
 (.seq (.reg [
     ⟨(some 30), .mv (.tmp 1), none⟩,
     ⟨(some 4), .mv (.tmp 30), none⟩] [4])
 (.ret)))
theorem s_laws_heldEdgeS : stripF Tryd.prog 24 [[0, 1], [0, 1, 5], [0, 1, 5], [0, 1, 5, 9], [0, 1, 5, 18], [4], [0, 1, 5], [0, 1, 5, 27], [4], [0, 1, 5], [0, 1, 5], [4]] = some (c_laws_heldEdgeS, [.tmp 4], 31) := by kernel_rfl

/-- loop.example/g00920/laws.eqEdge -/
abbrev f_laws_eqEdge : Nat := 40
def c_laws_eqEdge : SC :=
 .seq (.reg [
     ⟨(some 2), .box 38 (.tmp 0), none⟩,
     ⟨(some 3), .box 38 (.tmp 1), none⟩,
     ⟨(some 4), .mv (.const (.bool false)), none⟩] [2, 3])
 (.seq (.seq (.reg [
     ⟨(some 5), .faddr 0 (.tmp 2), none⟩,
     ⟨(some 6), .load 1 false (.tmp 5), none⟩,
     ⟨(some 7), .faddr 0 (.tmp 3), none⟩,
     ⟨(some 8), .load 1 false (.tmp 7), none⟩,
     ⟨(some 9), .bin .neq (.tmp 6) (.tmp 8), none⟩] [2, 3, 9])
 (.cond (.tmp 9)
  (.seq (.reg [
      ⟨(some 4), .mv (.const (.bool false)), none⟩] [4])
  (.ret))
  (.skip)))
 (.seq (.seq (.reg [
     ⟨(some 10), .faddr 1 (.tmp 2), none⟩,
     ⟨(some 11), .load 1 false (.tmp 10), none⟩,
     ⟨(some 12), .faddr 1 (.tmp 3), none⟩,
     ⟨(some 13), .load 1 false (.tmp 12), none⟩,
     ⟨(some 14), .bin .neq (.tmp 11) (.tmp 13), none⟩] [14])
 (.cond (.tmp 14)
  (.seq (.reg [
      ⟨(some 4), .mv (.const (.bool false)), none⟩] [4])
  (.ret))
  (.skip)))
 (.seq (.reg [
     ⟨(some 4), .mv (.const (.bool true)), none⟩] [4])
 (.ret))))
theorem s_laws_eqEdge : stripF Tryd.prog 40 [[2, 3], [2, 3, 9], [4], [14], [4], [4]] = some (c_laws_eqEdge, [.tmp 4], 15) := by kernel_rfl


/-- Memory of the call's own: a row of pairs. -/
def OwnE (H : List Blk) (N : Nat → Prop) (c : AV) (es : List (Int × Int)) : Prop :=
  (∃ r ver ty, c = .nm r ver 0 es.length ∧ N r ∧ H[r]? = some ⟨ver, ty, 2, flatE es⟩) ∨ (es = [] ∧ (c = nilS ∨ c = .il 0 []))
theorem OwnE.rd {H : List Blk} {N : Nat → Prop} {c : AV} {es : List (Int × Int)} (h : OwnE H N c es) : RdE H c es := by
  rcases h with ⟨r, ver, ty, rfl, _, h3⟩ | ⟨rfl, rfl | rfl⟩
  · exact rd_nmE h3
  · rfl
  · rfl
theorem OwnE.one {H : List Blk} {N : Nat → Prop} {c : AV} {es : List (Int × Int)} (h : OwnE H N c es) : c.cell1 = true ∧ partsOf c = [c] := by
  rcases h with ⟨r, ver, ty, rfl, _, h3⟩ | ⟨rfl, rfl | rfl⟩ <;> exact ⟨rfl, rfl⟩
theorem OwnE.same {H H' : List Blk} {N : Nat → Prop} {c : AV} {es : List (Int × Int)} (h : OwnE H N c es) (hs : ∀ j b, N j → H[j]? = some b → H'[j]? = some b) : OwnE H' N c es := by
  rcases h with ⟨r, ver, ty, hc, h2, h3⟩ | h
  · exact .inl ⟨r, ver, ty, hc, h2, hs r _ h2 h3⟩
  · exact .inr h
theorem OwnE.append {H : List Blk} {N : Nat → Prop} {c : AV} {es : List (Int × Int)} (h : OwnE H N c es) (ext : List Blk) : OwnE (H ++ ext) N c es :=
  h.same (fun j b _ hb => by rw [List.getElem?_append_left (List.getElem?_eq_some_iff.1 hb).1]; exact hb)
theorem OwnE.weak {H : List Blk} {N N' : Nat → Prop} {c : AV} {es : List (Int × Int)} (h : OwnE H N c es) (hN : ∀ r, N r → r < H.length → N' r) : OwnE H N' c es := by
  rcases h with ⟨r, ver, ty, hc, h2, h3⟩ | h
  · exact .inl ⟨r, ver, ty, hc, hN r h2 (List.getElem?_eq_some_iff.1 h3).1, h3⟩
  · exact .inr h

theorem eqEdge_fn (a b : Int × Int) : PFn Tryd.prog f_laws_eqEdge [agE a, agE b] (Bv (decide (a = b))) := by
  obtain ⟨a1, a2⟩ := a
  obtain ⟨b1, b2⟩ := b
  unfold agE
  intro H; refine ACalls.introB s_laws_eqEdge (by simp) ?_; intro hB hA; unfold c_laws_eqEdge; simp (config := { maxSteps := 1000000 }) (disch := (first | omega | (simp only [go_sem]; try omega))) only [go_sem, Nat.reduceAdd, Nat.reduceEqDiff, Nat.reduceLeDiff, Nat.reduceMul, Nat.reduceLT, reduceIte, Int.reduceToNat, w64_id, cast_succ]
  repeat (first | (with_reducible first | refine SW.seq ?_ | refine SW.block ?_ | refine SW.rowC ?_ | refine SW.skip ?_ | refine SW.exit ?_ | intro _ | refine And.intro (by omega) ?_) | simp (config := { maxSteps := 1000000 }) (disch := (first | omega | (simp only [go_sem]; try omega))) only [go_sem, Nat.reduceAdd, Nat.reduceEqDiff, Nat.reduceLeDiff, Nat.reduceMul, Nat.reduceLT, reduceIte, Int.reduceToNat, w64_id, cast_succ])
  by_cases h1 : a1 = b1
  · have d1 : decide (a1 = b1) = true := decide_eq_true h1
    repeat (first | (with_reducible first | refine SW.seq ?_ | refine SW.block ?_ | refine SW.rowC ?_ | refine SW.skip ?_ | refine SW.exit ?_ | intro _ | refine And.intro (by omega) ?_) | simp (config := { maxSteps := 1000000 }) (disch := (first | omega | (simp only [go_sem]; try omega))) only [go_sem, Nat.reduceAdd, Nat.reduceEqDiff, Nat.reduceLeDiff, Nat.reduceMul, Nat.reduceLT, reduceIte, Int.reduceToNat, w64_id, cast_succ, d1])
    refine SW.condF rfl ?_
    repeat (first | (with_reducible first | refine SW.seq ?_ | refine SW.block ?_ | refine SW.rowC ?_ | refine SW.skip ?_ | refine SW.exit ?_ | intro _ | refine And.intro (by omega) ?_) | simp (config := { maxSteps := 1000000 }) (disch := (first | omega | (simp only [go_sem]; try omega))) only [go_sem, Nat.reduceAdd, Nat.reduceEqDiff, Nat.reduceLeDiff, Nat.reduceMul, Nat.reduceLT, reduceIte, Int.reduceToNat, w64_id, cast_succ])
    by_cases h2 : a2 = b2
    · have d2 : decide (a2 = b2) = true := decide_eq_true h2
      repeat (first | (with_reducible first | refine SW.seq ?_ | refine SW.block ?_ | refine SW.rowC ?_ | refine SW.skip ?_ | refine SW.exit ?_ | intro _ | refine And.intro (by omega) ?_) | simp (config := { maxSteps := 1000000 }) (disch := (first | omega | (simp only [go_sem]; try omega))) only [go_sem, Nat.reduceAdd, Nat.reduceEqDiff, Nat.reduceLeDiff, Nat.reduceMul, Nat.reduceLT, reduceIte, Int.reduceToNat, w64_id, cast_succ, d2])
      refine SW.condF rfl ?_
      repeat (first | (with_reducible first | refine SW.seq ?_ | refine SW.block ?_ | refine SW.rowC ?_ | refine SW.skip ?_ | refine SW.exit ?_ | intro _ | refine And.intro (by omega) ?_) | simp (config := { maxSteps := 1000000 }) (disch := (first | omega | (simp only [go_sem]; try omega))) only [go_sem, Nat.reduceAdd, Nat.reduceEqDiff, Nat.reduceLeDiff, Nat.reduceMul, Nat.reduceLT, reduceIte, Int.reduceToNat, w64_id, cast_succ])
      refine SW.ret ?_; (try simp only [go_sem]); (first | refine FunPost.one ?_ | refine FunPost.two ?_ | refine FunPost.three ?_); (try simp (config := { maxSteps := 1000000 }) (disch := (first | omega | (simp only [go_sem]; try omega))) only [go_sem, Nat.reduceAdd, Nat.reduceEqDiff, Nat.reduceLeDiff, Nat.reduceMul, Nat.reduceLT, reduceIte, Int.reduceToNat, w64_id, cast_succ]); (first | (with_reducible refine GR.drop ?_ ?_; (simp only [go_sem, and_self, and_true, true_and, implies_true, List.take_succ_cons, List.take_zero])) | refine GR.of ?_); refine ⟨?_, rfl⟩; (try with_reducible rfl)
      rw [h1, h2]; simp
    · have d2 : decide (a2 = b2) = false := decide_eq_false h2
      repeat (first | (with_reducible first | refine SW.seq ?_ | refine SW.block ?_ | refine SW.rowC ?_ | refine SW.skip ?_ | refine SW.exit ?_ | intro _ | refine And.intro (by omega) ?_) | simp (config := { maxSteps := 1000000 }) (disch := (first | omega | (simp only [go_sem]; try omega))) only [go_sem, Nat.reduceAdd, Nat.reduceEqDiff, Nat.reduceLeDiff, Nat.reduceMul, Nat.reduceLT, reduceIte, Int.reduceToNat, w64_id, cast_succ, d2])
      refine SW.condT rfl ?_
      repeat (first | (with_reducible first | refine SW.seq ?_ | refine SW.block ?_ | refine SW.rowC ?_ | refine SW.skip ?_ | refine SW.exit ?_ | intro _ | refine And.intro (by omega) ?_) | simp (config := { maxSteps := 1000000 }) (disch := (first | omega | (simp only [go_sem]; try omega))) only [go_sem, Nat.reduceAdd, Nat.reduceEqDiff, Nat.reduceLeDiff, Nat.reduceMul, Nat.reduceLT, reduceIte, Int.reduceToNat, w64_id, cast_succ])
      refine SW.ret ?_; (try simp only [go_sem]); (first | refine FunPost.one ?_ | refine FunPost.two ?_ | refine FunPost.three ?_); (try simp (config := { maxSteps := 1000000 }) (disch := (first | omega | (simp only [go_sem]; try omega))) only [go_sem, Nat.reduceAdd, Nat.reduceEqDiff, Nat.reduceLeDiff, Nat.reduceMul, Nat.reduceLT, reduceIte, Int.reduceToNat, w64_id, cast_succ]); (first | (with_reducible refine GR.drop ?_ ?_; (simp only [go_sem, and_self, and_true, true_and, implies_true, List.take_succ_cons, List.take_zero])) | refine GR.of ?_); refine ⟨?_, rfl⟩; (try with_reducible rfl)
      rw [decide_eq_false (show ¬ (a1, a2) = (b1, b2) from fun h => h2 (Prod.mk.inj h).2)]
  · have d1 : decide (a1 = b1) = false := decide_eq_false h1
    repeat (first | (with_reducible first | refine SW.seq ?_ | refine SW.block ?_ | refine SW.rowC ?_ | refine SW.skip ?_ | refine SW.exit ?_ | intro _ | refine And.intro (by omega) ?_) | simp (config := { maxSteps := 1000000 }) (disch := (first | omega | (simp only [go_sem]; try omega))) only [go_sem, Nat.reduceAdd, Nat.reduceEqDiff, Nat.reduceLeDiff, Nat.reduceMul, Nat.reduceLT, reduceIte, Int.reduceToNat, w64_id, cast_succ, d1])
    refine SW.condT rfl ?_
    repeat (first | (with_reducible first | refine SW.seq ?_ | refine SW.block ?_ | refine SW.rowC ?_ | refine SW.skip ?_ | refine SW.exit ?_ | intro _ | refine And.intro (by omega) ?_) | simp (config := { maxSteps := 1000000 }) (disch := (first | omega | (simp only [go_sem]; try omega))) only [go_sem, Nat.reduceAdd, Nat.reduceEqDiff, Nat.reduceLeDiff, Nat.reduceMul, Nat.reduceLT, reduceIte, Int.reduceToNat, w64_id, cast_succ])
    refine SW.ret ?_; (try simp only [go_sem]); (first | refine FunPost.one ?_ | refine FunPost.two ?_ | refine FunPost.three ?_); (try simp (config := { maxSteps := 1000000 }) (disch := (first | omega | (simp only [go_sem]; try omega))) only [go_sem, Nat.reduceAdd, Nat.reduceEqDiff, Nat.reduceLeDiff, Nat.reduceMul, Nat.reduceLT, reduceIte, Int.reduceToNat, w64_id, cast_succ]); (first | (with_reducible refine GR.drop ?_ ?_; (simp only [go_sem, and_self, and_true, true_and, implies_true, List.take_succ_cons, List.take_zero])) | refine GR.of ?_); refine ⟨?_, rfl⟩; (try with_reducible rfl)
    rw [decide_eq_false (show ¬ (a1, a2) = (b1, b2) from fun h => h1 (Prod.mk.inj h).1)]

theorem eqEdgeS_ok (H : List Blk) (a b : AV) (xs ys : List (Int × Int)) (ha : RdE H a xs) (hb : RdE H b ys) (hl : xs.length ≤ 2000000) :
    ACalls Tryd.prog f_laws_eqEdgeS [a, b] H (fun r H' => r = Bv (decide (xs = ys)) ∧ H' = H) := by
  have va : aview H a = some (xs.length, flatE xs) := ha
  have vb : aview H b = some (ys.length, flatE ys) := hb
  refine ACalls.introB s_laws_eqEdgeS (by simp) ?_; intro hB hA; unfold c_laws_eqEdgeS; simp (config := { maxSteps := 1000000 }) (disch := (first | omega | (simp only [go_sem]; try omega))) only [go_sem, Nat.reduceAdd, Nat.reduceEqDiff, Nat.reduceLeDiff, Nat.reduceMul, Nat.reduceLT, reduceIte, Int.reduceToNat, w64_id, cast_succ]
  repeat (first | (with_reducible first | refine SW.seq ?_ | refine SW.block ?_ | refine SW.rowC ?_ | refine SW.skip ?_ | refine SW.exit ?_ | intro _ | refine And.intro (by omega) ?_) | simp (config := { maxSteps := 1000000 }) (disch := (first | omega | (simp only [go_sem]; try omega))) only [go_sem, Nat.reduceAdd, Nat.reduceEqDiff, Nat.reduceLeDiff, Nat.reduceMul, Nat.reduceLT, reduceIte, Int.reduceToNat, w64_id, cast_succ, va, vb])
  by_cases hl2 : xs.length = ys.length
  rotate_left
  · have d1 : decide ((xs.length : Int) = (ys.length : Int)) = false := decide_eq_false (by omega)
    repeat (first | (with_reducible first | refine SW.seq ?_ | refine SW.block ?_ | refine SW.rowC ?_ | refine SW.skip ?_ | refine SW.exit ?_ | intro _ | refine And.intro (by omega) ?_) | simp (config := { maxSteps := 1000000 }) (disch := (first | omega | (simp only [go_sem]; try omega))) only [go_sem, Nat.reduceAdd, Nat.reduceEqDiff, Nat.reduceLeDiff, Nat.reduceMul, Nat.reduceLT, reduceIte, Int.reduceToNat, w64_id, cast_succ, d1])
    refine SW.condT rfl ?_
    repeat (first | (with_reducible first | refine SW.seq ?_ | refine SW.block ?_ | refine SW.rowC ?_ | refine SW.skip ?_ | refine SW.exit ?_ | intro _ | refine And.intro (by omega) ?_) | simp (config := { maxSteps := 1000000 }) (disch := (first | omega | (simp only [go_sem]; try omega))) only [go_sem, Nat.reduceAdd, Nat.reduceEqDiff, Nat.reduceLeDiff, Nat.reduceMul, Nat.reduceLT, reduceIte, Int.reduceToNat, w64_id, cast_succ])
    refine SW.ret ?_; (try simp only [go_sem]); (first | refine FunPost.one ?_ | refine FunPost.two ?_ | refine FunPost.three ?_); (try simp (config := { maxSteps := 1000000 }) (disch := (first | omega | (simp only [go_sem]; try omega))) only [go_sem, Nat.reduceAdd, Nat.reduceEqDiff, Nat.reduceLeDiff, Nat.reduceMul, Nat.reduceLT, reduceIte, Int.reduceToNat, w64_id, cast_succ]); (first | (with_reducible refine GR.drop ?_ ?_; (simp only [go_sem, and_self, and_true, true_and, implies_true, List.take_succ_cons, List.take_zero])) | refine GR.of ?_); refine ⟨?_, rfl⟩; (try with_reducible rfl)
    rw [decide_eq_false (show ¬ xs = ys from fun h => hl2 (by rw [h]))]
  have d1 : decide ((xs.length : Int) = (ys.length : Int)) = true := decide_eq_true (by omega)
  repeat (first | (with_reducible first | refine SW.seq ?_ | refine SW.block ?_ | refine SW.rowC ?_ | refine SW.skip ?_ | refine SW.exit ?_ | intro _ | refine And.intro (by omega) ?_) | simp (config := { maxSteps := 1000000 }) (disch := (first | omega | (simp only [go_sem]; try omega))) only [go_sem, Nat.reduceAdd, Nat.reduceEqDiff, Nat.reduceLeDiff, Nat.reduceMul, Nat.reduceLT, reduceIte, Int.reduceToNat, w64_id, cast_succ, d1])
  refine SW.condF rfl ?_
  repeat (first | (with_reducible first | refine SW.seq ?_ | refine SW.block ?_ | refine SW.rowC ?_ | refine SW.skip ?_ | refine SW.exit ?_ | intro _ | refine And.intro (by omega) ?_) | simp (config := { maxSteps := 1000000 }) (disch := (first | omega | (simp only [go_sem]; try omega))) only [go_sem, Nat.reduceAdd, Nat.reduceEqDiff, Nat.reduceLeDiff, Nat.reduceMul, Nat.reduceLT, reduceIte, Int.reduceToNat, w64_id, cast_succ])
  refine SW.loopE (fun E0 H0 q E' H' => ∃ i : Nat, i ≤ xs.length ∧ q = xs.length - i ∧ E' = aput E0 5 (I i) ∧ H' = H0 ∧ ∀ j, j < i → xs.getD j (0, 0) = ys.getD j (0, 0)) xs.length ⟨0, by omega, by omega, rfl, rfl, by simp⟩ ?_
  rintro q E' H' ⟨i, hi, rfl, rfl, rfl, hj⟩
  simp (config := { maxSteps := 1000000 }) (disch := (first | omega | (simp only [go_sem]; try omega))) only [go_sem, Nat.reduceAdd, Nat.reduceEqDiff, Nat.reduceLeDiff, Nat.reduceMul, Nat.reduceLT, reduceIte, Int.reduceToNat, w64_id, cast_succ]
  repeat (first | (with_reducible first | refine SW.seq ?_ | refine SW.block ?_ | refine SW.rowC ?_ | refine SW.skip ?_ | refine SW.exit ?_ | intro _ | refine And.intro (by omega) ?_) | simp (config := { maxSteps := 1000000 }) (disch := (first | omega | (simp only [go_sem]; try omega))) only [go_sem, Nat.reduceAdd, Nat.reduceEqDiff, Nat.reduceLeDiff, Nat.reduceMul, Nat.reduceLT, reduceIte, Int.reduceToNat, w64_id, cast_succ, va])
  (first | refine SW.condD rfl (fun h3 => ?_) (fun h3 => ?_) | refine SW.condN rfl (fun h3 => ?_) (fun h3 => ?_) | refine SW.condNB rfl (fun h3 => ?_) (fun h3 => ?_) | refine SW.condB rfl (fun h3 => ?_) (fun h3 => ?_))
  · have l1 := ha.ld (j := i) (by omega)
    have l2 := hb.ld (j := i) (by omega)
    have hee : PFn Tryd.prog f_laws_eqEdge [.agg [I (xs.getD i (0, 0)).1, I (xs.getD i (0, 0)).2], .agg [I (ys.getD i (0, 0)).1, I (ys.getD i (0, 0)).2]] (Bv (decide (xs.getD i (0, 0) = ys.getD i (0, 0)))) := eqEdge_fn _ _
    repeat (first | (with_reducible first | refine SW.seq ?_ | refine SW.block ?_ | refine SW.rowC ?_ | refine SW.skip ?_ | refine SW.exit ?_ | refine PFn.use (hee) ?_ | refine PFn.useq (hee) ?_ | intro _ | refine And.intro (by omega) ?_) | simp (config := { maxSteps := 1000000 }) (disch := (first | omega | (simp only [go_sem]; try omega))) only [go_sem, Nat.reduceAdd, Nat.reduceEqDiff, Nat.reduceLeDiff, Nat.reduceMul, Nat.reduceLT, reduceIte, Int.reduceToNat, w64_id, cast_succ, va, vb, l1, l2])
    by_cases h4 : xs.getD i (0, 0) = ys.getD i (0, 0)
    · have d4 : decide (xs.getD i (0, 0) = ys.getD i (0, 0)) = true := decide_eq_true h4
      repeat (first | (with_reducible first | refine SW.seq ?_ | refine SW.block ?_ | refine SW.rowC ?_ | refine SW.skip ?_ | refine SW.exit ?_ | intro _ | refine And.intro (by omega) ?_) | simp (config := { maxSteps := 1000000 }) (disch := (first | omega | (simp only [go_sem]; try omega))) only [go_sem, Nat.reduceAdd, Nat.reduceEqDiff, Nat.reduceLeDiff, Nat.reduceMul, Nat.reduceLT, reduceIte, Int.reduceToNat, w64_id, cast_succ, d4])
      refine SW.condF rfl ?_
      repeat (first | (with_reducible first | refine SW.seq ?_ | refine SW.block ?_ | refine SW.rowC ?_ | refine SW.skip ?_ | refine SW.exit ?_ | intro _ | refine And.intro (by omega) ?_) | simp (config := { maxSteps := 1000000 }) (disch := (first | omega | (simp only [go_sem]; try omega))) only [go_sem, Nat.reduceAdd, Nat.reduceEqDiff, Nat.reduceLeDiff, Nat.reduceMul, Nat.reduceLT, reduceIte, Int.reduceToNat, w64_id, cast_succ])
      refine SLoop.next (xs.length - (i + 1)) (by omega) ⟨i + 1, by omega, rfl, ?_, rfl, fun j hji => ?_⟩
      · simp [go_sem]
      · rcases Nat.lt_or_eq_of_le (Nat.le_of_lt_succ hji) with h5 | rfl
        · exact hj j h5
        · exact h4
    · have d4 : decide (xs.getD i (0, 0) = ys.getD i (0, 0)) = false := decide_eq_false h4
      repeat (first | (with_reducible first | refine SW.seq ?_ | refine SW.block ?_ | refine SW.rowC ?_ | refine SW.skip ?_ | refine SW.exit ?_ | intro _ | refine And.intro (by omega) ?_) | simp (config := { maxSteps := 1000000 }) (disch := (first | omega | (simp only [go_sem]; try omega))) only [go_sem, Nat.reduceAdd, Nat.reduceEqDiff, Nat.reduceLeDiff, Nat.reduceMul, Nat.reduceLT, reduceIte, Int.reduceToNat, w64_id, cast_succ, d4])
      refine SW.condT rfl ?_
      repeat (first | (with_reducible first | refine SW.seq ?_ | refine SW.block ?_ | refine SW.rowC ?_ | refine SW.skip ?_ | refine SW.exit ?_ | intro _ | refine And.intro (by omega) ?_) | simp (config := { maxSteps := 1000000 }) (disch := (first | omega | (simp only [go_sem]; try omega))) only [go_sem, Nat.reduceAdd, Nat.reduceEqDiff, Nat.reduceLeDiff, Nat.reduceMul, Nat.reduceLT, reduceIte, Int.reduceToNat, w64_id, cast_succ])
      refine SW.ret ?_; (try simp only [go_sem]); (first | refine FunPost.one ?_ | refine FunPost.two ?_ | refine FunPost.three ?_); (try simp (config := { maxSteps := 1000000 }) (disch := (first | omega | (simp only [go_sem]; try omega))) only [go_sem, Nat.reduceAdd, Nat.reduceEqDiff, Nat.reduceLeDiff, Nat.reduceMul, Nat.reduceLT, reduceIte, Int.reduceToNat, w64_id, cast_succ]); (first | (with_reducible refine GR.drop ?_ ?_; (simp only [go_sem, and_self, and_true, true_and, implies_true, List.take_succ_cons, List.take_zero])) | refine GR.of ?_); refine ⟨?_, rfl⟩; (try with_reducible rfl)
      rw [decide_eq_false (show ¬ xs = ys from fun h => h4 (by rw [h]))]
  · repeat (first | (with_reducible first | refine SW.seq ?_ | refine SW.block ?_ | refine SW.rowC ?_ | refine SW.skip ?_ | refine SW.exit ?_ | intro _ | refine And.intro (by omega) ?_) | simp (config := { maxSteps := 1000000 }) (disch := (first | omega | (simp only [go_sem]; try omega))) only [go_sem, Nat.reduceAdd, Nat.reduceEqDiff, Nat.reduceLeDiff, Nat.reduceMul, Nat.reduceLT, reduceIte, Int.reduceToNat, w64_id, cast_succ])
    refine SW.ret ?_; (try simp only [go_sem]); (first | refine FunPost.one ?_ | refine FunPost.two ?_ | refine FunPost.three ?_); (try simp (config := { maxSteps := 1000000 }) (disch := (first | omega | (simp only [go_sem]; try omega))) only [go_sem, Nat.reduceAdd, Nat.reduceEqDiff, Nat.reduceLeDiff, Nat.reduceMul, Nat.reduceLT, reduceIte, Int.reduceToNat, w64_id, cast_succ]); (first | (with_reducible refine GR.drop ?_ ?_; (simp only [go_sem, and_self, and_true, true_and, implies_true, List.take_succ_cons, List.take_zero])) | refine GR.of ?_); refine ⟨?_, rfl⟩; (try with_reducible rfl)
    have : xs = ys := by
      apply List.ext_getElem hl2
      intro j h5 h6
      have := hj j (by omega)
      rw [List.getD_eq_getElem?_getD, List.getD_eq_getElem?_getD, List.getElem?_eq_getElem h5, List.getElem?_eq_getElem h6] at this
      exact this
    rw [decide_eq_true this]

/-- Pairs numbered on. -/
def numsE (k : Int) (n : Nat) : List (Int × Int) := (List.range n).map fun (j : Nat) => (k + 2 * (j : Int), k + 2 * (j : Int) + 1)
theorem numsE_length (k : Int) (n : Nat) : (numsE k n).length = n := by simp [numsE]
theorem numsE_succ (k : Int) (n : Nat) : numsE k (n + 1) = numsE k n ++ [(k + 2 * (n : Int), k + 2 * (n : Int) + 1)] := by simp [numsE, List.range_succ]
theorem flatE_set : ∀ (es : List (Int × Int)) (j : Nat) (x y : Int), j < es.length → ((flatE es).set (j * 2) (I x)).set (j * 2 + 1) (I y) = flatE (es.set j (x, y))
  | [], _, _, _, h => by simp at h
  | e :: es, 0, x, y, _ => rfl
  | e :: es, j + 1, x, y, h => by
    have := flatE_set es j x y (by simpa using h)
    rw [show (j + 1) * 2 = j * 2 + 2 by omega]
    simpa [flatE] using this

theorem markEdgeS_ok (H : List Blk) (N : Nat → Prop) (v : AV) (es : List (Int × Int)) (k : Int) (ho : OwnE H N v es) (hk0 : 0 ≤ k) (hl : es.length ≤ 2000000) (hk : k ≤ 4611686018427387904) :
    ACalls Tryd.prog f_laws_markEdgeS [v, I k] H (fun r H' => r = I (k + 2 * es.length) ∧ OwnE H' N v (numsE k es.length) ∧ H'.length = H.length ∧ ∀ j, ¬ N j → H'[j]? = H[j]?) := by
  rcases ho with ⟨r, ver, ty, rfl, h1, h2⟩ | ⟨rfl, hnil⟩
  · have hlt : r < H.length := (List.getElem?_eq_some_iff.1 h2).1
    have hz : H = H.set r ⟨ver, ty, 2, flatE (numsE k 0 ++ es.drop 0)⟩ := by
      have : numsE k 0 ++ es.drop 0 = es := by simp [numsE]
      rw [this]
      obtain ⟨g1, g2⟩ := List.getElem?_eq_some_iff.1 h2
      rw [← g2]; exact (List.set_getElem_self g1).symm
    have hfin : ∀ H', H' = H.set r ⟨ver, ty, 2, flatE (numsE k es.length)⟩ → OwnE H' N (.nm r ver 0 es.length) (numsE k es.length) ∧ H'.length = H.length ∧ ∀ j, ¬ N j → H'[j]? = H[j]? := by
      rintro H' rfl
      refine ⟨.inl ⟨r, ver, ty, by rw [numsE_length], h1, List.getElem?_set_self hlt⟩, by simp, fun j hj => ?_⟩
      rw [List.getElem?_set_ne (by rintro rfl; exact hj h1)]
    refine ACalls.introB s_laws_markEdgeS (by simp) ?_; intro hB hA; unfold c_laws_markEdgeS; simp (config := { maxSteps := 1000000 }) (disch := (first | omega | (simp only [go_sem]; try omega))) only [go_sem, Nat.reduceAdd, Nat.reduceEqDiff, Nat.reduceLeDiff, Nat.reduceMul, Nat.reduceLT, reduceIte, Int.reduceToNat, w64_id, cast_succ]
    repeat (first | (with_reducible first | refine SW.seq ?_ | refine SW.block ?_ | refine SW.rowC ?_ | refine SW.skip ?_ | refine SW.exit ?_ | intro _ | refine And.intro (by omega) ?_) | simp (config := { maxSteps := 1000000 }) (disch := (first | omega | (simp only [go_sem]; try omega))) only [go_sem, Nat.reduceAdd, Nat.reduceEqDiff, Nat.reduceLeDiff, Nat.reduceMul, Nat.reduceLT, reduceIte, Int.reduceToNat, w64_id, cast_succ])
    refine SW.loopE (fun E0 H0 q E' H' => ∃ i : Nat, i ≤ es.length ∧ q = es.length - i ∧ E' = aput (aput E0 5 (I i)) 1 (I (k + 2 * (i : Int))) ∧ H' = H.set r ⟨ver, ty, 2, flatE (numsE k i ++ es.drop i)⟩) es.length ⟨0, by omega, by omega, by simp [go_sem], hz⟩ ?_
    rintro q E' H' ⟨i, hi, rfl, rfl, rfl⟩
    have hLl : (numsE k i ++ es.drop i).length = es.length := by rw [List.length_append, numsE_length, List.length_drop]; omega
    have hLs : (numsE k i ++ es.drop i).set i (k + 2 * (i : Int), k + 2 * (i : Int) + 1) = if i < es.length then numsE k (i + 1) ++ es.drop (i + 1) else numsE k i ++ es.drop i := by
      split
      · rename_i h
        rw [List.set_append_right _ _ (by rw [numsE_length]; omega), numsE_length, Nat.sub_self, List.drop_eq_getElem_cons h, List.set_cons_zero, numsE_succ, List.append_assoc]; rfl
      · rw [List.set_eq_of_length_le (by omega)]
    generalize hL : numsE k i ++ es.drop i = L at *
    have hset := flatE_set L i (k + 2 * (i : Int)) (k + 2 * (i : Int) + 1)
    have hfl : (flatE L).length = es.length * 2 := by rw [flatE_length, hLl]
    generalize hC : flatE L = C at *
    have c0 : (H.set r ⟨ver, ty, 2, C⟩)[r]? = some ⟨ver, ty, 2, C⟩ := List.getElem?_set_self hlt
    have c1 : (H.set r ⟨ver, ty, 2, C.set (i * 2) (I (k + 2 * (i : Int)))⟩)[r]? = some ⟨ver, ty, 2, C.set (i * 2) (I (k + 2 * (i : Int)))⟩ := List.getElem?_set_self hlt
    have v0 : aview (H.set r ⟨ver, ty, 2, C⟩) (.nm r ver 0 es.length) = some (es.length, C) := by simp only [aview, c0, if_true, List.drop_zero]; rw [List.take_of_length_le (by omega)]
    have v1 : aview (H.set r ⟨ver, ty, 2, C.set (i * 2) (I (k + 2 * (i : Int)))⟩) (.nm r ver 0 es.length) = some (es.length, C.set (i * 2) (I (k + 2 * (i : Int)))) := by simp only [aview, c1, if_true, List.drop_zero]; rw [List.take_of_length_le (by rw [List.length_set]; omega)]
    simp (config := { maxSteps := 1000000 }) (disch := (first | omega | (simp only [go_sem]; try omega))) only [go_sem, Nat.reduceAdd, Nat.reduceEqDiff, Nat.reduceLeDiff, Nat.reduceMul, Nat.reduceLT, reduceIte, Int.reduceToNat, w64_id, cast_succ]
    repeat (first | (with_reducible first | refine SW.seq ?_ | refine SW.block ?_ | refine SW.rowC ?_ | refine SW.skip ?_ | refine SW.exit ?_ | intro _ | refine And.intro (by omega) ?_) | simp (config := { maxSteps := 1000000 }) (disch := (first | omega | (simp only [go_sem]; try omega))) only [go_sem, Nat.reduceAdd, Nat.reduceEqDiff, Nat.reduceLeDiff, Nat.reduceMul, Nat.reduceLT, reduceIte, Int.reduceToNat, w64_id, cast_succ, v0])
    (first | refine SW.condD rfl (fun h3 => ?_) (fun h3 => ?_) | refine SW.condN rfl (fun h3 => ?_) (fun h3 => ?_) | refine SW.condNB rfl (fun h3 => ?_) (fun h3 => ?_) | refine SW.condB rfl (fun h3 => ?_) (fun h3 => ?_))
    · have s0 : astore (H.set r ⟨ver, ty, 2, C⟩) [I (k + 2 * (i : Int))] (.el (.nm r ver 0 es.length) (i * 2)) = some (H.set r ⟨ver, ty, 2, C.set (i * 2) (I (k + 2 * (i : Int)))⟩) := by
        simp only [astore, c0]
        rw [if_pos ⟨trivial, by simp; omega⟩, List.set_set]; simp [setMany]
      have s1 : astore (H.set r ⟨ver, ty, 2, C.set (i * 2) (I (k + 2 * (i : Int)))⟩) [I (k + 2 * (i : Int) + 1)] (.el (.nm r ver 0 es.length) (i * 2 + 1)) = some (H.set r ⟨ver, ty, 2, (C.set (i * 2) (I (k + 2 * (i : Int)))).set (i * 2 + 1) (I (k + 2 * (i : Int) + 1))⟩) := by
        simp only [astore, c1]
        rw [if_pos ⟨trivial, by simp; omega⟩, List.set_set]; simp [setMany]
      repeat (first | (with_reducible first | refine SW.seq ?_ | refine SW.block ?_ | refine SW.rowC ?_ | refine SW.skip ?_ | refine SW.exit ?_ | intro _ | refine And.intro (by omega) ?_) | simp (config := { maxSteps := 1000000 }) (disch := (first | omega | (simp only [go_sem]; try omega))) only [go_sem, Nat.reduceAdd, Nat.reduceEqDiff, Nat.reduceLeDiff, Nat.reduceMul, Nat.reduceLT, reduceIte, Int.reduceToNat, w64_id, cast_succ, v0, v1, s0, s1])
      have e2 : k + 2 * (i : Int) + 1 + 1 = k + 2 * ((i + 1 : Nat) : Int) := by omega
      rw [e2, hset (by omega), hLs, if_pos (by omega)]
      refine SLoop.next (es.length - (i + 1)) (by omega) ⟨i + 1, by omega, rfl, ?_, rfl⟩
      simp [go_sem]
    · have : i = es.length := by omega
      subst this
      repeat (first | (with_reducible first | refine SW.seq ?_ | refine SW.block ?_ | refine SW.rowC ?_ | refine SW.skip ?_ | refine SW.exit ?_ | intro _ | refine And.intro (by omega) ?_) | simp (config := { maxSteps := 1000000 }) (disch := (first | omega | (simp only [go_sem]; try omega))) only [go_sem, Nat.reduceAdd, Nat.reduceEqDiff, Nat.reduceLeDiff, Nat.reduceMul, Nat.reduceLT, reduceIte, Int.reduceToNat, w64_id, cast_succ])
      refine SW.ret ?_; (try simp only [go_sem]); (first | refine FunPost.one ?_ | refine FunPost.two ?_ | refine FunPost.three ?_); (try simp (config := { maxSteps := 1000000 }) (disch := (first | omega | (simp only [go_sem]; try omega))) only [go_sem, Nat.reduceAdd, Nat.reduceEqDiff, Nat.reduceLeDiff, Nat.reduceMul, Nat.reduceLT, reduceIte, Int.reduceToNat, w64_id, cast_succ])
      exact GR.of ⟨rfl, hfin _ (by rw [← hC, ← hL, List.drop_length, List.append_nil])⟩
  · have va : aview H v = some (0, []) := by rcases hnil with rfl | rfl <;> rfl
    refine ACalls.introB s_laws_markEdgeS (by simp) ?_; intro hB hA; unfold c_laws_markEdgeS; simp (config := { maxSteps := 1000000 }) (disch := (first | omega | (simp only [go_sem]; try omega))) only [go_sem, Nat.reduceAdd, Nat.reduceEqDiff, Nat.reduceLeDiff, Nat.reduceMul, Nat.reduceLT, reduceIte, Int.reduceToNat, w64_id, cast_succ]
    repeat (first | (with_reducible first | refine SW.seq ?_ | refine SW.block ?_ | refine SW.rowC ?_ | refine SW.skip ?_ | refine SW.exit ?_ | intro _ | refine And.intro (by omega) ?_) | simp (config := { maxSteps := 1000000 }) (disch := (first | omega | (simp only [go_sem]; try omega))) only [go_sem, Nat.reduceAdd, Nat.reduceEqDiff, Nat.reduceLeDiff, Nat.reduceMul, Nat.reduceLT, reduceIte, Int.reduceToNat, w64_id, cast_succ])
    refine SW.loopE (fun E0 H0 q E' H' => q = 0 ∧ E' = E0 ∧ H' = H0) 0 ⟨rfl, rfl, rfl⟩ ?_
    rintro q E' H' ⟨rfl, rfl, rfl⟩
    simp (config := { maxSteps := 1000000 }) (disch := (first | omega | (simp only [go_sem]; try omega))) only [go_sem, Nat.reduceAdd, Nat.reduceEqDiff, Nat.reduceLeDiff, Nat.reduceMul, Nat.reduceLT, reduceIte, Int.reduceToNat, w64_id, cast_succ]
    repeat (first | (with_reducible first | refine SW.seq ?_ | refine SW.block ?_ | refine SW.rowC ?_ | refine SW.skip ?_ | refine SW.exit ?_ | intro _ | refine And.intro (by omega) ?_) | simp (config := { maxSteps := 1000000 }) (disch := (first | omega | (simp only [go_sem]; try omega))) only [go_sem, Nat.reduceAdd, Nat.reduceEqDiff, Nat.reduceLeDiff, Nat.reduceMul, Nat.reduceLT, reduceIte, Int.reduceToNat, w64_id, cast_succ, va])
    have d0 : decide ((0 : Int) < ((0 : Nat) : Int)) = false := rfl
    repeat (first | (with_reducible first | refine SW.seq ?_ | refine SW.block ?_ | refine SW.rowC ?_ | refine SW.skip ?_ | refine SW.exit ?_ | intro _ | refine And.intro (by omega) ?_) | simp (config := { maxSteps := 1000000 }) (disch := (first | omega | (simp only [go_sem]; try omega))) only [go_sem, Nat.reduceAdd, Nat.reduceEqDiff, Nat.reduceLeDiff, Nat.reduceMul, Nat.reduceLT, reduceIte, Int.reduceToNat, w64_id, cast_succ, d0])
    refine SW.condF rfl ?_
    repeat (first | (with_reducible first | refine SW.seq ?_ | refine SW.block ?_ | refine SW.rowC ?_ | refine SW.skip ?_ | refine SW.exit ?_ | intro _ | refine And.intro (by omega) ?_) | simp (config := { maxSteps := 1000000 }) (disch := (first | omega | (simp only [go_sem]; try omega))) only [go_sem, Nat.reduceAdd, Nat.reduceEqDiff, Nat.reduceLeDiff, Nat.reduceMul, Nat.reduceLT, reduceIte, Int.reduceToNat, w64_id, cast_succ])
    refine SW.ret ?_; (try simp only [go_sem]); (first | refine FunPost.one ?_ | refine FunPost.two ?_ | refine FunPost.three ?_); (try simp (config := { maxSteps := 1000000 }) (disch := (first | omega | (simp only [go_sem]; try omega))) only [go_sem, Nat.reduceAdd, Nat.reduceEqDiff, Nat.reduceLeDiff, Nat.reduceMul, Nat.reduceLT, reduceIte, Int.reduceToNat, w64_id, cast_succ])
    exact GR.of ⟨by simp, .inr ⟨rfl, hnil⟩, rfl, fun _ _ => rfl⟩
theorem heldEdgeS_ok (H : List Blk) (v : AV) (n : Nat) (k : Int) (ho : RdE H v (numsE k n)) (hk0 : 0 ≤ k) (hl : n ≤ 2000000) (hk : k ≤ 4611686018427387904) :
    ACalls Tryd.prog f_laws_heldEdgeS [v, I k] H (fun r H' => r = I (k + 2 * n) ∧ H' = H) := by
  have hv : aview H v = some (n, flatE (numsE k n)) := by have := ho; unfold RdE at this; rwa [numsE_length] at this
  refine ACalls.introB s_laws_heldEdgeS (by simp) ?_; intro hB hA; unfold c_laws_heldEdgeS; simp (config := { maxSteps := 1000000 }) (disch := (first | omega | (simp only [go_sem]; try omega))) only [go_sem, Nat.reduceAdd, Nat.reduceEqDiff, Nat.reduceLeDiff, Nat.reduceMul, Nat.reduceLT, reduceIte, Int.reduceToNat, w64_id, cast_succ]
  repeat (first | (with_reducible first | refine SW.seq ?_ | refine SW.block ?_ | refine SW.rowC ?_ | refine SW.skip ?_ | refine SW.exit ?_ | intro _ | refine And.intro (by omega) ?_) | simp (config := { maxSteps := 1000000 }) (disch := (first | omega | (simp only [go_sem]; try omega))) only [go_sem, Nat.reduceAdd, Nat.reduceEqDiff, Nat.reduceLeDiff, Nat.reduceMul, Nat.reduceLT, reduceIte, Int.reduceToNat, w64_id, cast_succ, hv])
  refine SW.loopE (fun E0 H0 q E' H' => ∃ i : Nat, i ≤ n ∧ q = n - i ∧ E' = aput (aput E0 5 (I i)) 1 (I (k + 2 * (i : Int))) ∧ H' = H0) n ⟨0, by omega, by omega, by simp [go_sem], rfl⟩ ?_
  rintro q E' H' ⟨i, hi, rfl, rfl, rfl⟩
  simp (config := { maxSteps := 1000000 }) (disch := (first | omega | (simp only [go_sem]; try omega))) only [go_sem, Nat.reduceAdd, Nat.reduceEqDiff, Nat.reduceLeDiff, Nat.reduceMul, Nat.reduceLT, reduceIte, Int.reduceToNat, w64_id, cast_succ]
  repeat (first | (with_reducible first | refine SW.seq ?_ | refine SW.block ?_ | refine SW.rowC ?_ | refine SW.skip ?_ | refine SW.exit ?_ | intro _ | refine And.intro (by omega) ?_) | simp (config := { maxSteps := 1000000 }) (disch := (first | omega | (simp only [go_sem]; try omega))) only [go_sem, Nat.reduceAdd, Nat.reduceEqDiff, Nat.reduceLeDiff, Nat.reduceMul, Nat.reduceLT, reduceIte, Int.reduceToNat, w64_id, cast_succ, hv])
  (first | refine SW.condD rfl (fun h3 => ?_) (fun h3 => ?_) | refine SW.condN rfl (fun h3 => ?_) (fun h3 => ?_) | refine SW.condNB rfl (fun h3 => ?_) (fun h3 => ?_) | refine SW.condB rfl (fun h3 => ?_) (fun h3 => ?_))
  · have hgd : (numsE k n).getD i (0, 0) = (k + 2 * (i : Int), k + 2 * (i : Int) + 1) := by
      rw [List.getD_eq_getElem?_getD]; simp [numsE, show i < n by omega]
    have hdr := flatE_drop (numsE k n) i (by rw [numsE_length]; omega)
    rw [hgd] at hdr
    have f0 : (flatE (numsE k n))[i * 2]? = some (I (k + 2 * (i : Int))) := by
      have := congrArg (fun l : List AV => l[0]?) hdr
      simpa using this
    have f1 : (flatE (numsE k n))[i * 2 + 1]? = some (I (k + 2 * (i : Int) + 1)) := by
      have := congrArg (fun l : List AV => l[1]?) hdr
      simpa using this
    have d0 : ∀ x : Int, decide (x = x) = true := fun x => by simp
    repeat (first | (with_reducible first | refine SW.seq ?_ | refine SW.block ?_ | refine SW.rowC ?_ | refine SW.skip ?_ | refine SW.exit ?_ | intro _ | refine And.intro (by omega) ?_) | simp (config := { maxSteps := 1000000 }) (disch := (first | omega | (simp only [go_sem]; try omega))) only [go_sem, Nat.reduceAdd, Nat.reduceEqDiff, Nat.reduceLeDiff, Nat.reduceMul, Nat.reduceLT, reduceIte, Int.reduceToNat, w64_id, cast_succ, hv, f0, d0])
    refine SW.condF rfl ?_
    repeat (first | (with_reducible first | refine SW.seq ?_ | refine SW.block ?_ | refine SW.rowC ?_ | refine SW.skip ?_ | refine SW.exit ?_ | intro _ | refine And.intro (by omega) ?_) | simp (config := { maxSteps := 1000000 }) (disch := (first | omega | (simp only [go_sem]; try omega))) only [go_sem, Nat.reduceAdd, Nat.reduceEqDiff, Nat.reduceLeDiff, Nat.reduceMul, Nat.reduceLT, reduceIte, Int.reduceToNat, w64_id, cast_succ, hv, f1, d0])
    refine SW.condF rfl ?_
    repeat (first | (with_reducible first | refine SW.seq ?_ | refine SW.block ?_ | refine SW.rowC ?_ | refine SW.skip ?_ | refine SW.exit ?_ | intro _ | refine And.intro (by omega) ?_) | simp (config := { maxSteps := 1000000 }) (disch := (first | omega | (simp only [go_sem]; try omega))) only [go_sem, Nat.reduceAdd, Nat.reduceEqDiff, Nat.reduceLeDiff, Nat.reduceMul, Nat.reduceLT, reduceIte, Int.reduceToNat, w64_id, cast_succ])
    have e2 : k + 2 * (i : Int) + 1 + 1 = k + 2 * ((i + 1 : Nat) : Int) := by omega
    rw [e2]
    refine SLoop.next (n - (i + 1)) (by omega) ⟨i + 1, by omega, rfl, ?_, rfl⟩
    simp [go_sem]
  · have : i = n := by omega
    subst this
    repeat (first | (with_reducible first | refine SW.seq ?_ | refine SW.block ?_ | refine SW.rowC ?_ | refine SW.skip ?_ | refine SW.exit ?_ | intro _ | refine And.intro (by omega) ?_) | simp (config := { maxSteps := 1000000 }) (disch := (first | omega | (simp only [go_sem]; try omega))) only [go_sem, Nat.reduceAdd, Nat.reduceEqDiff, Nat.reduceLeDiff, Nat.reduceMul, Nat.reduceLT, reduceIte, Int.reduceToNat, w64_id, cast_succ])
    refine SW.ret ?_; (try simp only [go_sem]); (first | refine FunPost.one ?_ | refine FunPost.two ?_ | refine FunPost.three ?_); (try simp (config := { maxSteps := 1000000 }) (disch := (first | omega | (simp only [go_sem]; try omega))) only [go_sem, Nat.reduceAdd, Nat.reduceEqDiff, Nat.reduceLeDiff, Nat.reduceMul, Nat.reduceLT, reduceIte, Int.reduceToNat, w64_id, cast_succ]); (first | (with_reducible refine GR.drop ?_ ?_; (simp only [go_sem, and_self, and_true, true_and, implies_true, List.take_succ_cons, List.take_zero])) | refine GR.of ?_); refine ⟨?_, rfl⟩; (try with_reducible rfl)
end Go.Proofs.YtdgcgckehihboaaDoor
