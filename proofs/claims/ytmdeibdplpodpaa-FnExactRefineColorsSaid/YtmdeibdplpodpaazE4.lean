/- Graphs of designs: the reference. -/
import Derived.Test.YtmdeibdplpodpaazE3
import Derived.Test.YtmdeibdplpodpaazK18
import Derived.Test.YtmdeibdplpodpaaProg
import Derived.KernelRfl
import Derived.Test.YtmdeibdplpodpaazAv17
import Derived.Test.YtmdeibdplpodpaazM1
import Derived.Test.YtmdeibdplpodpaazK19
import Derived.Test.YtmdeibdplpodpaazU1
set_option linter.unusedSimpArgs false
set_option linter.unusedVariables false
set_option maxHeartbeats 4000000
set_option maxRecDepth 100000
namespace Go.Proofs.Ytmdeibdplpodpaa
open Go.Av
def GrowF (H : List Blk) (base ty sz : Nat) (v : AV) (n : Nat) (cells : List AV) : Prop :=
  (v = nilS ∧ n = 0 ∧ cells = []) ∨ ∃ t ver, v = .nm t ver 0 n ∧ base ≤ t ∧ H[t]? = some ⟨ver, ty, sz, cells⟩ ∧ cells.length = n * sz
theorem GrowF.one {H : List Blk} {base ty sz n : Nat} {v : AV} {cells : List AV} (h : GrowF H base ty sz v n cells) : v.cell1 = true ∧ partsOf v = [v] := by
  rcases h with ⟨rfl, _⟩ | ⟨t, ver, rfl, _⟩ <;> exact ⟨rfl, rfl⟩
theorem GrowF.same {H H' : List Blk} {base ty sz n : Nat} {v : AV} {cells : List AV} (h : GrowF H base ty sz v n cells) (hs : ∀ j b, base ≤ j → H[j]? = some b → H'[j]? = some b) : GrowF H' base ty sz v n cells := by
  rcases h with h | ⟨t, ver, rfl, h1, h2, h3⟩
  · exact .inl h
  · exact .inr ⟨t, ver, rfl, h1, hs t _ h1 h2, h3⟩
theorem GrowF.view {H : List Blk} {base ty sz n : Nat} {v : AV} {cells : List AV} (h : GrowF H base ty sz v n cells) : aview H v = some (n, cells) := by
  rcases h with ⟨rfl, rfl, rfl⟩ | ⟨t, ver, rfl, h1, h2, h3⟩
  · rfl
  · simp only [aview, h2, if_true, List.drop_zero]
    rw [List.take_of_length_le (by omega)]
theorem froz_edges {H : List Blk} {base r ver ty : Nat} {es : List (Int × Int)} (hb : base ≤ r) (hr : H[r]? = some ⟨ver, ty, 2, flatE es⟩) : Froz H base (.nm r ver 0 es.length) (ilE es) := by
  have hc : ((flatE es).drop 0).take (es.length * 2) = flatE es := by rw [List.drop_zero]; exact List.take_of_length_le (by rw [flatE_length]; omega)
  refine .nm r ver 0 es.length _ _ hb hr rfl (by simp only [hc]) ?_
  intro j c c' h1 h2
  simp only [hc] at h1
  rw [h1] at h2; cases h2
  have hm := List.mem_of_getElem? h1
  rw [flatE_lit] at hm
  obtain ⟨v, _, rfl⟩ := List.mem_map.1 hm
  exact .old _ (.lit v)
def GBx (H : List Blk) (c0 c1 : List AV) (H' : List Blk) : Prop := H'[H.length]? = some ⟨0, tyGr, 1, c0⟩ ∧ H'[H.length + 1]? = some ⟨0, tyGr, 1, c1⟩ ∧ H.length + 2 ≤ H'.length ∧ ∀ j, j < H.length → H'[j]? = H[j]?
theorem GBx.put {H H1 H3 : List Blk} {c0 c1 c2 : List AV} {base : Nat} (h : GBx H c0 c1 H1) (hb : H.length + 2 ≤ base) (hl : H1.length ≤ H3.length) (h3 : ∀ j, j < base → H3[j]? = H1[j]?) : GBx H c0 c2 (H3.set (H.length + 1) ⟨0, tyGr, 1, c2⟩) := by
  obtain ⟨a, b, c, d⟩ := h
  refine ⟨?_, List.getElem?_set_self (by omega), by simp; omega, fun j hj => ?_⟩
  · rw [List.getElem?_set_ne (by omega), h3 _ (by omega)]; exact a
  · rw [List.getElem?_set_ne (by omega), h3 _ (by omega)]; exact d j hj
end Go.Proofs.Ytmdeibdplpodpaa
namespace Go.Proofs.Ytmdeibdplpodpaa
open Go.Av
abbrev f_laws_eqGraph : Nat := 11
def c_laws_eqGraph : SC :=
 .seq (.reg [
     ⟨(some 2), .box 30 (.tmp 0), none⟩,
     ⟨(some 3), .box 30 (.tmp 1), none⟩,
     ⟨(some 4), .mv (.const (.bool false)), none⟩] [2, 3])
 (.seq (.seq (.reg [
     ⟨(some 5), .faddr 0 (.tmp 2), none⟩,
     ⟨(some 6), .load 1 false (.tmp 5), none⟩,
     ⟨(some 7), .faddr 0 (.tmp 3), none⟩,
     ⟨(some 8), .load 1 false (.tmp 7), none⟩,
     ⟨(some 9), .call 12 [(.tmp 6), (.tmp 8)], none⟩,
     ⟨(some 10), .un .not (.tmp 9), none⟩] [2, 3, 10])
 (.cond (.tmp 10)
  (.seq (.reg [
      ⟨(some 4), .mv (.const (.bool false)), none⟩] [4])
  (.ret))
  (.skip)))
 (.seq (.seq (.reg [
     ⟨(some 11), .faddr 1 (.tmp 2), none⟩,
     ⟨(some 12), .load 1 false (.tmp 11), none⟩,
     ⟨(some 13), .faddr 1 (.tmp 3), none⟩,
     ⟨(some 14), .load 1 false (.tmp 13), none⟩,
     ⟨(some 15), .call 35 [(.tmp 12), (.tmp 14)], none⟩,
     ⟨(some 16), .un .not (.tmp 15), none⟩] [16])
 (.cond (.tmp 16)
  (.seq (.reg [
      ⟨(some 4), .mv (.const (.bool false)), none⟩] [4])
  (.ret))
  (.skip)))
 (.seq (.reg [
     ⟨(some 4), .mv (.const (.bool true)), none⟩] [4])
 (.ret))))
theorem s_laws_eqGraph : stripF Try.prog 11 [[2, 3], [2, 3, 10], [4], [16], [4], [4]] = some (c_laws_eqGraph, [.tmp 4], 17) := by kernel_rfl
abbrev f_laws_markGraph : Nat := 16
def c_laws_markGraph : SC :=
 .seq (.reg [
     ⟨(some 2), .box 30 (.tmp 0), none⟩,
     ⟨(some 4), .mv (.const (.int .i64 0)), none⟩] [1, 2])
 (.seq (.reg [
     ⟨(some 5), .faddr 0 (.tmp 2), none⟩,
     ⟨(some 6), .load 1 false (.tmp 5), none⟩,
     ⟨(some 7), .mv (.tmp 1), none⟩,
     ⟨(some 8), .call 21 [(.tmp 6), (.tmp 7)], none⟩,
     ⟨(some 1), .mv (.tmp 8), none⟩] [1, 2])
 (.seq (.reg [
     ⟨(some 9), .faddr 1 (.tmp 2), none⟩,
     ⟨(some 10), .load 1 false (.tmp 9), none⟩,
     ⟨(some 11), .mv (.tmp 1), none⟩,
     ⟨(some 12), .call 45 [(.tmp 10), (.tmp 11)], none⟩,
     ⟨(some 1), .mv (.tmp 12), none⟩] [1])
 (.seq (.reg [
     ⟨(some 13), .mv (.tmp 1), none⟩,
     ⟨(some 4), .mv (.tmp 13), none⟩] [4])
 (.ret))))
theorem s_laws_markGraph : stripF Try.prog 16 [[1, 2], [1, 2], [1], [4]] = some (c_laws_markGraph, [.tmp 4], 14) := by kernel_rfl
theorem Bel_ilE (b : Nat) (es : List (Int × Int)) : Bel b (ilE es) := by
  refine .il _ _ (fun c hc => ?_)
  rw [flatE_lit] at hc
  obtain ⟨v, _, rfl⟩ := List.mem_map.1 hc
  exact .lit _
theorem eqGraph_ok (H : List Blk) (a b c d : AV) (xs ys : List Int) (es fs : List (Int × Int)) (ca : a.cell1 = true) (cb : b.cell1 = true) (cc : c.cell1 = true) (cd : d.cell1 = true) (ha : RdS H a xs) (hb : RdS H b ys) (hc : RdE H c es) (hd : RdE H d fs) (hl : es.length ≤ 2000000) :
    ACalls Try.prog f_laws_eqGraph [.agg [a, c], .agg [b, d]] H (fun r H' => r = Bv (decide (xs = ys) && decide (es = fs)) ∧ H' = H) := by
  refine ACalls.introB s_laws_eqGraph (by simp) ?_; intro hB hA; unfold c_laws_eqGraph; simp (config := { maxSteps := 1000000 }) (disch := (first | omega | (simp only [go_sem]; try omega))) only [go_sem, Nat.reduceAdd, Nat.reduceEqDiff, Nat.reduceLeDiff, Nat.reduceMul, Nat.reduceLT, reduceIte, Int.reduceToNat, w64_id, cast_succ]
  repeat (first | (with_reducible first | refine SW.seq ?_ | refine SW.block ?_ | refine SW.rowC ?_ | refine SW.skip ?_ | refine SW.exit ?_ | intro _ | refine And.intro (by omega) ?_) | simp (config := { maxSteps := 1000000 }) (disch := (first | omega | (simp only [go_sem]; try omega))) only [go_sem, Nat.reduceAdd, Nat.reduceEqDiff, Nat.reduceLeDiff, Nat.reduceMul, Nat.reduceLT, reduceIte, Int.reduceToNat, w64_id, cast_succ, ca, cb, cc, cd])
  refine ACalls.fn (eqInt64S_ok _ _ _ _ _ (ha.append _) (hb.append _)) ?_
  by_cases h1 : xs = ys
  · rw [decide_eq_true h1]
    repeat (first | (with_reducible first | refine SW.seq ?_ | refine SW.block ?_ | refine SW.rowC ?_ | refine SW.skip ?_ | refine SW.exit ?_ | intro _ | refine And.intro (by omega) ?_) | simp (config := { maxSteps := 1000000 }) (disch := (first | omega | (simp only [go_sem]; try omega))) only [go_sem, Nat.reduceAdd, Nat.reduceEqDiff, Nat.reduceLeDiff, Nat.reduceMul, Nat.reduceLT, reduceIte, Int.reduceToNat, w64_id, cast_succ])
    refine SW.condF rfl ?_
    repeat (first | (with_reducible first | refine SW.seq ?_ | refine SW.block ?_ | refine SW.rowC ?_ | refine SW.skip ?_ | refine SW.exit ?_ | intro _ | refine And.intro (by omega) ?_) | simp (config := { maxSteps := 1000000 }) (disch := (first | omega | (simp only [go_sem]; try omega))) only [go_sem, Nat.reduceAdd, Nat.reduceEqDiff, Nat.reduceLeDiff, Nat.reduceMul, Nat.reduceLT, reduceIte, Int.reduceToNat, w64_id, cast_succ])
    refine ACalls.fn (eqEdgeS_ok _ _ _ _ _ (hc.append _) (hd.append _) hl) ?_
    by_cases h2 : es = fs
    · rw [decide_eq_true h2]
      repeat (first | (with_reducible first | refine SW.seq ?_ | refine SW.block ?_ | refine SW.rowC ?_ | refine SW.skip ?_ | refine SW.exit ?_ | intro _ | refine And.intro (by omega) ?_) | simp (config := { maxSteps := 1000000 }) (disch := (first | omega | (simp only [go_sem]; try omega))) only [go_sem, Nat.reduceAdd, Nat.reduceEqDiff, Nat.reduceLeDiff, Nat.reduceMul, Nat.reduceLT, reduceIte, Int.reduceToNat, w64_id, cast_succ])
      refine SW.condF rfl ?_
      repeat (first | (with_reducible first | refine SW.seq ?_ | refine SW.block ?_ | refine SW.rowC ?_ | refine SW.skip ?_ | refine SW.exit ?_ | intro _ | refine And.intro (by omega) ?_) | simp (config := { maxSteps := 1000000 }) (disch := (first | omega | (simp only [go_sem]; try omega))) only [go_sem, Nat.reduceAdd, Nat.reduceEqDiff, Nat.reduceLeDiff, Nat.reduceMul, Nat.reduceLT, reduceIte, Int.reduceToNat, w64_id, cast_succ])
      refine SW.ret ?_; (try simp only [go_sem]); (first | refine FunPost.one ?_ | refine FunPost.two ?_ | refine FunPost.three ?_); (try simp (config := { maxSteps := 1000000 }) (disch := (first | omega | (simp only [go_sem]; try omega))) only [go_sem, Nat.reduceAdd, Nat.reduceEqDiff, Nat.reduceLeDiff, Nat.reduceMul, Nat.reduceLT, reduceIte, Int.reduceToNat, w64_id, cast_succ]); (first | (with_reducible refine GR.drop ?_ ?_; (simp only [go_sem, and_self, and_true, true_and, implies_true, List.take_succ_cons, List.take_zero])) | refine GR.of ?_); refine ⟨?_, rfl⟩; (try with_reducible rfl)
    · rw [decide_eq_false h2]
      repeat (first | (with_reducible first | refine SW.seq ?_ | refine SW.block ?_ | refine SW.rowC ?_ | refine SW.skip ?_ | refine SW.exit ?_ | intro _ | refine And.intro (by omega) ?_) | simp (config := { maxSteps := 1000000 }) (disch := (first | omega | (simp only [go_sem]; try omega))) only [go_sem, Nat.reduceAdd, Nat.reduceEqDiff, Nat.reduceLeDiff, Nat.reduceMul, Nat.reduceLT, reduceIte, Int.reduceToNat, w64_id, cast_succ])
      refine SW.condT rfl ?_
      repeat (first | (with_reducible first | refine SW.seq ?_ | refine SW.block ?_ | refine SW.rowC ?_ | refine SW.skip ?_ | refine SW.exit ?_ | intro _ | refine And.intro (by omega) ?_) | simp (config := { maxSteps := 1000000 }) (disch := (first | omega | (simp only [go_sem]; try omega))) only [go_sem, Nat.reduceAdd, Nat.reduceEqDiff, Nat.reduceLeDiff, Nat.reduceMul, Nat.reduceLT, reduceIte, Int.reduceToNat, w64_id, cast_succ])
      refine SW.ret ?_; (try simp only [go_sem]); (first | refine FunPost.one ?_ | refine FunPost.two ?_ | refine FunPost.three ?_); (try simp (config := { maxSteps := 1000000 }) (disch := (first | omega | (simp only [go_sem]; try omega))) only [go_sem, Nat.reduceAdd, Nat.reduceEqDiff, Nat.reduceLeDiff, Nat.reduceMul, Nat.reduceLT, reduceIte, Int.reduceToNat, w64_id, cast_succ]); (first | (with_reducible refine GR.drop ?_ ?_; (simp only [go_sem, and_self, and_true, true_and, implies_true, List.take_succ_cons, List.take_zero])) | refine GR.of ?_); refine ⟨?_, rfl⟩; (try with_reducible rfl)
  · rw [decide_eq_false h1]
    repeat (first | (with_reducible first | refine SW.seq ?_ | refine SW.block ?_ | refine SW.rowC ?_ | refine SW.skip ?_ | refine SW.exit ?_ | intro _ | refine And.intro (by omega) ?_) | simp (config := { maxSteps := 1000000 }) (disch := (first | omega | (simp only [go_sem]; try omega))) only [go_sem, Nat.reduceAdd, Nat.reduceEqDiff, Nat.reduceLeDiff, Nat.reduceMul, Nat.reduceLT, reduceIte, Int.reduceToNat, w64_id, cast_succ])
    refine SW.condT rfl ?_
    repeat (first | (with_reducible first | refine SW.seq ?_ | refine SW.block ?_ | refine SW.rowC ?_ | refine SW.skip ?_ | refine SW.exit ?_ | intro _ | refine And.intro (by omega) ?_) | simp (config := { maxSteps := 1000000 }) (disch := (first | omega | (simp only [go_sem]; try omega))) only [go_sem, Nat.reduceAdd, Nat.reduceEqDiff, Nat.reduceLeDiff, Nat.reduceMul, Nat.reduceLT, reduceIte, Int.reduceToNat, w64_id, cast_succ])
    refine SW.ret ?_; (try simp only [go_sem]); (first | refine FunPost.one ?_ | refine FunPost.two ?_ | refine FunPost.three ?_); (try simp (config := { maxSteps := 1000000 }) (disch := (first | omega | (simp only [go_sem]; try omega))) only [go_sem, Nat.reduceAdd, Nat.reduceEqDiff, Nat.reduceLeDiff, Nat.reduceMul, Nat.reduceLT, reduceIte, Int.reduceToNat, w64_id, cast_succ]); (first | (with_reducible refine GR.drop ?_ ?_; (simp only [go_sem, and_self, and_true, true_and, implies_true, List.take_succ_cons, List.take_zero])) | refine GR.of ?_); refine ⟨?_, rfl⟩; (try with_reducible rfl)
theorem markGraph_ok (H : List Blk) (N M : Nat → Prop) (t : Nat) (k : Int) (a c : AV) (xs : List Int) (es : List (Int × Int)) (ca : a.cell1 = true) (cc : c.cell1 = true) (ha : OwnS H N t a xs) (hc : OwnE H M c es) (hNM : ∀ j, N j → ¬ M j) (hN : ¬ N H.length) (hk0 : 0 ≤ k) (hk : k ≤ 1000000) (hl1 : xs.length ≤ 2000000) (hl : es.length ≤ 2000000) :
    ACalls Try.prog f_laws_markGraph [.agg [a, c], I k] H (fun r H' => r = I (k + xs.length + 2 * es.length) ∧ OwnS H' N t a (nums k xs.length) ∧ OwnE H' M c (numsE (k + xs.length) es.length) ∧ H.length ≤ H'.length ∧ ∀ j, ¬ N j → ¬ M j → j < H.length → H'[j]? = H[j]?) := by
  refine ACalls.introB s_laws_markGraph (by simp) ?_; intro hB hA; unfold c_laws_markGraph; simp (config := { maxSteps := 1000000 }) (disch := (first | omega | (simp only [go_sem]; try omega))) only [go_sem, Nat.reduceAdd, Nat.reduceEqDiff, Nat.reduceLeDiff, Nat.reduceMul, Nat.reduceLT, reduceIte, Int.reduceToNat, w64_id, cast_succ]
  repeat (first | (with_reducible first | refine SW.seq ?_ | refine SW.block ?_ | refine SW.rowC ?_ | refine SW.skip ?_ | refine SW.exit ?_ | intro _ | refine And.intro (by omega) ?_) | simp (config := { maxSteps := 1000000 }) (disch := (first | omega | (simp only [go_sem]; try omega))) only [go_sem, Nat.reduceAdd, Nat.reduceEqDiff, Nat.reduceLeDiff, Nat.reduceMul, Nat.reduceLT, reduceIte, Int.reduceToNat, w64_id, cast_succ, ca, cc])
  refine (markS_ok _ N t a xs k (ha.same (fun j b _ _ hb => by rw [List.getElem?_append_left (List.getElem?_eq_some_iff.1 hb).1]; exact hb)) hk0 (by omega)).mono ?_
  rintro r H2 ⟨rfl, g1, g2, g3⟩
  have hlt : ∀ j b, H[j]? = some b → j < H.length := fun j b h => (List.getElem?_eq_some_iff.1 h).1
  have hc2 : OwnE H2 M c es := (hc.append [(⟨0, tyGr, 1, [a, c]⟩ : Blk)]).same (fun j b hj hb => by rw [g3 j (fun hn => hNM j hn hj)]; exact hb)
  have p2 : H2[H.length]? = some ⟨0, tyGr, 1, [a, c]⟩ := by rw [g3 _ hN]; simp
  repeat (first | (with_reducible first | refine SW.seq ?_ | refine SW.block ?_ | refine SW.rowC ?_ | refine SW.skip ?_ | refine SW.exit ?_ | intro _ | refine And.intro (by omega) ?_) | simp (config := { maxSteps := 1000000 }) (disch := (first | omega | (simp only [go_sem]; try omega))) only [go_sem, Nat.reduceAdd, Nat.reduceEqDiff, Nat.reduceLeDiff, Nat.reduceMul, Nat.reduceLT, reduceIte, Int.reduceToNat, w64_id, cast_succ, pc_alive p2, pc_ld p2])
  refine (markEdgeS_ok _ M c es (k + xs.length) hc2 (by omega) hl (by omega)).mono ?_
  rintro r H3 ⟨rfl, e1, e2, e3⟩
  repeat (first | (with_reducible first | refine SW.seq ?_ | refine SW.block ?_ | refine SW.rowC ?_ | refine SW.skip ?_ | refine SW.exit ?_ | intro _ | refine And.intro (by omega) ?_) | simp (config := { maxSteps := 1000000 }) (disch := (first | omega | (simp only [go_sem]; try omega))) only [go_sem, Nat.reduceAdd, Nat.reduceEqDiff, Nat.reduceLeDiff, Nat.reduceMul, Nat.reduceLT, reduceIte, Int.reduceToNat, w64_id, cast_succ])
  refine SW.ret ?_; (try simp only [go_sem]); (first | refine FunPost.one ?_ | refine FunPost.two ?_ | refine FunPost.three ?_); (try simp (config := { maxSteps := 1000000 }) (disch := (first | omega | (simp only [go_sem]; try omega))) only [go_sem, Nat.reduceAdd, Nat.reduceEqDiff, Nat.reduceLeDiff, Nat.reduceMul, Nat.reduceLT, reduceIte, Int.reduceToNat, w64_id, cast_succ])
  refine GR.of ⟨rfl, g1.same (fun j b hj _ hb => by rw [e3 j (hNM j hj)]; exact hb), e1, by rw [e2, g2]; simp, fun j h1 h2 h3 => ?_⟩
  rw [e3 j h2, g3 j h1, List.getElem?_append_left h3]
end Go.Proofs.Ytmdeibdplpodpaa
namespace Go.Proofs.Ytmdeibdplpodpaa
open Go.Av
abbrev f_impl_ValidGraph : Nat := 30
def c_impl_ValidGraph : SC :=
 .seq (.reg [
     ⟨(some 1), .box 30 (.tmp 0), none⟩,
     ⟨(some 2), .mv (.const (.bool false)), none⟩] [1])
 (.seq (.seq (.reg [
     ⟨(some 5), .faddr 1 (.tmp 1), none⟩,
     ⟨(some 6), .load 1 false (.tmp 5), none⟩,
     ⟨(some 7), .len (.tmp 6), none⟩,
     ⟨(some 8), .mv (.const (.int .i64 0)), none⟩] [1, 6, 7, 8])
 (.block 0 (.loop [1, 6, 7, 8]
   (.seq (.reg [
       ⟨(some 9), .bin .lss (.tmp 8) (.tmp 7), none⟩] [1, 6, 7, 8, 9])
   (.seq (.cond (.tmp 9)
    (.skip)
    (.exit 0))
   (.seq (.block 1 (.seq (.reg [
        ⟨(some 10), .mv (.tmp 8), none⟩,
        ⟨(some 11), .iaddr 2 (.tmp 6) (.tmp 8), none⟩,
        ⟨(some 12), .load 2 true (.tmp 11), none⟩,
        ⟨(some 4), .alloc 61 [(.int .i64 0), (.int .i64 0)], none⟩,
        ⟨(some 3), .mv (.tmp 10), none⟩,
        ⟨none, .store 2 (.tmp 4) (.tmp 12), none⟩] [1, 3, 4, 6, 7, 8])
    (.seq (.reg [
        ⟨(some 13), .faddr 0 (.tmp 4), none⟩,
        ⟨(some 14), .load 1 false (.tmp 13), none⟩,
        ⟨(some 15), .bin .lss (.tmp 14) (.const (.int .i64 0)), none⟩,
        ⟨(some 16), .mv (.tmp 15), none⟩,
        ⟨(some 17), .faddr 0 (.tmp 4), (some (16, false))⟩,
        ⟨(some 18), .load 1 false (.tmp 17), (some (16, false))⟩,
        ⟨(some 19), .faddr 1 (.tmp 4), (some (16, false))⟩,
        ⟨(some 20), .load 1 false (.tmp 19), (some (16, false))⟩,
        ⟨(some 21), .bin .geq (.tmp 18) (.tmp 20), (some (16, false))⟩,
        ⟨(some 22), .pick (.tmp 16) (.const (.bool true)) (.tmp 21), none⟩,
        ⟨(some 23), .mv (.tmp 22), none⟩,
        ⟨(some 24), .faddr 1 (.tmp 4), (some (23, false))⟩,
        ⟨(some 25), .load 1 false (.tmp 24), (some (23, false))⟩,
        ⟨(some 26), .faddr 0 (.tmp 1), (some (23, false))⟩,
        ⟨(some 27), .load 1 false (.tmp 26), (some (23, false))⟩,
        ⟨(some 28), .qcall 32 [(.tmp 27)], (some (23, false))⟩,
        ⟨(some 29), .bin .geq (.tmp 25) (.tmp 28), (some (23, false))⟩,
        ⟨(some 30), .pick (.tmp 23) (.const (.bool true)) (.tmp 29), none⟩,
        ⟨(some 31), .mv (.tmp 30), none⟩,
        ⟨(some 32), .mv (.tmp 3), (some (31, false))⟩,
        ⟨(some 33), .bin .gtr (.tmp 32) (.const (.int .i64 0)), (some (31, false))⟩,
        ⟨(some 34), .mv (.tmp 33), (some (31, false))⟩,
        ⟨(some 35), .faddr 1 (.tmp 1), (some (34, true))⟩,
        ⟨(some 36), .load 1 false (.tmp 35), (some (34, true))⟩,
        ⟨(some 37), .mv (.tmp 3), (some (34, true))⟩,
        ⟨(some 38), .bin .sub (.tmp 37) (.const (.int .i64 1)), (some (34, true))⟩,
        ⟨(some 39), .iaddr 2 (.tmp 36) (.tmp 38), (some (34, true))⟩,
        ⟨(some 40), .load 2 true (.tmp 39), (some (34, true))⟩,
        ⟨(some 41), .load 2 true (.tmp 4), (some (34, true))⟩,
        ⟨(some 42), .qcall 59 [(.tmp 40), (.tmp 41)], (some (34, true))⟩,
        ⟨(some 43), .bin .geq (.tmp 42) (.const (.int .i64 0)), (some (34, true))⟩,
        ⟨(some 44), .pick (.tmp 34) (.tmp 43) (.const (.bool false)), (some (31, false))⟩,
        ⟨(some 45), .pick (.tmp 31) (.const (.bool true)) (.tmp 44), none⟩] [1, 6, 7, 8, 45])
    (.cond (.tmp 45)
     (.seq (.reg [
         ⟨(some 2), .mv (.const (.bool false)), none⟩] [2])
     (.ret))
     (.skip)))))
   (.reg [
       ⟨(some 46), .bin .add (.tmp 8) (.const (.int .i64 1)), none⟩,
       ⟨(some 8), .mv (.tmp 46), none⟩] [1, 6, 7, 8])))))))
 (.seq (.reg [
     ⟨(some 47), .faddr 0 (.tmp 1), none⟩,
     ⟨(some 48), .load 1 false (.tmp 47), none⟩,
     ⟨(some 49), .call 60 [(.tmp 48)], none⟩,
     ⟨(some 50), .mv (.tmp 49), none⟩,
     ⟨(some 51), .faddr 1 (.tmp 1), (some (50, true))⟩,
     ⟨(some 52), .load 1 false (.tmp 51), (some (50, true))⟩,
     ⟨(some 53), .len (.tmp 52), (some (50, true))⟩,
     ⟨(some 54), .bin .leq (.tmp 53) (.const (.int .i64 512)), (some (50, true))⟩,
     ⟨(some 55), .pick (.tmp 50) (.tmp 54) (.const (.bool false)), none⟩,
     ⟨(some 2), .mv (.tmp 55), none⟩] [2])
 (.ret)))
theorem s_impl_ValidGraph : stripF Try.prog 30 [[1], [1, 6, 7, 8], [1, 6, 7, 8], [1, 6, 7, 8, 9], [1, 3, 4, 6, 7, 8], [1, 6, 7, 8, 45], [2], [1, 6, 7, 8], [2]] = some (c_impl_ValidGraph, [.tmp 2], 56) := by kernel_rfl
abbrev f_spec_l21Colors : Nat := 48
def c_spec_l21Colors : SC :=
 .seq (.reg [
     ⟨(some 2), .mv (.const (.bool false)), none⟩] [0])
 (.seq (.seq (.reg [
     ⟨(some 4), .mv (.tmp 0), none⟩,
     ⟨(some 5), .len (.tmp 4), none⟩,
     ⟨(some 6), .bin .gtr (.tmp 5) (.const (.int .i64 64)), none⟩] [0, 6])
 (.cond (.tmp 6)
  (.seq (.reg [
      ⟨(some 2), .mv (.const (.bool false)), none⟩] [2])
  (.ret))
  (.skip)))
 (.seq (.seq (.reg [
     ⟨(some 3), .mv (.const (.int .i64 0)), none⟩] [0, 3])
 (.block 0 (.loop [0, 3]
   (.seq (.seq (.reg [
       ⟨(some 7), .mv (.tmp 3), none⟩,
       ⟨(some 8), .mv (.tmp 0), none⟩,
       ⟨(some 9), .len (.tmp 8), none⟩,
       ⟨(some 10), .bin .lss (.tmp 7) (.tmp 9), none⟩] [0, 3, 10])
   (.cond (.tmp 10)
    (.skip)
    (.exit 0)))
   (.seq (.block 1 (.seq (.reg [
        ⟨(some 13), .mv (.tmp 0), none⟩,
        ⟨(some 14), .mv (.tmp 3), none⟩,
        ⟨(some 15), .iaddr 1 (.tmp 13) (.tmp 14), none⟩,
        ⟨(some 16), .load 1 false (.tmp 15), none⟩,
        ⟨(some 17), .call 53 [(.tmp 16), (.const (.int .i64 0)), (.const (.int .i64 63))], none⟩,
        ⟨(some 18), .un .not (.tmp 17), none⟩] [0, 3, 18])
    (.cond (.tmp 18)
     (.seq (.reg [
         ⟨(some 2), .mv (.const (.bool false)), none⟩] [2])
     (.ret))
     (.skip))))
   (.reg [
       ⟨(some 11), .mv (.tmp 3), none⟩,
       ⟨(some 12), .bin .add (.tmp 11) (.const (.int .i64 1)), none⟩,
       ⟨(some 3), .mv (.tmp 12), none⟩] [0, 3]))))))
 (.seq (.reg [
     ⟨(some 2), .mv (.const (.bool true)), none⟩] [2])
 (.ret))))
theorem s_spec_l21Colors : stripF Try.prog 48 [[0], [0, 6], [2], [0, 3], [0, 3], [0, 3, 10], [0, 3, 18], [2], [0, 3], [2]] = some (c_spec_l21Colors, [.tmp 2], 19) := by kernel_rfl
abbrev f_spec_l21Less : Nat := 54
def c_spec_l21Less : SC :=
 .seq (.reg [
     ⟨(some 2), .box 61 (.tmp 0), none⟩,
     ⟨(some 3), .box 61 (.tmp 1), none⟩,
     ⟨(some 4), .mv (.const (.bool false)), none⟩] [2, 3])
 (.seq (.reg [
     ⟨(some 5), .faddr 0 (.tmp 2), none⟩,
     ⟨(some 6), .load 1 false (.tmp 5), none⟩,
     ⟨(some 7), .faddr 0 (.tmp 3), none⟩,
     ⟨(some 8), .load 1 false (.tmp 7), none⟩,
     ⟨(some 9), .bin .lss (.tmp 6) (.tmp 8), none⟩,
     ⟨(some 10), .mv (.tmp 9), none⟩,
     ⟨(some 11), .faddr 0 (.tmp 2), (some (10, false))⟩,
     ⟨(some 12), .load 1 false (.tmp 11), (some (10, false))⟩,
     ⟨(some 13), .faddr 0 (.tmp 3), (some (10, false))⟩,
     ⟨(some 14), .load 1 false (.tmp 13), (some (10, false))⟩,
     ⟨(some 15), .bin .eql (.tmp 12) (.tmp 14), (some (10, false))⟩,
     ⟨(some 16), .mv (.tmp 15), (some (10, false))⟩,
     ⟨(some 17), .faddr 1 (.tmp 2), (some (16, true))⟩,
     ⟨(some 18), .load 1 false (.tmp 17), (some (16, true))⟩,
     ⟨(some 19), .faddr 1 (.tmp 3), (some (16, true))⟩,
     ⟨(some 20), .load 1 false (.tmp 19), (some (16, true))⟩,
     ⟨(some 21), .bin .lss (.tmp 18) (.tmp 20), (some (16, true))⟩,
     ⟨(some 22), .pick (.tmp 16) (.tmp 21) (.const (.bool false)), (some (10, false))⟩,
     ⟨(some 23), .pick (.tmp 10) (.const (.bool true)) (.tmp 22), none⟩,
     ⟨(some 4), .mv (.tmp 23), none⟩] [4])
 (.ret))
theorem s_spec_l21Less : stripF Try.prog 54 [[2, 3], [4]] = some (c_spec_l21Less, [.tmp 4], 24) := by kernel_rfl
abbrev f_impl_areColors : Nat := 60
def c_impl_areColors : SC :=
 .seq (.reg [
     ⟨(some 2), .mv (.const (.bool false)), none⟩] [0])
 (.seq (.reg [
     ⟨(some 3), .mv (.tmp 0), none⟩,
     ⟨(some 4), .len (.tmp 3), none⟩,
     ⟨(some 5), .bin .leq (.tmp 4) (.const (.int .i64 64)), none⟩,
     ⟨(some 6), .mv (.tmp 5), none⟩,
     ⟨(some 7), .mv (.tmp 0), (some (6, true))⟩,
     ⟨(some 8), .call 79 [(.tmp 7), (.func 80)], (some (6, true))⟩,
     ⟨(some 9), .un .not (.tmp 8), (some (6, true))⟩,
     ⟨(some 10), .pick (.tmp 6) (.tmp 9) (.const (.bool false)), none⟩,
     ⟨(some 2), .mv (.tmp 10), none⟩] [2])
 (.ret))
theorem s_impl_areColors : stripF Try.prog 60 [[0], [2]] = some (c_impl_areColors, [.tmp 2], 11) := by kernel_rfl
abbrev f_impl_areColors_c1 : Nat := 80
def c_impl_areColors_c1 : SC :=
 .seq (.reg [
     ⟨(some 2), .mv (.const (.bool false)), none⟩] [0])
 (.seq (.reg [
     ⟨(some 3), .mv (.tmp 0), none⟩,
     ⟨(some 4), .call 81 [(.tmp 3)], none⟩,
     ⟨(some 5), .un .not (.tmp 4), none⟩,
     ⟨(some 2), .mv (.tmp 5), none⟩] [2])
 (.ret))
theorem s_impl_areColors_c1 : stripF Try.prog 80 [[0], [2]] = some (c_impl_areColors_c1, [.tmp 2], 6) := by kernel_rfl
abbrev f_impl_isColor : Nat := 81
def c_impl_isColor : SC :=
 .seq (.reg [
     ⟨(some 2), .mv (.const (.bool false)), none⟩] [0])
 (.seq (.reg [
     ⟨(some 3), .mv (.tmp 0), none⟩,
     ⟨(some 4), .call 39 [(.tmp 3), (.const (.int .i64 0)), (.const (.int .i64 63))], none⟩,
     ⟨(some 2), .mv (.tmp 4), none⟩] [2])
 (.ret))
theorem s_impl_isColor : stripF Try.prog 81 [[0], [2]] = some (c_impl_isColor, [.tmp 2], 5) := by kernel_rfl
section
variable {H : List Blk}
@[go_sem] theorem cell1_ilE (es : List (Int × Int)) : (ilE es).cell1 = true := rfl
@[go_sem] theorem partsOf_ilE (es : List (Int × Int)) : partsOf (ilE es) = [ilE es] := rfl
@[go_sem] theorem aview_ilE (es : List (Int × Int)) : aview H (ilE es) = some (es.length, flatE es) := rfl
end
def edB (n : Int) (e : Int × Int) : Bool := decide (0 ≤ e.1) && (decide (e.1 < e.2) && decide (e.2 < n))
def edsB (n : Int) (es : List (Int × Int)) : Bool := es.all (edB n) && decide (es.Pairwise fun a b => cmpE a b < 0)
def colsB (cols : List Int) : Bool := decide (cols.length ≤ 64) && cols.all fun c => decide (0 ≤ c) && decide (c ≤ 63)
def grB (cols : List Int) (es : List (Int × Int)) : Bool := edsB cols.length es && (colsB cols && decide (es.length ≤ 512))
theorem asc_snoc {A : Type} {cf : A → A → Int} (h : TotC cf) {l : List A} {x : A} (hl : l.Pairwise fun a b => cf a b < 0) : (l ++ [x]).Pairwise (fun a b => cf a b < 0) ↔ ∀ (y : A), l.getLast? = some y → cf y x < 0 := by
  rw [List.pairwise_append]
  constructor
  · rintro ⟨-, -, h3⟩ y hy
    exact h3 y (List.mem_of_getLast? hy) x (by simp)
  · intro hy
    refine ⟨hl, by simp, fun a ha b hb => ?_⟩
    rw [List.mem_singleton.1 hb]
    rcases nilOrSnoc l with rfl | ⟨l', z, rfl⟩
    · simp at ha
    · have hz := hy z (by simp)
      rcases List.mem_append.1 ha with ha | ha
      · exact h.trans _ _ _ ((List.pairwise_append.1 hl).2.2 a ha z (by simp)) hz
      · rw [List.mem_singleton.1 ha]; exact hz
theorem edsB_snoc (n : Int) (pre : List (Int × Int)) (x : Int × Int) (hp : edsB n pre = true) : edsB n (pre ++ [x]) = (edB n x && (decide (pre.length = 0) || decide (cmpE (pre.getD (pre.length - 1) (0, 0)) x < 0))) := by
  unfold edsB at hp ⊢
  rw [Bool.and_eq_true, decide_eq_true_eq] at hp
  rw [List.all_append, hp.1, Bool.true_and, List.all_cons, List.all_nil, Bool.and_true]
  congr 1
  rw [Bool.eq_iff_iff, decide_eq_true_eq, asc_snoc cmpE_tot hp.2, Bool.or_eq_true, decide_eq_true_eq, decide_eq_true_eq]
  rcases nilOrSnoc pre with rfl | ⟨l', z, rfl⟩
  · simp
  · simp
theorem edsB_pre {n : Int} {pre post : List (Int × Int)} (h : edsB n pre = false) : edsB n (pre ++ post) = false := by
  unfold edsB at h ⊢
  rw [Bool.and_eq_false_iff] at h ⊢
  rcases h with h | h
  · left; rw [List.all_append, h]; rfl
  · right
    rw [decide_eq_false_iff_not] at h ⊢
    intro hh
    exact h (List.pairwise_append.1 hh).1
theorem isColor_call : callable Try.prog f_impl_areColors_c1 = true := by kernel_rfl
theorem isColor_fn (n : Int) : PFn Try.prog f_impl_isColor [I n] (Bv (decide (0 ≤ n) && decide (n ≤ 63))) := by
  intro H; refine ACalls.introB s_impl_isColor (by simp) ?_; intro hB hA; unfold c_impl_isColor; simp (config := { maxSteps := 1000000 }) (disch := (first | omega | (simp only [go_sem]; try omega))) only [go_sem, Nat.reduceAdd, Nat.reduceEqDiff, Nat.reduceLeDiff, Nat.reduceMul, Nat.reduceLT, reduceIte, Int.reduceToNat, w64_id, cast_succ]
  repeat (first | (with_reducible first | refine SW.seq ?_ | refine SW.block ?_ | refine SW.rowC ?_ | refine SW.skip ?_ | refine SW.exit ?_ | refine PFn.use (within_fn _ _ _) ?_ | refine PFn.useq (within_fn _ _ _) ?_ | intro _ | refine And.intro (by omega) ?_) | simp (config := { maxSteps := 1000000 }) (disch := (first | omega | (simp only [go_sem]; try omega))) only [go_sem, Nat.reduceAdd, Nat.reduceEqDiff, Nat.reduceLeDiff, Nat.reduceMul, Nat.reduceLT, reduceIte, Int.reduceToNat, w64_id, cast_succ])
  refine SW.ret ?_; (try simp only [go_sem]); (first | refine FunPost.one ?_ | refine FunPost.two ?_ | refine FunPost.three ?_); (try simp (config := { maxSteps := 1000000 }) (disch := (first | omega | (simp only [go_sem]; try omega))) only [go_sem, Nat.reduceAdd, Nat.reduceEqDiff, Nat.reduceLeDiff, Nat.reduceMul, Nat.reduceLT, reduceIte, Int.reduceToNat, w64_id, cast_succ]); (first | (with_reducible refine GR.drop ?_ ?_; (simp only [go_sem, and_self, and_true, true_and, implies_true, List.take_succ_cons, List.take_zero])) | refine GR.of ?_); refine ⟨?_, rfl⟩; (try with_reducible rfl)
theorem areColors_c1_fn (n : Int) : PFn Try.prog f_impl_areColors_c1 [I n] (Bv (!(decide (0 ≤ n) && decide (n ≤ 63)))) := by
  intro H; refine ACalls.introB s_impl_areColors_c1 (by simp) ?_; intro hB hA; unfold c_impl_areColors_c1; simp (config := { maxSteps := 1000000 }) (disch := (first | omega | (simp only [go_sem]; try omega))) only [go_sem, Nat.reduceAdd, Nat.reduceEqDiff, Nat.reduceLeDiff, Nat.reduceMul, Nat.reduceLT, reduceIte, Int.reduceToNat, w64_id, cast_succ]
  repeat (first | (with_reducible first | refine SW.seq ?_ | refine SW.block ?_ | refine SW.rowC ?_ | refine SW.skip ?_ | refine SW.exit ?_ | refine PFn.use (isColor_fn _) ?_ | refine PFn.useq (isColor_fn _) ?_ | intro _ | refine And.intro (by omega) ?_) | simp (config := { maxSteps := 1000000 }) (disch := (first | omega | (simp only [go_sem]; try omega))) only [go_sem, Nat.reduceAdd, Nat.reduceEqDiff, Nat.reduceLeDiff, Nat.reduceMul, Nat.reduceLT, reduceIte, Int.reduceToNat, w64_id, cast_succ])
  refine SW.ret ?_; (try simp only [go_sem]); (first | refine FunPost.one ?_ | refine FunPost.two ?_ | refine FunPost.three ?_); (try simp (config := { maxSteps := 1000000 }) (disch := (first | omega | (simp only [go_sem]; try omega))) only [go_sem, Nat.reduceAdd, Nat.reduceEqDiff, Nat.reduceLeDiff, Nat.reduceMul, Nat.reduceLT, reduceIte, Int.reduceToNat, w64_id, cast_succ]); (first | (with_reducible refine GR.drop ?_ ?_; (simp only [go_sem, and_self, and_true, true_and, implies_true, List.take_succ_cons, List.take_zero])) | refine GR.of ?_); refine ⟨?_, rfl⟩; (try with_reducible rfl)
theorem areColors_fn (cols : List Int) : PFn Try.prog f_impl_areColors [ilS cols] (Bv (colsB cols)) := by
  unfold colsB
  by_cases h : cols.length ≤ 64
  · have d1 : decide ((cols.length : Int) ≤ 64) = true := decide_eq_true (by omega)
    rw [decide_eq_true h, Bool.true_and]
    intro H; refine ACalls.introB s_impl_areColors (by simp) ?_; intro hB hA; unfold c_impl_areColors; simp (config := { maxSteps := 1000000 }) (disch := (first | omega | (simp only [go_sem]; try omega))) only [go_sem, Nat.reduceAdd, Nat.reduceEqDiff, Nat.reduceLeDiff, Nat.reduceMul, Nat.reduceLT, reduceIte, Int.reduceToNat, w64_id, cast_succ]
    repeat (first | (with_reducible first | refine SW.seq ?_ | refine SW.block ?_ | refine SW.rowC ?_ | refine SW.skip ?_ | refine SW.exit ?_ | intro _ | refine And.intro (by omega) ?_) | simp (config := { maxSteps := 1000000 }) (disch := (first | omega | (simp only [go_sem]; try omega))) only [go_sem, Nat.reduceAdd, Nat.reduceEqDiff, Nat.reduceLeDiff, Nat.reduceMul, Nat.reduceLT, reduceIte, Int.reduceToNat, w64_id, cast_succ, d1])
    refine (conS_ok I _ (ilS cols) cols rfl f_impl_areColors_c1 [] isColor_call (fun x => !(decide (0 ≤ x) && decide (x ≤ 63))) (fun x hx => areColors_c1_fn x _)).mono ?_
    rintro r H' ⟨rfl, rfl⟩
    repeat (first | (with_reducible first | refine SW.seq ?_ | refine SW.block ?_ | refine SW.rowC ?_ | refine SW.skip ?_ | refine SW.exit ?_ | intro _ | refine And.intro (by omega) ?_) | simp (config := { maxSteps := 1000000 }) (disch := (first | omega | (simp only [go_sem]; try omega))) only [go_sem, Nat.reduceAdd, Nat.reduceEqDiff, Nat.reduceLeDiff, Nat.reduceMul, Nat.reduceLT, reduceIte, Int.reduceToNat, w64_id, cast_succ])
    refine SW.ret ?_; (try simp only [go_sem]); (first | refine FunPost.one ?_ | refine FunPost.two ?_ | refine FunPost.three ?_); (try simp (config := { maxSteps := 1000000 }) (disch := (first | omega | (simp only [go_sem]; try omega))) only [go_sem, Nat.reduceAdd, Nat.reduceEqDiff, Nat.reduceLeDiff, Nat.reduceMul, Nat.reduceLT, reduceIte, Int.reduceToNat, w64_id, cast_succ]); (first | (with_reducible refine GR.drop ?_ ?_; (simp only [go_sem, and_self, and_true, true_and, implies_true, List.take_succ_cons, List.take_zero])) | refine GR.of ?_); refine ⟨?_, rfl⟩; (try with_reducible rfl)
    rw [List.any_eq_not_all_not]
    simp
  · have d1 : decide ((cols.length : Int) ≤ 64) = false := decide_eq_false (by omega)
    rw [decide_eq_false h, Bool.false_and]
    intro H; refine ACalls.introB s_impl_areColors (by simp) ?_; intro hB hA; unfold c_impl_areColors; simp (config := { maxSteps := 1000000 }) (disch := (first | omega | (simp only [go_sem]; try omega))) only [go_sem, Nat.reduceAdd, Nat.reduceEqDiff, Nat.reduceLeDiff, Nat.reduceMul, Nat.reduceLT, reduceIte, Int.reduceToNat, w64_id, cast_succ]
    repeat (first | (with_reducible first | refine SW.seq ?_ | refine SW.block ?_ | refine SW.rowC ?_ | refine SW.skip ?_ | refine SW.exit ?_ | intro _ | refine And.intro (by omega) ?_) | simp (config := { maxSteps := 1000000 }) (disch := (first | omega | (simp only [go_sem]; try omega))) only [go_sem, Nat.reduceAdd, Nat.reduceEqDiff, Nat.reduceLeDiff, Nat.reduceMul, Nat.reduceLT, reduceIte, Int.reduceToNat, w64_id, cast_succ, d1])
    refine SW.ret ?_; (try simp only [go_sem]); (first | refine FunPost.one ?_ | refine FunPost.two ?_ | refine FunPost.three ?_); (try simp (config := { maxSteps := 1000000 }) (disch := (first | omega | (simp only [go_sem]; try omega))) only [go_sem, Nat.reduceAdd, Nat.reduceEqDiff, Nat.reduceLeDiff, Nat.reduceMul, Nat.reduceLT, reduceIte, Int.reduceToNat, w64_id, cast_succ]); (first | (with_reducible refine GR.drop ?_ ?_; (simp only [go_sem, and_self, and_true, true_and, implies_true, List.take_succ_cons, List.take_zero])) | refine GR.of ?_); refine ⟨?_, rfl⟩; (try with_reducible rfl)
theorem l21Colors_fn (cols : List Int) : PFn Try.prog f_spec_l21Colors [ilS cols] (Bv (colsB cols)) := by
  unfold colsB
  by_cases h : cols.length ≤ 64
  · rw [decide_eq_true h, Bool.true_and]
    have d1 : decide ((64 : Int) < (cols.length : Int)) = false := decide_eq_false (by omega)
    intro H; refine ACalls.introB s_spec_l21Colors (by simp) ?_; intro hB hA; unfold c_spec_l21Colors; simp (config := { maxSteps := 1000000 }) (disch := (first | omega | (simp only [go_sem]; try omega))) only [go_sem, Nat.reduceAdd, Nat.reduceEqDiff, Nat.reduceLeDiff, Nat.reduceMul, Nat.reduceLT, reduceIte, Int.reduceToNat, w64_id, cast_succ]
    repeat (first | (with_reducible first | refine SW.seq ?_ | refine SW.block ?_ | refine SW.rowC ?_ | refine SW.skip ?_ | refine SW.exit ?_ | intro _ | refine And.intro (by omega) ?_) | simp (config := { maxSteps := 1000000 }) (disch := (first | omega | (simp only [go_sem]; try omega))) only [go_sem, Nat.reduceAdd, Nat.reduceEqDiff, Nat.reduceLeDiff, Nat.reduceMul, Nat.reduceLT, reduceIte, Int.reduceToNat, w64_id, cast_succ, d1])
    refine SW.condF rfl ?_
    repeat (first | (with_reducible first | refine SW.seq ?_ | refine SW.block ?_ | refine SW.rowC ?_ | refine SW.skip ?_ | refine SW.exit ?_ | intro _ | refine And.intro (by omega) ?_) | simp (config := { maxSteps := 1000000 }) (disch := (first | omega | (simp only [go_sem]; try omega))) only [go_sem, Nat.reduceAdd, Nat.reduceEqDiff, Nat.reduceLeDiff, Nat.reduceMul, Nat.reduceLT, reduceIte, Int.reduceToNat, w64_id, cast_succ])
    refine SW.loopE (fun E0 H0 q E' H' => ∃ (pre post : List Int), cols = pre ++ post ∧ q = post.length ∧ E' = aput E0 3 (I pre.length) ∧ H' = H0 ∧ (pre.all fun c => decide (0 ≤ c) && decide (c ≤ 63)) = true) cols.length ⟨[], cols, rfl, rfl, rfl, rfl, rfl⟩ ?_
    rintro q E' H' ⟨pre, post, hq, rfl, rfl, rfl, ha⟩
    simp (config := { maxSteps := 1000000 }) (disch := (first | omega | (simp only [go_sem]; try omega))) only [go_sem, Nat.reduceAdd, Nat.reduceEqDiff, Nat.reduceLeDiff, Nat.reduceMul, Nat.reduceLT, reduceIte, Int.reduceToNat, w64_id, cast_succ]
    repeat (first | (with_reducible first | refine SW.seq ?_ | refine SW.block ?_ | refine SW.rowC ?_ | refine SW.skip ?_ | refine SW.exit ?_ | intro _ | refine And.intro (by omega) ?_) | simp (config := { maxSteps := 1000000 }) (disch := (first | omega | (simp only [go_sem]; try omega))) only [go_sem, Nat.reduceAdd, Nat.reduceEqDiff, Nat.reduceLeDiff, Nat.reduceMul, Nat.reduceLT, reduceIte, Int.reduceToNat, w64_id, cast_succ])
    (first | refine SW.condD rfl (fun h2 => ?_) (fun h2 => ?_) | refine SW.condN rfl (fun h2 => ?_) (fun h2 => ?_) | refine SW.condNB rfl (fun h2 => ?_) (fun h2 => ?_) | refine SW.condB rfl (fun h2 => ?_) (fun h2 => ?_))
    · obtain ⟨x, post, rfl, hg, -⟩ := consOf (d := 0) hq (by omega)
      repeat (first | (with_reducible first | refine SW.seq ?_ | refine SW.block ?_ | refine SW.rowC ?_ | refine SW.skip ?_ | refine SW.exit ?_ | refine PFn.use (l00In_fn _ _ _) ?_ | refine PFn.useq (l00In_fn _ _ _) ?_ | intro _ | refine And.intro (by omega) ?_) | simp (config := { maxSteps := 1000000 }) (disch := (first | omega | (simp only [go_sem]; try omega))) only [go_sem, Nat.reduceAdd, Nat.reduceEqDiff, Nat.reduceLeDiff, Nat.reduceMul, Nat.reduceLT, reduceIte, Int.reduceToNat, w64_id, cast_succ, hg])
      cases hx : (decide (0 ≤ x) && decide (x ≤ 63)) with
      | true =>
        repeat (first | (with_reducible first | refine SW.seq ?_ | refine SW.block ?_ | refine SW.rowC ?_ | refine SW.skip ?_ | refine SW.exit ?_ | intro _ | refine And.intro (by omega) ?_) | simp (config := { maxSteps := 1000000 }) (disch := (first | omega | (simp only [go_sem]; try omega))) only [go_sem, Nat.reduceAdd, Nat.reduceEqDiff, Nat.reduceLeDiff, Nat.reduceMul, Nat.reduceLT, reduceIte, Int.reduceToNat, w64_id, cast_succ])
        refine SW.condF rfl ?_
        repeat (first | (with_reducible first | refine SW.seq ?_ | refine SW.block ?_ | refine SW.rowC ?_ | refine SW.skip ?_ | refine SW.exit ?_ | intro _ | refine And.intro (by omega) ?_) | simp (config := { maxSteps := 1000000 }) (disch := (first | omega | (simp only [go_sem]; try omega))) only [go_sem, Nat.reduceAdd, Nat.reduceEqDiff, Nat.reduceLeDiff, Nat.reduceMul, Nat.reduceLT, reduceIte, Int.reduceToNat, w64_id, cast_succ])
        refine SLoop.next post.length (by simp) ⟨pre ++ [x], post, by simp [hq], rfl, by simp [go_sem], rfl, ?_⟩
        rw [List.all_append, ha, List.all_cons, hx]; rfl
      | false =>
        repeat (first | (with_reducible first | refine SW.seq ?_ | refine SW.block ?_ | refine SW.rowC ?_ | refine SW.skip ?_ | refine SW.exit ?_ | intro _ | refine And.intro (by omega) ?_) | simp (config := { maxSteps := 1000000 }) (disch := (first | omega | (simp only [go_sem]; try omega))) only [go_sem, Nat.reduceAdd, Nat.reduceEqDiff, Nat.reduceLeDiff, Nat.reduceMul, Nat.reduceLT, reduceIte, Int.reduceToNat, w64_id, cast_succ])
        refine SW.condT rfl ?_
        repeat (first | (with_reducible first | refine SW.seq ?_ | refine SW.block ?_ | refine SW.rowC ?_ | refine SW.skip ?_ | refine SW.exit ?_ | intro _ | refine And.intro (by omega) ?_) | simp (config := { maxSteps := 1000000 }) (disch := (first | omega | (simp only [go_sem]; try omega))) only [go_sem, Nat.reduceAdd, Nat.reduceEqDiff, Nat.reduceLeDiff, Nat.reduceMul, Nat.reduceLT, reduceIte, Int.reduceToNat, w64_id, cast_succ])
        refine SW.ret ?_; (try simp only [go_sem]); (first | refine FunPost.one ?_ | refine FunPost.two ?_ | refine FunPost.three ?_); (try simp (config := { maxSteps := 1000000 }) (disch := (first | omega | (simp only [go_sem]; try omega))) only [go_sem, Nat.reduceAdd, Nat.reduceEqDiff, Nat.reduceLeDiff, Nat.reduceMul, Nat.reduceLT, reduceIte, Int.reduceToNat, w64_id, cast_succ]); (first | (with_reducible refine GR.drop ?_ ?_; (simp only [go_sem, and_self, and_true, true_and, implies_true, List.take_succ_cons, List.take_zero])) | refine GR.of ?_); refine ⟨?_, rfl⟩; (try with_reducible rfl)
        rw [hq, List.all_append, List.all_cons, hx]; simp
    · obtain ⟨rfl, rfl⟩ := nilOf hq (by omega)
      repeat (first | (with_reducible first | refine SW.seq ?_ | refine SW.block ?_ | refine SW.rowC ?_ | refine SW.skip ?_ | refine SW.exit ?_ | intro _ | refine And.intro (by omega) ?_) | simp (config := { maxSteps := 1000000 }) (disch := (first | omega | (simp only [go_sem]; try omega))) only [go_sem, Nat.reduceAdd, Nat.reduceEqDiff, Nat.reduceLeDiff, Nat.reduceMul, Nat.reduceLT, reduceIte, Int.reduceToNat, w64_id, cast_succ])
      refine SW.ret ?_; (try simp only [go_sem]); (first | refine FunPost.one ?_ | refine FunPost.two ?_ | refine FunPost.three ?_); (try simp (config := { maxSteps := 1000000 }) (disch := (first | omega | (simp only [go_sem]; try omega))) only [go_sem, Nat.reduceAdd, Nat.reduceEqDiff, Nat.reduceLeDiff, Nat.reduceMul, Nat.reduceLT, reduceIte, Int.reduceToNat, w64_id, cast_succ]); (first | (with_reducible refine GR.drop ?_ ?_; (simp only [go_sem, and_self, and_true, true_and, implies_true, List.take_succ_cons, List.take_zero])) | refine GR.of ?_); refine ⟨?_, rfl⟩; (try with_reducible rfl)
      rw [ha]
  · rw [decide_eq_false h, Bool.false_and]
    have d1 : decide ((64 : Int) < (cols.length : Int)) = true := decide_eq_true (by omega)
    intro H; refine ACalls.introB s_spec_l21Colors (by simp) ?_; intro hB hA; unfold c_spec_l21Colors; simp (config := { maxSteps := 1000000 }) (disch := (first | omega | (simp only [go_sem]; try omega))) only [go_sem, Nat.reduceAdd, Nat.reduceEqDiff, Nat.reduceLeDiff, Nat.reduceMul, Nat.reduceLT, reduceIte, Int.reduceToNat, w64_id, cast_succ]
    repeat (first | (with_reducible first | refine SW.seq ?_ | refine SW.block ?_ | refine SW.rowC ?_ | refine SW.skip ?_ | refine SW.exit ?_ | intro _ | refine And.intro (by omega) ?_) | simp (config := { maxSteps := 1000000 }) (disch := (first | omega | (simp only [go_sem]; try omega))) only [go_sem, Nat.reduceAdd, Nat.reduceEqDiff, Nat.reduceLeDiff, Nat.reduceMul, Nat.reduceLT, reduceIte, Int.reduceToNat, w64_id, cast_succ, d1])
    refine SW.condT rfl ?_
    repeat (first | (with_reducible first | refine SW.seq ?_ | refine SW.block ?_ | refine SW.rowC ?_ | refine SW.skip ?_ | refine SW.exit ?_ | intro _ | refine And.intro (by omega) ?_) | simp (config := { maxSteps := 1000000 }) (disch := (first | omega | (simp only [go_sem]; try omega))) only [go_sem, Nat.reduceAdd, Nat.reduceEqDiff, Nat.reduceLeDiff, Nat.reduceMul, Nat.reduceLT, reduceIte, Int.reduceToNat, w64_id, cast_succ])
    refine SW.ret ?_; (try simp only [go_sem]); (first | refine FunPost.one ?_ | refine FunPost.two ?_ | refine FunPost.three ?_); (try simp (config := { maxSteps := 1000000 }) (disch := (first | omega | (simp only [go_sem]; try omega))) only [go_sem, Nat.reduceAdd, Nat.reduceEqDiff, Nat.reduceLeDiff, Nat.reduceMul, Nat.reduceLT, reduceIte, Int.reduceToNat, w64_id, cast_succ]); (first | (with_reducible refine GR.drop ?_ ?_; (simp only [go_sem, and_self, and_true, true_and, implies_true, List.take_succ_cons, List.take_zero])) | refine GR.of ?_); refine ⟨?_, rfl⟩; (try with_reducible rfl)
theorem cmpE_lt {a b : Int × Int} : cmpE a b < 0 ↔ a.1 < b.1 ∨ (a.1 = b.1 ∧ a.2 < b.2) := by
  unfold cmpE cmpI
  by_cases h1 : a.1 < b.1
  · simp [h1]
  · by_cases h2 : b.1 < a.1
    · simp [h1, h2]; omega
    · have e : a.1 = b.1 := by omega
      simp [e]
      by_cases h3 : a.2 < b.2
      · simp [h3]
      · simp [h3]; split <;> omega
theorem l21Less_fn (a b : Int × Int) : PFn Try.prog f_spec_l21Less [agE a, agE b] (Bv (decide (cmpE a b < 0))) := by
  obtain ⟨a1, a2⟩ := a
  obtain ⟨b1, b2⟩ := b
  unfold agE
  have hd : decide (cmpE (a1, a2) (b1, b2) < 0) = (decide (a1 < b1) || (decide (a1 = b1) && decide (a2 < b2))) := by
    rw [Bool.eq_iff_iff]; simp [cmpE_lt]
  rw [hd]
  by_cases h1 : a1 < b1
  · have d1 : decide (a1 < b1) = true := decide_eq_true h1
    intro H; refine ACalls.introB s_spec_l21Less (by simp) ?_; intro hB hA; unfold c_spec_l21Less; simp (config := { maxSteps := 1000000 }) (disch := (first | omega | (simp only [go_sem]; try omega))) only [go_sem, Nat.reduceAdd, Nat.reduceEqDiff, Nat.reduceLeDiff, Nat.reduceMul, Nat.reduceLT, reduceIte, Int.reduceToNat, w64_id, cast_succ]
    repeat (first | (with_reducible first | refine SW.seq ?_ | refine SW.block ?_ | refine SW.rowC ?_ | refine SW.skip ?_ | refine SW.exit ?_ | intro _ | refine And.intro (by omega) ?_) | simp (config := { maxSteps := 1000000 }) (disch := (first | omega | (simp only [go_sem]; try omega))) only [go_sem, Nat.reduceAdd, Nat.reduceEqDiff, Nat.reduceLeDiff, Nat.reduceMul, Nat.reduceLT, reduceIte, Int.reduceToNat, w64_id, cast_succ, d1])
    refine SW.ret ?_; (try simp only [go_sem]); (first | refine FunPost.one ?_ | refine FunPost.two ?_ | refine FunPost.three ?_); (try simp (config := { maxSteps := 1000000 }) (disch := (first | omega | (simp only [go_sem]; try omega))) only [go_sem, Nat.reduceAdd, Nat.reduceEqDiff, Nat.reduceLeDiff, Nat.reduceMul, Nat.reduceLT, reduceIte, Int.reduceToNat, w64_id, cast_succ]); (first | (with_reducible refine GR.drop ?_ ?_; (simp only [go_sem, and_self, and_true, true_and, implies_true, List.take_succ_cons, List.take_zero])) | refine GR.of ?_); refine ⟨?_, rfl⟩; (try with_reducible rfl)
    rfl
  · have d1 : decide (a1 < b1) = false := decide_eq_false h1
    by_cases h2 : a1 = b1
    · have d2 : decide (a1 = b1) = true := decide_eq_true h2
      intro H; refine ACalls.introB s_spec_l21Less (by simp) ?_; intro hB hA; unfold c_spec_l21Less; simp (config := { maxSteps := 1000000 }) (disch := (first | omega | (simp only [go_sem]; try omega))) only [go_sem, Nat.reduceAdd, Nat.reduceEqDiff, Nat.reduceLeDiff, Nat.reduceMul, Nat.reduceLT, reduceIte, Int.reduceToNat, w64_id, cast_succ]
      repeat (first | (with_reducible first | refine SW.seq ?_ | refine SW.block ?_ | refine SW.rowC ?_ | refine SW.skip ?_ | refine SW.exit ?_ | intro _ | refine And.intro (by omega) ?_) | simp (config := { maxSteps := 1000000 }) (disch := (first | omega | (simp only [go_sem]; try omega))) only [go_sem, Nat.reduceAdd, Nat.reduceEqDiff, Nat.reduceLeDiff, Nat.reduceMul, Nat.reduceLT, reduceIte, Int.reduceToNat, w64_id, cast_succ, d1, d2])
      refine SW.ret ?_; (try simp only [go_sem]); (first | refine FunPost.one ?_ | refine FunPost.two ?_ | refine FunPost.three ?_); (try simp (config := { maxSteps := 1000000 }) (disch := (first | omega | (simp only [go_sem]; try omega))) only [go_sem, Nat.reduceAdd, Nat.reduceEqDiff, Nat.reduceLeDiff, Nat.reduceMul, Nat.reduceLT, reduceIte, Int.reduceToNat, w64_id, cast_succ]); (first | (with_reducible refine GR.drop ?_ ?_; (simp only [go_sem, and_self, and_true, true_and, implies_true, List.take_succ_cons, List.take_zero])) | refine GR.of ?_); refine ⟨?_, rfl⟩; (try with_reducible rfl)
      rfl
    · have d2 : decide (a1 = b1) = false := decide_eq_false h2
      intro H; refine ACalls.introB s_spec_l21Less (by simp) ?_; intro hB hA; unfold c_spec_l21Less; simp (config := { maxSteps := 1000000 }) (disch := (first | omega | (simp only [go_sem]; try omega))) only [go_sem, Nat.reduceAdd, Nat.reduceEqDiff, Nat.reduceLeDiff, Nat.reduceMul, Nat.reduceLT, reduceIte, Int.reduceToNat, w64_id, cast_succ]
      repeat (first | (with_reducible first | refine SW.seq ?_ | refine SW.block ?_ | refine SW.rowC ?_ | refine SW.skip ?_ | refine SW.exit ?_ | intro _ | refine And.intro (by omega) ?_) | simp (config := { maxSteps := 1000000 }) (disch := (first | omega | (simp only [go_sem]; try omega))) only [go_sem, Nat.reduceAdd, Nat.reduceEqDiff, Nat.reduceLeDiff, Nat.reduceMul, Nat.reduceLT, reduceIte, Int.reduceToNat, w64_id, cast_succ, d1, d2])
      refine SW.ret ?_; (try simp only [go_sem]); (first | refine FunPost.one ?_ | refine FunPost.two ?_ | refine FunPost.three ?_); (try simp (config := { maxSteps := 1000000 }) (disch := (first | omega | (simp only [go_sem]; try omega))) only [go_sem, Nat.reduceAdd, Nat.reduceEqDiff, Nat.reduceLeDiff, Nat.reduceMul, Nat.reduceLT, reduceIte, Int.reduceToNat, w64_id, cast_succ]); (first | (with_reducible refine GR.drop ?_ ?_; (simp only [go_sem, and_self, and_true, true_and, implies_true, List.take_succ_cons, List.take_zero])) | refine GR.of ?_); refine ⟨?_, rfl⟩; (try with_reducible rfl)
      rfl
theorem ValidGraph_fn (cols : List Int) (es : List (Int × Int)) : PFn Try.prog f_impl_ValidGraph [.agg [ilS cols, ilE es]] (Bv (grB cols es)) := by
  have hac := areColors_fn cols
  have hsz := size_fn cols
  have hbe := fun b => Bel_ilE b es
  intro H; refine ACalls.introB s_impl_ValidGraph (by simp) ?_; intro hB hA; unfold c_impl_ValidGraph; simp (config := { maxSteps := 1000000 }) (disch := (first | omega | (simp only [go_sem]; try omega))) only [go_sem, Nat.reduceAdd, Nat.reduceEqDiff, Nat.reduceLeDiff, Nat.reduceMul, Nat.reduceLT, reduceIte, Int.reduceToNat, w64_id, cast_succ]
  repeat (first | (with_reducible first | refine SW.seq ?_ | refine SW.block ?_ | refine SW.rowC ?_ | refine SW.skip ?_ | refine SW.exit ?_ | intro _ | refine And.intro (by omega) ?_) | simp (config := { maxSteps := 1000000 }) (disch := (first | omega | (simp only [go_sem]; try omega))) only [go_sem, Nat.reduceAdd, Nat.reduceEqDiff, Nat.reduceLeDiff, Nat.reduceMul, Nat.reduceLT, reduceIte, Int.reduceToNat, w64_id, cast_succ])
  refine SW.loopE (fun E0 H0 q E' H' => ∃ (pre post : List (Int × Int)), es = pre ++ post ∧ q = post.length ∧ E' = aput E0 8 (I pre.length) ∧ H' = H ++ [⟨0, tyGr, 1, [ilS cols, ilE es]⟩] ∧ edsB cols.length pre = true) es.length ⟨[], es, rfl, rfl, rfl, rfl, by simp [edsB]⟩ ?_
  rintro q E' H' ⟨pre, post, hq, rfl, rfl, rfl, ha⟩
  simp (config := { maxSteps := 1000000 }) (disch := (first | omega | (simp only [go_sem]; try omega))) only [go_sem, Nat.reduceAdd, Nat.reduceEqDiff, Nat.reduceLeDiff, Nat.reduceMul, Nat.reduceLT, reduceIte, Int.reduceToNat, w64_id, cast_succ]
  repeat (first | (with_reducible first | refine SW.seq ?_ | refine SW.block ?_ | refine SW.rowC ?_ | refine SW.skip ?_ | refine SW.exit ?_ | intro _ | refine And.intro (by omega) ?_) | simp (config := { maxSteps := 1000000 }) (disch := (first | omega | (simp only [go_sem]; try omega))) only [go_sem, Nat.reduceAdd, Nat.reduceEqDiff, Nat.reduceLeDiff, Nat.reduceMul, Nat.reduceLT, reduceIte, Int.reduceToNat, w64_id, cast_succ])
  (first | refine SW.condD rfl (fun h2 => ?_) (fun h2 => ?_) | refine SW.condN rfl (fun h2 => ?_) (fun h2 => ?_) | refine SW.condNB rfl (fun h2 => ?_) (fun h2 => ?_) | refine SW.condB rfl (fun h2 => ?_) (fun h2 => ?_))
  · obtain ⟨x, post, rfl, hg, -⟩ := consOf (d := (0, 0)) hq (by omega)
    have hsn := edsB_snoc (cols.length : Int) pre x ha
    have l1 : ∀ H, acells H 2 (.el (ilE es) (pre.length * 2)) = some [I x.1, I x.2] := fun H => by
      have := (rd_ilE H es).ld (j := pre.length) (by omega)
      rwa [hg] at this
    have bad : edsB cols.length (pre ++ [x]) = false → grB cols es = false := fun h => by
      unfold grB
      rw [show es = (pre ++ [x]) ++ post by rw [hq]; simp, edsB_pre h]; rfl
    have ret : edsB cols.length (pre ++ [x]) = false → GR H (fun r H' => r = Bv (grB cols es) ∧ H' = H) (Bv false) (H ++ [⟨0, tyGr, 1, [ilS cols, ilE es]⟩, ⟨0, tyE, 1, [I x.1, I x.2]⟩]) := fun h => by
      rw [bad h]
      exact GR.froz (froz_B' _) ⟨rfl, rfl⟩
    by_cases c1 : x.1 < 0
    · have d1 : decide (x.1 < 0) = true := decide_eq_true c1
      repeat (first | (with_reducible first | refine SW.seq ?_ | refine SW.block ?_ | refine SW.rowC ?_ | refine SW.skip ?_ | refine SW.exit ?_ | intro _ | refine And.intro (by omega) ?_) | simp (config := { maxSteps := 1000000 }) (disch := (first | omega | (simp only [go_sem]; try omega))) only [go_sem, Nat.reduceAdd, Nat.reduceEqDiff, Nat.reduceLeDiff, Nat.reduceMul, Nat.reduceLT, reduceIte, Int.reduceToNat, w64_id, cast_succ, l1, d1])
      refine SW.condT rfl ?_
      repeat (first | (with_reducible first | refine SW.seq ?_ | refine SW.block ?_ | refine SW.rowC ?_ | refine SW.skip ?_ | refine SW.exit ?_ | intro _ | refine And.intro (by omega) ?_) | simp (config := { maxSteps := 1000000 }) (disch := (first | omega | (simp only [go_sem]; try omega))) only [go_sem, Nat.reduceAdd, Nat.reduceEqDiff, Nat.reduceLeDiff, Nat.reduceMul, Nat.reduceLT, reduceIte, Int.reduceToNat, w64_id, cast_succ])
      refine SW.ret ⟨_, rfl, ret ?_⟩
      rw [hsn]; unfold edB; rw [decide_eq_false (by omega : ¬ 0 ≤ x.1)]; rfl
    have d1 : decide (x.1 < 0) = false := decide_eq_false c1
    by_cases c2 : x.2 ≤ x.1
    · have d2 : decide (x.2 ≤ x.1) = true := decide_eq_true c2
      repeat (first | (with_reducible first | refine SW.seq ?_ | refine SW.block ?_ | refine SW.rowC ?_ | refine SW.skip ?_ | refine SW.exit ?_ | intro _ | refine And.intro (by omega) ?_) | simp (config := { maxSteps := 1000000 }) (disch := (first | omega | (simp only [go_sem]; try omega))) only [go_sem, Nat.reduceAdd, Nat.reduceEqDiff, Nat.reduceLeDiff, Nat.reduceMul, Nat.reduceLT, reduceIte, Int.reduceToNat, w64_id, cast_succ, l1, d1, d2])
      refine SW.condT rfl ?_
      repeat (first | (with_reducible first | refine SW.seq ?_ | refine SW.block ?_ | refine SW.rowC ?_ | refine SW.skip ?_ | refine SW.exit ?_ | intro _ | refine And.intro (by omega) ?_) | simp (config := { maxSteps := 1000000 }) (disch := (first | omega | (simp only [go_sem]; try omega))) only [go_sem, Nat.reduceAdd, Nat.reduceEqDiff, Nat.reduceLeDiff, Nat.reduceMul, Nat.reduceLT, reduceIte, Int.reduceToNat, w64_id, cast_succ])
      refine SW.ret ⟨_, rfl, ret ?_⟩
      rw [hsn]; unfold edB; rw [decide_eq_false (by omega : ¬ x.1 < x.2)]; simp
    have d2 : decide (x.2 ≤ x.1) = false := decide_eq_false c2
    by_cases c3 : (cols.length : Int) ≤ x.2
    · have d3 : decide ((cols.length : Int) ≤ x.2) = true := decide_eq_true c3
      repeat (first | (with_reducible first | refine SW.seq ?_ | refine SW.block ?_ | refine SW.rowC ?_ | refine SW.skip ?_ | refine SW.exit ?_ | refine PFn.use (hsz) ?_ | refine PFn.useq (hsz) ?_ | intro _ | refine And.intro (by omega) ?_) | simp (config := { maxSteps := 1000000 }) (disch := (first | omega | (simp only [go_sem]; try omega))) only [go_sem, Nat.reduceAdd, Nat.reduceEqDiff, Nat.reduceLeDiff, Nat.reduceMul, Nat.reduceLT, reduceIte, Int.reduceToNat, w64_id, cast_succ, l1, d1, d2, d3])
      refine SW.condT rfl ?_
      repeat (first | (with_reducible first | refine SW.seq ?_ | refine SW.block ?_ | refine SW.rowC ?_ | refine SW.skip ?_ | refine SW.exit ?_ | intro _ | refine And.intro (by omega) ?_) | simp (config := { maxSteps := 1000000 }) (disch := (first | omega | (simp only [go_sem]; try omega))) only [go_sem, Nat.reduceAdd, Nat.reduceEqDiff, Nat.reduceLeDiff, Nat.reduceMul, Nat.reduceLT, reduceIte, Int.reduceToNat, w64_id, cast_succ])
      refine SW.ret ⟨_, rfl, ret ?_⟩
      rw [hsn]; unfold edB; rw [decide_eq_false (by omega : ¬ x.2 < (cols.length : Int))]; simp
    have d3 : decide ((cols.length : Int) ≤ x.2) = false := decide_eq_false c3
    have heb : edB cols.length x = true := by
      unfold edB; rw [decide_eq_true (by omega : 0 ≤ x.1), decide_eq_true (by omega : x.1 < x.2), decide_eq_true (by omega : x.2 < (cols.length : Int))]; rfl
    rw [heb, Bool.true_and] at hsn
    by_cases c4 : pre.length = 0
    · have d4 : decide ((0 : Int) < (pre.length : Int)) = false := decide_eq_false (by omega)
      rw [decide_eq_true c4, Bool.true_or] at hsn
      repeat (first | (with_reducible first | refine SW.seq ?_ | refine SW.block ?_ | refine SW.rowC ?_ | refine SW.skip ?_ | refine SW.exit ?_ | refine PFn.use (hsz) ?_ | refine PFn.useq (hsz) ?_ | intro _ | refine And.intro (by omega) ?_) | simp (config := { maxSteps := 1000000 }) (disch := (first | omega | (simp only [go_sem]; try omega))) only [go_sem, Nat.reduceAdd, Nat.reduceEqDiff, Nat.reduceLeDiff, Nat.reduceMul, Nat.reduceLT, reduceIte, Int.reduceToNat, w64_id, cast_succ, l1, d1, d2, d3, d4])
      refine SW.condF rfl ?_
      repeat (first | (with_reducible first | refine SW.seq ?_ | refine SW.block ?_ | refine SW.rowC ?_ | refine SW.skip ?_ | refine SW.exit ?_ | intro _ | refine And.intro (by omega) ?_) | simp (config := { maxSteps := 1000000 }) (disch := (first | omega | (simp only [go_sem]; try omega))) only [go_sem, Nat.reduceAdd, Nat.reduceEqDiff, Nat.reduceLeDiff, Nat.reduceMul, Nat.reduceLT, reduceIte, Int.reduceToNat, w64_id, cast_succ])
      refine SLoop.nextT 1 post.length hB (by omega) (by simp) (by simp) ?_ ?_ ⟨pre ++ [x], post, by simp [hq], rfl, ?_, ?_, hsn⟩
      · (simp only [go_sem, Nat.reduceAdd, Nat.reduceEqDiff, reduceIte, go_sem, and_self, and_true, true_and, implies_true, List.take_succ_cons, List.take_zero, and_true, true_and, hbe]; try omega)
      · (simp only [go_sem, Nat.reduceAdd, Nat.reduceEqDiff, reduceIte, go_sem, and_self, and_true, true_and, implies_true, List.take_succ_cons, List.take_zero, and_true, true_and, hbe]; try omega)
      · simp [go_sem]
      · simp
    · have d4 : decide ((0 : Int) < (pre.length : Int)) = true := decide_eq_true (by omega)
      rw [decide_eq_false c4, Bool.false_or] at hsn
      obtain ⟨r, y, hpr, hgy⟩ := lastOf (d := (0, 0)) hq (by omega)
      have hgy2 : pre.getD (pre.length - 1) (0, 0) = y := by rw [hpr]; simp
      rw [hgy2] at hsn
      have e1 : (pre.length : Int) - 1 = ((pre.length - 1 : Nat) : Int) := by omega
      have l2 : ∀ H, acells H 2 (.el (ilE es) ((pre.length - 1) * 2)) = some [I y.1, I y.2] := fun H => by
        have := (rd_ilE H es).ld (j := pre.length - 1) (by omega)
        rwa [hgy] at this
      have hce := compareEdges_fn y x
      unfold agE at hce
      by_cases c5 : cmpE y x < 0
      · have d5 : decide (0 ≤ cmpE y x) = false := decide_eq_false (by omega)
        rw [decide_eq_true c5] at hsn
        repeat (first | (with_reducible first | refine SW.seq ?_ | refine SW.block ?_ | refine SW.rowC ?_ | refine SW.skip ?_ | refine SW.exit ?_ | refine PFn.use (hsz) ?_ | refine PFn.useq (hsz) ?_ | refine PFn.use (hce) ?_ | refine PFn.useq (hce) ?_ | intro _ | refine And.intro (by omega) ?_) | simp (config := { maxSteps := 1000000 }) (disch := (first | omega | (simp only [go_sem]; try omega))) only [go_sem, Nat.reduceAdd, Nat.reduceEqDiff, Nat.reduceLeDiff, Nat.reduceMul, Nat.reduceLT, reduceIte, Int.reduceToNat, w64_id, cast_succ, l1, d1, d2, d3, d4, d5, e1, l2])
        refine SW.condF rfl ?_
        repeat (first | (with_reducible first | refine SW.seq ?_ | refine SW.block ?_ | refine SW.rowC ?_ | refine SW.skip ?_ | refine SW.exit ?_ | intro _ | refine And.intro (by omega) ?_) | simp (config := { maxSteps := 1000000 }) (disch := (first | omega | (simp only [go_sem]; try omega))) only [go_sem, Nat.reduceAdd, Nat.reduceEqDiff, Nat.reduceLeDiff, Nat.reduceMul, Nat.reduceLT, reduceIte, Int.reduceToNat, w64_id, cast_succ])
        refine SLoop.nextT 1 post.length hB (by omega) (by simp) (by simp) ?_ ?_ ⟨pre ++ [x], post, by simp [hq], rfl, ?_, ?_, hsn⟩
        · (simp only [go_sem, Nat.reduceAdd, Nat.reduceEqDiff, reduceIte, go_sem, and_self, and_true, true_and, implies_true, List.take_succ_cons, List.take_zero, and_true, true_and, hbe]; try omega)
        · (simp only [go_sem, Nat.reduceAdd, Nat.reduceEqDiff, reduceIte, go_sem, and_self, and_true, true_and, implies_true, List.take_succ_cons, List.take_zero, and_true, true_and, hbe]; try omega)
        · simp [go_sem]
        · simp
      · have d5 : decide (0 ≤ cmpE y x) = true := decide_eq_true (by omega)
        rw [decide_eq_false c5] at hsn
        repeat (first | (with_reducible first | refine SW.seq ?_ | refine SW.block ?_ | refine SW.rowC ?_ | refine SW.skip ?_ | refine SW.exit ?_ | refine PFn.use (hsz) ?_ | refine PFn.useq (hsz) ?_ | refine PFn.use (hce) ?_ | refine PFn.useq (hce) ?_ | intro _ | refine And.intro (by omega) ?_) | simp (config := { maxSteps := 1000000 }) (disch := (first | omega | (simp only [go_sem]; try omega))) only [go_sem, Nat.reduceAdd, Nat.reduceEqDiff, Nat.reduceLeDiff, Nat.reduceMul, Nat.reduceLT, reduceIte, Int.reduceToNat, w64_id, cast_succ, l1, d1, d2, d3, d4, d5, e1, l2])
        refine SW.condT rfl ?_
        repeat (first | (with_reducible first | refine SW.seq ?_ | refine SW.block ?_ | refine SW.rowC ?_ | refine SW.skip ?_ | refine SW.exit ?_ | intro _ | refine And.intro (by omega) ?_) | simp (config := { maxSteps := 1000000 }) (disch := (first | omega | (simp only [go_sem]; try omega))) only [go_sem, Nat.reduceAdd, Nat.reduceEqDiff, Nat.reduceLeDiff, Nat.reduceMul, Nat.reduceLT, reduceIte, Int.reduceToNat, w64_id, cast_succ])
        exact SW.ret ⟨_, rfl, ret hsn⟩
  · obtain ⟨rfl, rfl⟩ := nilOf hq (by omega)
    unfold grB
    rw [ha, Bool.true_and]
    cases hcc : colsB cols
    · rw [hcc] at hac
      repeat (first | (with_reducible first | refine SW.seq ?_ | refine SW.block ?_ | refine SW.rowC ?_ | refine SW.skip ?_ | refine SW.exit ?_ | refine PFn.use (hac) ?_ | refine PFn.useq (hac) ?_ | intro _ | refine And.intro (by omega) ?_) | simp (config := { maxSteps := 1000000 }) (disch := (first | omega | (simp only [go_sem]; try omega))) only [go_sem, Nat.reduceAdd, Nat.reduceEqDiff, Nat.reduceLeDiff, Nat.reduceMul, Nat.reduceLT, reduceIte, Int.reduceToNat, w64_id, cast_succ])
      refine SW.ret ?_; (try simp only [go_sem]); (first | refine FunPost.one ?_ | refine FunPost.two ?_ | refine FunPost.three ?_); (try simp (config := { maxSteps := 1000000 }) (disch := (first | omega | (simp only [go_sem]; try omega))) only [go_sem, Nat.reduceAdd, Nat.reduceEqDiff, Nat.reduceLeDiff, Nat.reduceMul, Nat.reduceLT, reduceIte, Int.reduceToNat, w64_id, cast_succ]); (first | (with_reducible refine GR.drop ?_ ?_; (simp only [go_sem, and_self, and_true, true_and, implies_true, List.take_succ_cons, List.take_zero])) | refine GR.of ?_); refine ⟨?_, rfl⟩; (try with_reducible rfl)
    · rw [hcc] at hac
      repeat (first | (with_reducible first | refine SW.seq ?_ | refine SW.block ?_ | refine SW.rowC ?_ | refine SW.skip ?_ | refine SW.exit ?_ | refine PFn.use (hac) ?_ | refine PFn.useq (hac) ?_ | intro _ | refine And.intro (by omega) ?_) | simp (config := { maxSteps := 1000000 }) (disch := (first | omega | (simp only [go_sem]; try omega))) only [go_sem, Nat.reduceAdd, Nat.reduceEqDiff, Nat.reduceLeDiff, Nat.reduceMul, Nat.reduceLT, reduceIte, Int.reduceToNat, w64_id, cast_succ])
      refine SW.ret ?_; (try simp only [go_sem]); (first | refine FunPost.one ?_ | refine FunPost.two ?_ | refine FunPost.three ?_); (try simp (config := { maxSteps := 1000000 }) (disch := (first | omega | (simp only [go_sem]; try omega))) only [go_sem, Nat.reduceAdd, Nat.reduceEqDiff, Nat.reduceLeDiff, Nat.reduceMul, Nat.reduceLT, reduceIte, Int.reduceToNat, w64_id, cast_succ]); (first | (with_reducible refine GR.drop ?_ ?_; (simp only [go_sem, and_self, and_true, true_and, implies_true, List.take_succ_cons, List.take_zero])) | refine GR.of ?_); refine ⟨?_, rfl⟩; (try with_reducible rfl)
      exact congrArg Bv (decide_eq_decide.2 (by omega))
end Go.Proofs.Ytmdeibdplpodpaa
