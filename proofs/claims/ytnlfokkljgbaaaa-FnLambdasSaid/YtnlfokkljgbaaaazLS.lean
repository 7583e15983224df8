/- The reference's sorting of lists of rows (frozen). -/
import Derived.Test.YtnlfokkljgbaaaazOW
import Derived.Test.YtnlfokkljgbaaaaProg
import Derived.KernelRfl
import Derived.Test.YtnlfokkljgbaaaazX1
import Derived.Test.YtnlfokkljgbaaaazL7
import Derived.Test.YtnlfokkljgbaaaazK2
import Derived.Test.YtnlfokkljgbaaaazK20
import Derived.Test.YtnlfokkljgbaaaazL1
import Derived.Test.YtnlfokkljgbaaaazNF
set_option linter.unusedSimpArgs false
set_option linter.unusedVariables false
set_option maxHeartbeats 4000000
set_option maxRecDepth 100000
namespace Go.Proofs.Ytnlfokkljgbaaaa
open Go.Av
abbrev f_spec_l10Sort : Nat := 61
def c_spec_l10Sort : SC :=
 .seq (.reg [
     ⟨(some 2), .mv (.const (.slice none 0 0)), none⟩] [0])
 (.seq (.reg [
     ⟨(some 7), .bslice 29 1 0 [] [], none⟩,
     ⟨(some 3), .mv (.tmp 7), none⟩] [0, 3])
 (.seq (.seq (.reg [
     ⟨(some 4), .mv (.const (.int .i64 0)), none⟩] [0, 3, 4])
 (.block 0 (.loop [0, 3, 4]
   (.seq (.seq (.reg [
       ⟨(some 8), .mv (.tmp 4), none⟩,
       ⟨(some 9), .mv (.tmp 0), none⟩,
       ⟨(some 10), .len (.tmp 9), none⟩,
       ⟨(some 11), .bin .lss (.tmp 8) (.tmp 10), none⟩] [0, 3, 4, 11])
   (.cond (.tmp 11)
    (.skip)
    (.exit 0)))
   (.seq (.block 1 (.seq (.reg [
        ⟨(some 14), .mv (.tmp 3), none⟩,
        ⟨(some 15), .len (.tmp 14), none⟩,
        ⟨(some 5), .mv (.tmp 15), none⟩] [0, 3, 4, 5])
    (.seq (.block 2 (.loop [0, 3, 4, 5]
      (.seq (.seq (.reg [
          ⟨(some 16), .mv (.tmp 5), none⟩,
          ⟨(some 17), .bin .gtr (.tmp 16) (.const (.int .i64 0)), none⟩,
          ⟨(some 18), .mv (.tmp 17), none⟩,
          ⟨(some 19), .mv (.tmp 3), (some (18, true))⟩,
          ⟨(some 20), .mv (.tmp 5), (some (18, true))⟩,
          ⟨(some 21), .bin .sub (.tmp 20) (.const (.int .i64 1)), (some (18, true))⟩,
          ⟨(some 22), .iaddr 1 (.tmp 19) (.tmp 21), (some (18, true))⟩,
          ⟨(some 23), .load 1 false (.tmp 22), (some (18, true))⟩,
          ⟨(some 24), .mv (.tmp 0), (some (18, true))⟩,
          ⟨(some 25), .mv (.tmp 4), (some (18, true))⟩,
          ⟨(some 26), .iaddr 1 (.tmp 24) (.tmp 25), (some (18, true))⟩,
          ⟨(some 27), .load 1 false (.tmp 26), (some (18, true))⟩,
          ⟨(some 28), .qcall 87 [(.tmp 23), (.tmp 27)], (some (18, true))⟩,
          ⟨(some 29), .bin .gtr (.tmp 28) (.const (.int .i64 0)), (some (18, true))⟩,
          ⟨(some 30), .pick (.tmp 18) (.tmp 29) (.const (.bool false)), none⟩] [0, 3, 4, 5, 30])
      (.cond (.tmp 30)
       (.skip)
       (.exit 2)))
      (.block 3 (.reg [
           ⟨(some 31), .mv (.tmp 5), none⟩,
           ⟨(some 32), .bin .sub (.tmp 31) (.const (.int .i64 1)), none⟩,
           ⟨(some 5), .mv (.tmp 32), none⟩] [0, 3, 4, 5])))))
    (.seq (.reg [
        ⟨(some 33), .bslice 29 1 0 [] [], none⟩,
        ⟨(some 34), .mv (.tmp 3), none⟩,
        ⟨(some 35), .mv (.tmp 5), none⟩,
        ⟨(some 36), .slc 1 (.tmp 34) none (some (.tmp 35)), none⟩,
        ⟨(some 37), .app 29 1 24 (.tmp 33) (.tmp 36), none⟩,
        ⟨(some 6), .mv (.tmp 37), none⟩] [0, 3, 4, 5, 6])
    (.seq (.reg [
        ⟨(some 38), .mv (.tmp 6), none⟩,
        ⟨(some 39), .mv (.tmp 0), none⟩,
        ⟨(some 40), .mv (.tmp 4), none⟩,
        ⟨(some 41), .iaddr 1 (.tmp 39) (.tmp 40), none⟩,
        ⟨(some 42), .load 1 false (.tmp 41), none⟩,
        ⟨(some 43), .call 88 [(.tmp 42)], none⟩,
        ⟨(some 44), .bslice 29 1 1 [(.slice none 0 0)] [(0, (.tmp 43))], none⟩,
        ⟨(some 45), .app 29 1 24 (.tmp 38) (.tmp 44), none⟩,
        ⟨(some 6), .mv (.tmp 45), none⟩] [0, 3, 4, 5, 6])
    (.reg [
        ⟨(some 46), .mv (.tmp 6), none⟩,
        ⟨(some 47), .mv (.tmp 3), none⟩,
        ⟨(some 48), .mv (.tmp 5), none⟩,
        ⟨(some 49), .slc 1 (.tmp 47) (some (.tmp 48)) none, none⟩,
        ⟨(some 50), .app 29 1 24 (.tmp 46) (.tmp 49), none⟩,
        ⟨(some 3), .mv (.tmp 50), none⟩] [0, 3, 4]))))))
   (.reg [
       ⟨(some 12), .mv (.tmp 4), none⟩,
       ⟨(some 13), .bin .add (.tmp 12) (.const (.int .i64 1)), none⟩,
       ⟨(some 4), .mv (.tmp 13), none⟩] [0, 3, 4]))))))
 (.seq (.reg [
     ⟨(some 51), .mv (.tmp 3), none⟩,
     ⟨(some 2), .mv (.tmp 51), none⟩] [2])
 (.ret))))
theorem s_spec_l10Sort : stripF Try.prog 61 [[0], [0, 3], [0, 3, 4], [0, 3, 4], [0, 3, 4, 11], [0, 3, 4, 5], [0, 3, 4, 5], [0, 3, 4, 5, 30], [0, 3, 4, 5], [0, 3, 4, 5, 6], [0, 3, 4, 5, 6], [0, 3, 4], [0, 3, 4], [2]] = some (c_spec_l10Sort, [.tmp 2], 52) := by kernel_rfl
theorem slcLS {H : List Blk} (K : AV → Prop) (xs : List (List Int)) (z y : Int) (h0 : 0 ≤ z) (h1 : z ≤ y) (h2 : y ≤ xs.length) : SlcG 1 (ilSS xs) z y H K (some (xs.length, xs.map ilS)) = K (ilSS ((xs.drop z.toNat).take (y.toNat - z.toNat))) := by
  unfold ilSS
  rw [SlcG_il (h0 := h0) (h1 := h1) (h2 := h2)]
  simp only [Nat.mul_one, ← List.map_drop, ← List.map_take, List.length_take, List.length_drop]
  rw [show min (y.toNat - z.toNat) (xs.length - z.toNat) = y.toNat - z.toNat by omega]
theorem l00OwnLS_fn (xs : List Int) (hl : xs.length ≤ 2000000) : PFn Try.prog f_spec_l00Own [ilS xs] (ilS xs) := by
  intro H; refine ACalls.introB s_spec_l00Own (by simp) ?_; intro hB hA; unfold c_spec_l00Own; simp (config := { maxSteps := 1000000 }) (disch := (first | omega | (simp only [go_sem]; try omega))) only [go_sem, Nat.reduceAdd, Nat.reduceEqDiff, Nat.reduceLeDiff, Nat.reduceMul, Nat.reduceLT, reduceIte, Int.reduceToNat, w64_id, cast_succ]
  repeat (first | (with_reducible first | refine SW.seq ?_ | refine SW.block ?_ | refine SW.rowC ?_ | refine SW.skip ?_ | refine SW.exit ?_ | intro _ | refine And.intro (by omega) ?_) | simp (config := { maxSteps := 1000000 }) (disch := (first | omega | (simp only [go_sem]; try omega))) only [go_sem, Nat.reduceAdd, Nat.reduceEqDiff, Nat.reduceLeDiff, Nat.reduceMul, Nat.reduceLT, reduceIte, Int.reduceToNat, w64_id, cast_succ])
  refine SW.ret ?_; (try simp only [go_sem]); (first | refine FunPost.one ?_ | refine FunPost.two ?_ | refine FunPost.three ?_); (try simp (config := { maxSteps := 1000000 }) (disch := (first | omega | (simp only [go_sem]; try omega))) only [go_sem, Nat.reduceAdd, Nat.reduceEqDiff, Nat.reduceLeDiff, Nat.reduceMul, Nat.reduceLT, reduceIte, Int.reduceToNat, w64_id, cast_succ])
  exact GR.froz (froz_rowI (r := H.length) (ver := 1) (ty := 2) (Nat.le_refl _) (by simp)) ⟨rfl, rfl⟩
theorem l10SortF_ok (H : List Blk) (a : AV) (xss : List (List Int)) (ha : aview H a = some (xss.length, xss.map ilS)) (hl : xss.length ≤ 1000000) (hr : ∀ x ∈ xss, x.length ≤ 2000000) : ACalls Try.prog f_spec_l10Sort [a] H (fun r H' => r = ilSS (sortD cmpL xss) ∧ H' = H) := by
  have hav : ∀ ext, aview (H ++ ext) a = some (xss.length, xss.map ilS) := fun ext => aview_append ha ext
  refine ACalls.introB s_spec_l10Sort (by simp) ?_; intro hB hA; unfold c_spec_l10Sort; simp (config := { maxSteps := 1000000 }) (disch := (first | omega | (simp only [go_sem]; try omega))) only [go_sem, Nat.reduceAdd, Nat.reduceEqDiff, Nat.reduceLeDiff, Nat.reduceMul, Nat.reduceLT, reduceIte, Int.reduceToNat, w64_id, cast_succ]
  have hab : ∀ k, H.length ≤ k → Bel k a := fun k hk => (hA a (by simp)).mono hk
  repeat (first | (with_reducible first | refine SW.seq ?_ | refine SW.block ?_ | refine SW.rowC ?_ | refine SW.skip ?_ | refine SW.exit ?_ | intro _ | refine And.intro (by omega) ?_) | simp (config := { maxSteps := 1000000 }) (disch := (first | omega | (simp only [go_sem]; try omega))) only [go_sem, Nat.reduceAdd, Nat.reduceEqDiff, Nat.reduceLeDiff, Nat.reduceMul, Nat.reduceLT, reduceIte, Int.reduceToNat, w64_id, cast_succ])
  refine SW.froz (E' := [(0, a), (3, ilSS []), (4, I 0)]) hB (by simp) (.cons _ (.old _ (hab _ (Nat.le_refl _))) (.cons _ ?_ (.cons _ (ren_I _) .nil))) ?_
  · have := ren_rowS (H := H ++ [(⟨0, tyLL, 1, [].map ilS⟩ : Blk)]) (k := H.length) (js := []) (r := H.length) (ver := 0) (ty := tyLL) (xs := []) (by simp) (by simp) (by simp)
    exact this
  refine SW.loopE (fun E0 H0 q E' H' => ∃ (pre post : List (List Int)), xss = pre ++ post ∧ q = post.length ∧ E' = aput (aput E0 4 (I pre.length)) 3 (ilSS (sortD cmpL pre)) ∧ H' = H0) xss.length ⟨[], xss, rfl, rfl, rfl, rfl⟩ ?_
  rintro q E' H' ⟨pre, post, hpp, rfl, rfl, rfl⟩
  have hsd := sortD_fact cmpL_tot pre
  have hord := hsd.2
  have hsl : (sortD cmpL pre).length = pre.length := hsd.1.length_eq
  have hsn := fun y => sortD_snoc (cf := cmpL) pre y
  have hpl : pre.length ≤ 1000000 := by rw [hpp] at hl; simp at hl; omega
  clear hsd
  generalize hL0 : sortD cmpL pre = L at *
  simp (config := { maxSteps := 1000000 }) (disch := (first | omega | (simp only [go_sem]; try omega))) only [go_sem, Nat.reduceAdd, Nat.reduceEqDiff, Nat.reduceLeDiff, Nat.reduceMul, Nat.reduceLT, reduceIte, Int.reduceToNat, w64_id, cast_succ]
  repeat (first | (with_reducible first | refine SW.seq ?_ | refine SW.block ?_ | refine SW.rowC ?_ | refine SW.skip ?_ | refine SW.exit ?_ | intro _ | refine And.intro (by omega) ?_) | simp (config := { maxSteps := 1000000 }) (disch := (first | omega | (simp only [go_sem]; try omega))) only [go_sem, Nat.reduceAdd, Nat.reduceEqDiff, Nat.reduceLeDiff, Nat.reduceMul, Nat.reduceLT, reduceIte, Int.reduceToNat, w64_id, cast_succ, ha, hav])
  (first | refine SW.condD rfl (fun h => ?_) (fun h => ?_) | refine SW.condN rfl (fun h => ?_) (fun h => ?_) | refine SW.condNB rfl (fun h => ?_) (fun h => ?_) | refine SW.condB rfl (fun h => ?_) (fun h => ?_))
  · obtain ⟨y, post, rfl, hg, -⟩ := consOf (d := []) hpp (by omega)
    have hy := hr y (by rw [hpp]; simp)
    repeat (first | (with_reducible first | refine SW.seq ?_ | refine SW.block ?_ | refine SW.rowC ?_ | refine SW.skip ?_ | refine SW.exit ?_ | intro _ | refine And.intro (by omega) ?_) | simp (config := { maxSteps := 1000000 }) (disch := (first | omega | (simp only [go_sem]; try omega))) only [go_sem, Nat.reduceAdd, Nat.reduceEqDiff, Nat.reduceLeDiff, Nat.reduceMul, Nat.reduceLT, reduceIte, Int.reduceToNat, w64_id, cast_succ])
    refine SW.loopE (fun E0 H0 q E' H' => ∃ k : Nat, k ≤ L.length ∧ q = k ∧ E' = aput E0 5 (I k) ∧ H' = H0 ∧ ∀ b ∈ L.drop k, cmpL b y > 0) L.length ⟨L.length, by omega, rfl, rfl, rfl, by simp⟩ ?_
    rintro k E' H' ⟨_, hk, rfl, rfl, rfl, hd⟩
    simp (config := { maxSteps := 1000000 }) (disch := (first | omega | (simp only [go_sem]; try omega))) only [go_sem, Nat.reduceAdd, Nat.reduceEqDiff, Nat.reduceLeDiff, Nat.reduceMul, Nat.reduceLT, reduceIte, Int.reduceToNat, w64_id, cast_succ]
    by_cases hk0 : k = 0
    · have dd : decide ((0 : Int) < (k : Int)) = false := decide_eq_false (by omega)
      repeat (first | (with_reducible first | refine SW.seq ?_ | refine SW.block ?_ | refine SW.rowC ?_ | refine SW.skip ?_ | refine SW.exit ?_ | intro _ | refine And.intro (by omega) ?_) | simp (config := { maxSteps := 1000000 }) (disch := (first | omega | (simp only [go_sem]; try omega))) only [go_sem, Nat.reduceAdd, Nat.reduceEqDiff, Nat.reduceLeDiff, Nat.reduceMul, Nat.reduceLT, reduceIte, Int.reduceToNat, w64_id, cast_succ, ha, hav, dd])
      refine SW.condF rfl ?_
      repeat (first | (with_reducible first | refine SW.seq ?_ | refine SW.block ?_ | refine SW.rowC ?_ | refine SW.skip ?_ | refine SW.exit ?_ | intro _ | refine And.intro (by omega) ?_) | simp (config := { maxSteps := 1000000 }) (disch := (first | omega | (simp only [go_sem]; try omega))) only [go_sem, Nat.reduceAdd, Nat.reduceEqDiff, Nat.reduceLeDiff, Nat.reduceMul, Nat.reduceLT, reduceIte, Int.reduceToNat, w64_id, cast_succ, ha, hav])
      have hpl2 := insD_place cmpL_tot y hord hd (fun d h0 _ => absurd h0 (by omega)) hk
      have htk : (L.take k).length = k := by simp; omega
      have hdk : (L.drop k).length = L.length - k := by simp
      have htd : (L.drop k).take (L.length - k) = L.drop k := List.take_of_length_le (by simp)
      have htm : ((L.take k).map ilS).take k = (L.take k).map ilS := List.take_of_length_le (by simp; omega)
      have hlen : k + 1 + (L.length - k) = (L.take k ++ y :: L.drop k).length := by simp; omega
      repeat (first | (with_reducible first | refine SW.seq ?_ | refine SW.block ?_ | refine SW.rowC ?_ | refine SW.skip ?_ | refine SW.exit ?_ | refine PFn.use (l00OwnLS_fn y hy) ?_ | refine PFn.useq (l00OwnLS_fn y hy) ?_ | intro _ | refine And.intro (by omega) ?_) | simp (config := { maxSteps := 1000000 }) (disch := (first | omega | (simp only [go_sem]; try omega))) only [go_sem, Nat.reduceAdd, Nat.reduceEqDiff, Nat.reduceLeDiff, Nat.reduceMul, Nat.reduceLT, reduceIte, Int.reduceToNat, w64_id, cast_succ, ha, hav, hg, htk, hdk, htd, htm, Option.map_some, Option.map_none, slcLS, List.drop_zero, Int.toNat_natCast, Nat.sub_zero, Int.toNat_zero])
      have htn : (List.map ilS (L.take k ++ [y])).take (k + 1) = List.map ilS (L.take k ++ [y]) := List.take_of_length_le (by simp; omega)
      have hcells : (List.map ilS (L.take k ++ [y])).take (k + 1) ++ List.map ilS (L.drop k) = (L.take k ++ y :: L.drop k).map ilS := by rw [htn]; simp
      rw [hcells, hlen]
      refine SLoop.nextFz post.length [(0, a), (3, ilSS (L.take k ++ y :: L.drop k)), (4, I ((pre.length + 1 : Nat) : Int))] hB (by omega) (by simp) ?_ ⟨pre ++ [y], post, by simp [hpp], rfl, ?_, rfl⟩
      · simp only [go_sem, Nat.reduceEqDiff, reduceIte]
        refine .cons _ (.old _ (hab _ (Nat.le_refl _))) (.cons _ ?_ (.cons _ (ren_I _) .nil))
        rw [show (L.take k).length + ((L.drop k).length + 1) = (L.take k ++ y :: L.drop k).length by simp]
        exact ren_rowS (ver := 3) (ty := tyLL) (Nat.le_refl _) (by simp) (by simp)
      · rw [hsn, hpl2]; simp [go_sem]
    have dd : decide ((0 : Int) < (k : Int)) = true := decide_eq_true (by omega)
    have e1 : (k : Int) - 1 = ((k - 1 : Nat) : Int) := by omega
    by_cases hc : 0 < cmpL (L.getD (k - 1) []) y
    · have dc : decide (0 < cmpL (L.getD (k - 1) []) y) = true := decide_eq_true hc
      repeat (first | (with_reducible first | refine SW.seq ?_ | refine SW.block ?_ | refine SW.rowC ?_ | refine SW.skip ?_ | refine SW.exit ?_ | refine PFn.use (CompareLists_fn _ _) ?_ | refine PFn.useq (CompareLists_fn _ _) ?_ | intro _ | refine And.intro (by omega) ?_) | simp (config := { maxSteps := 1000000 }) (disch := (first | omega | (simp only [go_sem]; try omega))) only [go_sem, Nat.reduceAdd, Nat.reduceEqDiff, Nat.reduceLeDiff, Nat.reduceMul, Nat.reduceLT, reduceIte, Int.reduceToNat, w64_id, cast_succ, ha, hav, dd, e1, hg, dc])
      refine SW.condT rfl ?_
      repeat (first | (with_reducible first | refine SW.seq ?_ | refine SW.block ?_ | refine SW.rowC ?_ | refine SW.skip ?_ | refine SW.exit ?_ | intro _ | refine And.intro (by omega) ?_) | simp (config := { maxSteps := 1000000 }) (disch := (first | omega | (simp only [go_sem]; try omega))) only [go_sem, Nat.reduceAdd, Nat.reduceEqDiff, Nat.reduceLeDiff, Nat.reduceMul, Nat.reduceLT, reduceIte, Int.reduceToNat, w64_id, cast_succ, e1])
      refine SLoop.next (k - 1) (by omega) ⟨k - 1, by omega, rfl, ?_, rfl, ?_⟩
      · simp [go_sem]
      · have hlt : k - 1 < L.length := by omega
        rw [List.drop_eq_getElem_cons hlt]
        intro b hb
        rcases List.mem_cons.1 hb with rfl | hb
        · rw [List.getD_eq_getElem?_getD, List.getElem?_eq_getElem hlt] at hc; exact hc
        · rw [show k - 1 + 1 = k by omega] at hb; exact hd b hb
    · have dc : decide (0 < cmpL (L.getD (k - 1) []) y) = false := decide_eq_false hc
      repeat (first | (with_reducible first | refine SW.seq ?_ | refine SW.block ?_ | refine SW.rowC ?_ | refine SW.skip ?_ | refine SW.exit ?_ | refine PFn.use (CompareLists_fn _ _) ?_ | refine PFn.useq (CompareLists_fn _ _) ?_ | intro _ | refine And.intro (by omega) ?_) | simp (config := { maxSteps := 1000000 }) (disch := (first | omega | (simp only [go_sem]; try omega))) only [go_sem, Nat.reduceAdd, Nat.reduceEqDiff, Nat.reduceLeDiff, Nat.reduceMul, Nat.reduceLT, reduceIte, Int.reduceToNat, w64_id, cast_succ, ha, hav, dd, e1, hg, dc])
      refine SW.condF rfl ?_
      repeat (first | (with_reducible first | refine SW.seq ?_ | refine SW.block ?_ | refine SW.rowC ?_ | refine SW.skip ?_ | refine SW.exit ?_ | intro _ | refine And.intro (by omega) ?_) | simp (config := { maxSteps := 1000000 }) (disch := (first | omega | (simp only [go_sem]; try omega))) only [go_sem, Nat.reduceAdd, Nat.reduceEqDiff, Nat.reduceLeDiff, Nat.reduceMul, Nat.reduceLT, reduceIte, Int.reduceToNat, w64_id, cast_succ, ha, hav])
      have hpl2 := insD_place cmpL_tot y hord hd (fun d h0 _ => by rw [List.getD_eq_getElem?_getD] at hc ⊢; rw [List.getElem?_eq_getElem (by omega)] at hc ⊢; exact hc) hk
      have htk : (L.take k).length = k := by simp; omega
      have hdk : (L.drop k).length = L.length - k := by simp
      have htd : (L.drop k).take (L.length - k) = L.drop k := List.take_of_length_le (by simp)
      have htm : ((L.take k).map ilS).take k = (L.take k).map ilS := List.take_of_length_le (by simp; omega)
      have hlen : k + 1 + (L.length - k) = (L.take k ++ y :: L.drop k).length := by simp; omega
      repeat (first | (with_reducible first | refine SW.seq ?_ | refine SW.block ?_ | refine SW.rowC ?_ | refine SW.skip ?_ | refine SW.exit ?_ | refine PFn.use (l00OwnLS_fn y hy) ?_ | refine PFn.useq (l00OwnLS_fn y hy) ?_ | intro _ | refine And.intro (by omega) ?_) | simp (config := { maxSteps := 1000000 }) (disch := (first | omega | (simp only [go_sem]; try omega))) only [go_sem, Nat.reduceAdd, Nat.reduceEqDiff, Nat.reduceLeDiff, Nat.reduceMul, Nat.reduceLT, reduceIte, Int.reduceToNat, w64_id, cast_succ, ha, hav, hg, htk, hdk, htd, htm, Option.map_some, Option.map_none, slcLS, List.drop_zero, Int.toNat_natCast, Nat.sub_zero, Int.toNat_zero])
      have htn : (List.map ilS (L.take k ++ [y])).take (k + 1) = List.map ilS (L.take k ++ [y]) := List.take_of_length_le (by simp; omega)
      have hcells : (List.map ilS (L.take k ++ [y])).take (k + 1) ++ List.map ilS (L.drop k) = (L.take k ++ y :: L.drop k).map ilS := by rw [htn]; simp
      rw [hcells, hlen]
      refine SLoop.nextFz post.length [(0, a), (3, ilSS (L.take k ++ y :: L.drop k)), (4, I ((pre.length + 1 : Nat) : Int))] hB (by omega) (by simp) ?_ ⟨pre ++ [y], post, by simp [hpp], rfl, ?_, rfl⟩
      · simp only [go_sem, Nat.reduceEqDiff, reduceIte]
        refine .cons _ (.old _ (hab _ (Nat.le_refl _))) (.cons _ ?_ (.cons _ (ren_I _) .nil))
        rw [show (L.take k).length + ((L.drop k).length + 1) = (L.take k ++ y :: L.drop k).length by simp]
        exact ren_rowS (ver := 3) (ty := tyLL) (Nat.le_refl _) (by simp) (by simp)
      · rw [hsn, hpl2]; simp [go_sem]
  · obtain ⟨rfl, rfl⟩ := nilOf hpp (by omega)
    repeat (first | (with_reducible first | refine SW.seq ?_ | refine SW.block ?_ | refine SW.rowC ?_ | refine SW.skip ?_ | refine SW.exit ?_ | intro _ | refine And.intro (by omega) ?_) | simp (config := { maxSteps := 1000000 }) (disch := (first | omega | (simp only [go_sem]; try omega))) only [go_sem, Nat.reduceAdd, Nat.reduceEqDiff, Nat.reduceLeDiff, Nat.reduceMul, Nat.reduceLT, reduceIte, Int.reduceToNat, w64_id, cast_succ])
    refine SW.ret ?_; (try simp only [go_sem]); (first | refine FunPost.one ?_ | refine FunPost.two ?_ | refine FunPost.three ?_); (try simp (config := { maxSteps := 1000000 }) (disch := (first | omega | (simp only [go_sem]; try omega))) only [go_sem, Nat.reduceAdd, Nat.reduceEqDiff, Nat.reduceLeDiff, Nat.reduceMul, Nat.reduceLT, reduceIte, Int.reduceToNat, w64_id, cast_succ]); (first | (with_reducible refine GR.drop ?_ ?_; (simp only [go_sem, and_self, and_true, true_and, implies_true, List.take_succ_cons, List.take_zero])) | refine GR.of ?_); refine ⟨?_, rfl⟩; (try with_reducible rfl)
    rw [hL0]
end Go.Proofs.Ytnlfokkljgbaaaa
namespace Go.Proofs.Ytnlfokkljgbaaaa
open Go.Av
theorem l10Sort_newL (H : List Blk) (a : AV) (xss : List (List Int)) (ha : aview H a = some (xss.length, xss.map ilS)) (hl : xss.length ≤ 1000000) (hr : ∀ x ∈ xss, x.length ≤ 2000000) : ACalls Try.prog f_spec_l10Sort [a] H (fun r H' => ∃ ver, r = .nm H.length ver 0 xss.length ∧ H' = H ++ [⟨ver, tyLL, 1, (sortD cmpL xss).map ilS⟩]) := by
  have hav : ∀ ext, aview (H ++ ext) a = some (xss.length, xss.map ilS) := fun ext => aview_append ha ext
  refine ACalls.introB s_spec_l10Sort (by simp) ?_; intro hB hA; unfold c_spec_l10Sort; simp (config := { maxSteps := 1000000 }) (disch := (first | omega | (simp only [go_sem]; try omega))) only [go_sem, Nat.reduceAdd, Nat.reduceEqDiff, Nat.reduceLeDiff, Nat.reduceMul, Nat.reduceLT, reduceIte, Int.reduceToNat, w64_id, cast_succ]
  have hab : ∀ k, H.length ≤ k → Bel k a := fun k hk => (hA a (by simp)).mono hk
  repeat (first | (with_reducible first | refine SW.seq ?_ | refine SW.block ?_ | refine SW.rowC ?_ | refine SW.skip ?_ | refine SW.exit ?_ | intro _ | refine And.intro (by omega) ?_) | simp (config := { maxSteps := 1000000 }) (disch := (first | omega | (simp only [go_sem]; try omega))) only [go_sem, Nat.reduceAdd, Nat.reduceEqDiff, Nat.reduceLeDiff, Nat.reduceMul, Nat.reduceLT, reduceIte, Int.reduceToNat, w64_id, cast_succ])
  refine SW.loopE (fun E0 H0 q E' H' => ∃ (pre post : List (List Int)) (ver : Nat), xss = pre ++ post ∧ q = post.length ∧ E' = aput (aput E0 4 (I pre.length)) 3 (.nm H.length ver 0 pre.length) ∧ H' = H ++ [⟨ver, tyLL, 1, (sortD cmpL pre).map ilS⟩]) xss.length ⟨[], xss, 0, rfl, rfl, rfl, rfl⟩ ?_
  rintro q E' H' ⟨pre, post, ver, hpp, rfl, rfl, rfl⟩
  have hsd := sortD_fact cmpL_tot pre
  have hord := hsd.2
  have hsl : (sortD cmpL pre).length = pre.length := hsd.1.length_eq
  have hsn := fun y => sortD_snoc (cf := cmpL) pre y
  have hpl : pre.length ≤ 1000000 := by rw [hpp] at hl; simp at hl; omega
  clear hsd
  generalize hL0 : sortD cmpL pre = L at *
  have hfr : Ren (H ++ [(⟨ver, tyLL, 1, L.map ilS⟩ : Blk)]) H.length [] (.nm H.length ver 0 pre.length) (ilSS L) := by
    rw [← hsl]
    exact ren_rowS (H := H ++ [(⟨ver, tyLL, 1, L.map ilS⟩ : Blk)]) (k := H.length) (js := []) (r := H.length) (ver := ver) (ty := tyLL) (xs := L) (by simp) (by simp) (by simp)
  simp (config := { maxSteps := 1000000 }) (disch := (first | omega | (simp only [go_sem]; try omega))) only [go_sem, Nat.reduceAdd, Nat.reduceEqDiff, Nat.reduceLeDiff, Nat.reduceMul, Nat.reduceLT, reduceIte, Int.reduceToNat, w64_id, cast_succ]
  repeat (first | (with_reducible first | refine SW.seq ?_ | refine SW.block ?_ | refine SW.rowC ?_ | refine SW.skip ?_ | refine SW.exit ?_ | intro _ | refine And.intro (by omega) ?_) | simp (config := { maxSteps := 1000000 }) (disch := (first | omega | (simp only [go_sem]; try omega))) only [go_sem, Nat.reduceAdd, Nat.reduceEqDiff, Nat.reduceLeDiff, Nat.reduceMul, Nat.reduceLT, reduceIte, Int.reduceToNat, w64_id, cast_succ, ha, hav])
  (first | refine SW.condD rfl (fun h => ?_) (fun h => ?_) | refine SW.condN rfl (fun h => ?_) (fun h => ?_) | refine SW.condNB rfl (fun h => ?_) (fun h => ?_) | refine SW.condB rfl (fun h => ?_) (fun h => ?_))
  · obtain ⟨y, post, rfl, hg, -⟩ := consOf (d := []) hpp (by omega)
    have hy := hr y (by rw [hpp]; simp)
    refine SW.froz (E' := [(0, a), (3, ilSS L), (4, I (pre.length : Int)), (11, Bv (decide ((pre.length : Int) < xss.length)))]) hB (by simp) (.cons _ (.old _ (hab _ (Nat.le_refl _))) (.cons _ hfr (.cons _ (ren_I _) (.cons _ (ren_B _) .nil)))) ?_
    repeat (first | (with_reducible first | refine SW.seq ?_ | refine SW.block ?_ | refine SW.rowC ?_ | refine SW.skip ?_ | refine SW.exit ?_ | intro _ | refine And.intro (by omega) ?_) | simp (config := { maxSteps := 1000000 }) (disch := (first | omega | (simp only [go_sem]; try omega))) only [go_sem, Nat.reduceAdd, Nat.reduceEqDiff, Nat.reduceLeDiff, Nat.reduceMul, Nat.reduceLT, reduceIte, Int.reduceToNat, w64_id, cast_succ])
    refine SW.loopE (fun E0 H0 q E' H' => ∃ k : Nat, k ≤ L.length ∧ q = k ∧ E' = aput E0 5 (I k) ∧ H' = H0 ∧ ∀ b ∈ L.drop k, cmpL b y > 0) L.length ⟨L.length, by omega, rfl, rfl, rfl, by simp⟩ ?_
    rintro k E' H' ⟨_, hk, rfl, rfl, rfl, hd⟩
    simp (config := { maxSteps := 1000000 }) (disch := (first | omega | (simp only [go_sem]; try omega))) only [go_sem, Nat.reduceAdd, Nat.reduceEqDiff, Nat.reduceLeDiff, Nat.reduceMul, Nat.reduceLT, reduceIte, Int.reduceToNat, w64_id, cast_succ]
    by_cases hk0 : k = 0
    · have dd : decide ((0 : Int) < (k : Int)) = false := decide_eq_false (by omega)
      repeat (first | (with_reducible first | refine SW.seq ?_ | refine SW.block ?_ | refine SW.rowC ?_ | refine SW.skip ?_ | refine SW.exit ?_ | intro _ | refine And.intro (by omega) ?_) | simp (config := { maxSteps := 1000000 }) (disch := (first | omega | (simp only [go_sem]; try omega))) only [go_sem, Nat.reduceAdd, Nat.reduceEqDiff, Nat.reduceLeDiff, Nat.reduceMul, Nat.reduceLT, reduceIte, Int.reduceToNat, w64_id, cast_succ, ha, hav, dd])
      refine SW.condF rfl ?_
      repeat (first | (with_reducible first | refine SW.seq ?_ | refine SW.block ?_ | refine SW.rowC ?_ | refine SW.skip ?_ | refine SW.exit ?_ | intro _ | refine And.intro (by omega) ?_) | simp (config := { maxSteps := 1000000 }) (disch := (first | omega | (simp only [go_sem]; try omega))) only [go_sem, Nat.reduceAdd, Nat.reduceEqDiff, Nat.reduceLeDiff, Nat.reduceMul, Nat.reduceLT, reduceIte, Int.reduceToNat, w64_id, cast_succ, ha, hav])
      have hpl2 := insD_place cmpL_tot y hord hd (fun d h0 _ => absurd h0 (by omega)) hk
      have htk : (L.take k).length = k := by simp; omega
      have hdk : (L.drop k).length = L.length - k := by simp
      have htd : (L.drop k).take (L.length - k) = L.drop k := List.take_of_length_le (by simp)
      have htm : ((L.take k).map ilS).take k = (L.take k).map ilS := List.take_of_length_le (by simp; omega)
      have hlen : k + 1 + (L.length - k) = (L.take k ++ y :: L.drop k).length := by simp; omega
      repeat (first | (with_reducible first | refine SW.seq ?_ | refine SW.block ?_ | refine SW.rowC ?_ | refine SW.skip ?_ | refine SW.exit ?_ | refine PFn.use (l00OwnLS_fn y hy) ?_ | refine PFn.useq (l00OwnLS_fn y hy) ?_ | intro _ | refine And.intro (by omega) ?_) | simp (config := { maxSteps := 1000000 }) (disch := (first | omega | (simp only [go_sem]; try omega))) only [go_sem, Nat.reduceAdd, Nat.reduceEqDiff, Nat.reduceLeDiff, Nat.reduceMul, Nat.reduceLT, reduceIte, Int.reduceToNat, w64_id, cast_succ, ha, hav, hg, htk, hdk, htd, htm, Option.map_some, Option.map_none, slcLS, List.drop_zero, Int.toNat_natCast, Nat.sub_zero, Int.toNat_zero])
      have htn : (List.map ilS (L.take k ++ [y])).take (k + 1) = List.map ilS (L.take k ++ [y]) := List.take_of_length_le (by simp; omega)
      have hcells : (List.map ilS (L.take k ++ [y])).take (k + 1) ++ List.map ilS (L.drop k) = (L.take k ++ y :: L.drop k).map ilS := by rw [htn]; simp
      rw [hcells, hlen]
      refine SLoop.nextT 1 post.length hB (by omega) (by simp) (by simp) ?_ ?_ ⟨pre ++ [y], post, 3, by simp [hpp], rfl, ?_, ?_⟩
      · (simp only [go_sem, Nat.reduceAdd, Nat.reduceEqDiff, reduceIte, go_sem, and_self, and_true, true_and, implies_true, List.take_succ_cons, List.take_zero, and_true, true_and]; try omega)
        exact ⟨hab _ (by omega), by omega⟩
      · (simp only [go_sem, Nat.reduceAdd, Nat.reduceEqDiff, reduceIte, go_sem, and_self, and_true, true_and, implies_true, List.take_succ_cons, List.take_zero, and_true, true_and]; try omega)
      · simp [go_sem]; omega
      · rw [hsn, hpl2]; simp
    have dd : decide ((0 : Int) < (k : Int)) = true := decide_eq_true (by omega)
    have e1 : (k : Int) - 1 = ((k - 1 : Nat) : Int) := by omega
    by_cases hc : 0 < cmpL (L.getD (k - 1) []) y
    · have dc : decide (0 < cmpL (L.getD (k - 1) []) y) = true := decide_eq_true hc
      repeat (first | (with_reducible first | refine SW.seq ?_ | refine SW.block ?_ | refine SW.rowC ?_ | refine SW.skip ?_ | refine SW.exit ?_ | refine PFn.use (CompareLists_fn _ _) ?_ | refine PFn.useq (CompareLists_fn _ _) ?_ | intro _ | refine And.intro (by omega) ?_) | simp (config := { maxSteps := 1000000 }) (disch := (first | omega | (simp only [go_sem]; try omega))) only [go_sem, Nat.reduceAdd, Nat.reduceEqDiff, Nat.reduceLeDiff, Nat.reduceMul, Nat.reduceLT, reduceIte, Int.reduceToNat, w64_id, cast_succ, ha, hav, dd, e1, hg, dc])
      refine SW.condT rfl ?_
      repeat (first | (with_reducible first | refine SW.seq ?_ | refine SW.block ?_ | refine SW.rowC ?_ | refine SW.skip ?_ | refine SW.exit ?_ | intro _ | refine And.intro (by omega) ?_) | simp (config := { maxSteps := 1000000 }) (disch := (first | omega | (simp only [go_sem]; try omega))) only [go_sem, Nat.reduceAdd, Nat.reduceEqDiff, Nat.reduceLeDiff, Nat.reduceMul, Nat.reduceLT, reduceIte, Int.reduceToNat, w64_id, cast_succ, e1])
      refine SLoop.next (k - 1) (by omega) ⟨k - 1, by omega, rfl, ?_, rfl, ?_⟩
      · simp [go_sem]
      · have hlt : k - 1 < L.length := by omega
        rw [List.drop_eq_getElem_cons hlt]
        intro b hb
        rcases List.mem_cons.1 hb with rfl | hb
        · rw [List.getD_eq_getElem?_getD, List.getElem?_eq_getElem hlt] at hc; exact hc
        · rw [show k - 1 + 1 = k by omega] at hb; exact hd b hb
    · have dc : decide (0 < cmpL (L.getD (k - 1) []) y) = false := decide_eq_false hc
      repeat (first | (with_reducible first | refine SW.seq ?_ | refine SW.block ?_ | refine SW.rowC ?_ | refine SW.skip ?_ | refine SW.exit ?_ | refine PFn.use (CompareLists_fn _ _) ?_ | refine PFn.useq (CompareLists_fn _ _) ?_ | intro _ | refine And.intro (by omega) ?_) | simp (config := { maxSteps := 1000000 }) (disch := (first | omega | (simp only [go_sem]; try omega))) only [go_sem, Nat.reduceAdd, Nat.reduceEqDiff, Nat.reduceLeDiff, Nat.reduceMul, Nat.reduceLT, reduceIte, Int.reduceToNat, w64_id, cast_succ, ha, hav, dd, e1, hg, dc])
      refine SW.condF rfl ?_
      repeat (first | (with_reducible first | refine SW.seq ?_ | refine SW.block ?_ | refine SW.rowC ?_ | refine SW.skip ?_ | refine SW.exit ?_ | intro _ | refine And.intro (by omega) ?_) | simp (config := { maxSteps := 1000000 }) (disch := (first | omega | (simp only [go_sem]; try omega))) only [go_sem, Nat.reduceAdd, Nat.reduceEqDiff, Nat.reduceLeDiff, Nat.reduceMul, Nat.reduceLT, reduceIte, Int.reduceToNat, w64_id, cast_succ, ha, hav])
      have hpl2 := insD_place cmpL_tot y hord hd (fun d h0 _ => by rw [List.getD_eq_getElem?_getD] at hc ⊢; rw [List.getElem?_eq_getElem (by omega)] at hc ⊢; exact hc) hk
      have htk : (L.take k).length = k := by simp; omega
      have hdk : (L.drop k).length = L.length - k := by simp
      have htd : (L.drop k).take (L.length - k) = L.drop k := List.take_of_length_le (by simp)
      have htm : ((L.take k).map ilS).take k = (L.take k).map ilS := List.take_of_length_le (by simp; omega)
      have hlen : k + 1 + (L.length - k) = (L.take k ++ y :: L.drop k).length := by simp; omega
      repeat (first | (with_reducible first | refine SW.seq ?_ | refine SW.block ?_ | refine SW.rowC ?_ | refine SW.skip ?_ | refine SW.exit ?_ | refine PFn.use (l00OwnLS_fn y hy) ?_ | refine PFn.useq (l00OwnLS_fn y hy) ?_ | intro _ | refine And.intro (by omega) ?_) | simp (config := { maxSteps := 1000000 }) (disch := (first | omega | (simp only [go_sem]; try omega))) only [go_sem, Nat.reduceAdd, Nat.reduceEqDiff, Nat.reduceLeDiff, Nat.reduceMul, Nat.reduceLT, reduceIte, Int.reduceToNat, w64_id, cast_succ, ha, hav, hg, htk, hdk, htd, htm, Option.map_some, Option.map_none, slcLS, List.drop_zero, Int.toNat_natCast, Nat.sub_zero, Int.toNat_zero])
      have htn : (List.map ilS (L.take k ++ [y])).take (k + 1) = List.map ilS (L.take k ++ [y]) := List.take_of_length_le (by simp; omega)
      have hcells : (List.map ilS (L.take k ++ [y])).take (k + 1) ++ List.map ilS (L.drop k) = (L.take k ++ y :: L.drop k).map ilS := by rw [htn]; simp
      rw [hcells, hlen]
      refine SLoop.nextT 1 post.length hB (by omega) (by simp) (by simp) ?_ ?_ ⟨pre ++ [y], post, 3, by simp [hpp], rfl, ?_, ?_⟩
      · (simp only [go_sem, Nat.reduceAdd, Nat.reduceEqDiff, reduceIte, go_sem, and_self, and_true, true_and, implies_true, List.take_succ_cons, List.take_zero, and_true, true_and]; try omega)
        exact ⟨hab _ (by omega), by omega⟩
      · (simp only [go_sem, Nat.reduceAdd, Nat.reduceEqDiff, reduceIte, go_sem, and_self, and_true, true_and, implies_true, List.take_succ_cons, List.take_zero, and_true, true_and]; try omega)
      · simp [go_sem]; omega
      · rw [hsn, hpl2]; simp
  · obtain ⟨rfl, rfl⟩ := nilOf hpp (by omega)
    repeat (first | (with_reducible first | refine SW.seq ?_ | refine SW.block ?_ | refine SW.rowC ?_ | refine SW.skip ?_ | refine SW.exit ?_ | intro _ | refine And.intro (by omega) ?_) | simp (config := { maxSteps := 1000000 }) (disch := (first | omega | (simp only [go_sem]; try omega))) only [go_sem, Nat.reduceAdd, Nat.reduceEqDiff, Nat.reduceLeDiff, Nat.reduceMul, Nat.reduceLT, reduceIte, Int.reduceToNat, w64_id, cast_succ])
    refine SW.ret ?_; (try simp only [go_sem]); (first | refine FunPost.one ?_ | refine FunPost.two ?_ | refine FunPost.three ?_); (try simp (config := { maxSteps := 1000000 }) (disch := (first | omega | (simp only [go_sem]; try omega))) only [go_sem, Nat.reduceAdd, Nat.reduceEqDiff, Nat.reduceLeDiff, Nat.reduceMul, Nat.reduceLT, reduceIte, Int.reduceToNat, w64_id, cast_succ])
    rw [← hL0]
    exact GR.of ⟨ver, rfl, rfl⟩
end Go.Proofs.Ytnlfokkljgbaaaa
