/- Drawn blocks of points. -/
import Derived.Test.YtnlfokkljgbaaaaProg
import Derived.KernelRfl
import Derived.Test.YtnlfokkljgbaaaazSR
import Derived.Test.YtnlfokkljgbaaaazK38
import Derived.Test.YtnlfokkljgbaaaazG1
import Derived.Test.YtnlfokkljgbaaaazOW
set_option linter.unusedSimpArgs false
set_option linter.unusedVariables false
set_option maxHeartbeats 4000000
set_option maxRecDepth 100000
namespace Go.Proofs.Ytnlfokkljgbaaaa
open Go.Av
abbrev f_spec_l10DrawBlocks : Nat := 48
def c_spec_l10DrawBlocks : SC :=
 .seq (.reg [
     ⟨(some 4), .mv (.const (.slice none 0 0)), none⟩] [0, 1])
 (.seq (.reg [
     ⟨(some 9), .bslice 29 1 0 [] [], none⟩,
     ⟨(some 5), .mv (.tmp 9), none⟩] [0, 1, 5])
 (.seq (.seq (.reg [
     ⟨(some 10), .mv (.tmp 0), none⟩,
     ⟨(some 11), .call 21 [(.tmp 10), (.const (.int .i64 9))], none⟩,
     ⟨(some 6), .mv (.tmp 11), none⟩] [0, 1, 5, 6])
 (.block 0 (.loop [0, 1, 5, 6]
   (.seq (.seq (.reg [
       ⟨(some 12), .mv (.tmp 6), none⟩,
       ⟨(some 13), .bin .gtr (.tmp 12) (.const (.int .i64 0)), none⟩] [0, 1, 5, 6, 13])
   (.cond (.tmp 13)
    (.skip)
    (.exit 0)))
   (.seq (.block 1 (.seq (.reg [
        ⟨(some 16), .mv (.tmp 0), none⟩,
        ⟨(some 17), .mv (.tmp 1), none⟩,
        ⟨(some 18), .call 21 [(.tmp 16), (.tmp 17)], none⟩,
        ⟨(some 19), .bslice 2 1 1 [(.int .i64 0)] [(0, (.tmp 18))], none⟩,
        ⟨(some 7), .mv (.tmp 19), none⟩] [0, 1, 5, 6, 7])
    (.seq (.seq (.reg [
        ⟨(some 20), .mv (.tmp 0), none⟩,
        ⟨(some 21), .call 21 [(.tmp 20), (.const (.int .i64 4))], none⟩,
        ⟨(some 8), .mv (.tmp 21), none⟩] [0, 1, 5, 6, 7, 8])
    (.block 2 (.loop [0, 1, 5, 6, 7, 8]
      (.seq (.seq (.reg [
          ⟨(some 22), .mv (.tmp 8), none⟩,
          ⟨(some 23), .bin .gtr (.tmp 22) (.const (.int .i64 0)), none⟩] [0, 1, 5, 6, 7, 8, 23])
      (.cond (.tmp 23)
       (.skip)
       (.exit 2)))
      (.seq (.block 3 (.reg [
           ⟨(some 26), .mv (.tmp 7), none⟩,
           ⟨(some 27), .mv (.tmp 0), none⟩,
           ⟨(some 28), .mv (.tmp 1), none⟩,
           ⟨(some 29), .call 21 [(.tmp 27), (.tmp 28)], none⟩,
           ⟨(some 30), .call 74 [(.tmp 26), (.tmp 29)], none⟩,
           ⟨(some 7), .mv (.tmp 30), none⟩] [0, 1, 5, 6, 7, 8]))
      (.reg [
          ⟨(some 24), .mv (.tmp 8), none⟩,
          ⟨(some 25), .bin .sub (.tmp 24) (.const (.int .i64 1)), none⟩,
          ⟨(some 8), .mv (.tmp 25), none⟩] [0, 1, 5, 6, 7, 8]))))))
    (.reg [
        ⟨(some 31), .mv (.tmp 5), none⟩,
        ⟨(some 32), .mv (.tmp 7), none⟩,
        ⟨(some 33), .bslice 29 1 1 [(.slice none 0 0)] [(0, (.tmp 32))], none⟩,
        ⟨(some 34), .app 29 1 24 (.tmp 31) (.tmp 33), none⟩,
        ⟨(some 5), .mv (.tmp 34), none⟩] [0, 1, 5, 6]))))
   (.reg [
       ⟨(some 14), .mv (.tmp 6), none⟩,
       ⟨(some 15), .bin .sub (.tmp 14) (.const (.int .i64 1)), none⟩,
       ⟨(some 6), .mv (.tmp 15), none⟩] [0, 1, 5, 6]))))))
 (.seq (.reg [
     ⟨(some 35), .mv (.tmp 5), none⟩,
     ⟨(some 4), .mv (.tmp 35), none⟩] [4])
 (.ret))))
theorem s_spec_l10DrawBlocks : stripF Try.prog 48 [[0, 1], [0, 1, 5], [0, 1, 5, 6], [0, 1, 5, 6], [0, 1, 5, 6, 13], [0, 1, 5, 6, 7], [0, 1, 5, 6, 7, 8], [0, 1, 5, 6, 7, 8], [0, 1, 5, 6, 7, 8, 23], [0, 1, 5, 6, 7, 8], [0, 1, 5, 6, 7, 8], [0, 1, 5, 6], [0, 1, 5, 6], [4]] = some (c_spec_l10DrawBlocks, [.tmp 4], 36) := by kernel_rfl
def rowsD (v : Int) (k m : Nat) (xss : List (List Int)) : Prop := xss.length ≤ m ∧ ∀ x ∈ xss, x.length ≤ k ∧ ∀ z ∈ x, 0 ≤ z ∧ z ≤ v
theorem ext_ofD {H H1 : List Blk} (hl : H.length ≤ H1.length) (hs : ∀ j, j < H.length → H1[j]? = H[j]?) : ∃ ext, H1 = H ++ ext := by
  refine ⟨H1.drop H.length, ?_⟩
  have e : H1.take H.length = H := by
    refine List.ext_getElem? fun j => ?_
    rw [List.getElem?_take]
    split
    · exact hs j (by assumption)
    · rw [List.getElem?_eq_none (by omega)]
  conv => rhs; rw [← e]
  rw [List.length_take, Nat.min_eq_left hl, List.take_append_drop]
theorem grow0 {H : List Blk} {base t ty : Nat} (hb : base ≤ t) (hi : H[t]? = some ⟨0, ty, 1, []⟩) : GrowSS H base ty (.nm t 0 0 0) [] := .inr ⟨t, 0, [], rfl, hb, hi, rfl, by simp, by simp⟩
theorem l10DrawBlocks_ok (H : List Blk) (p : Nat) (code : AV) (ns : List Int) (t : Nat) (u v : Int) (hp : H[p]? = some (srcB code t u)) (hc : CodeOk code ns) (hcb : ∀ k, Bel k code) (ht : t ≤ 800000000) (hv : 0 ≤ v ∧ v ≤ 100) :
    ACalls Try.prog f_spec_l10DrawBlocks [.pc p 0 0, I v] H (fun r H' => ∃ (bl : List (List Int)) (u' : Int) (t' : Nat), r = ilSS bl ∧ rowsD v 4 8 bl ∧ t' ≤ t + 200 ∧ H' = H.set p (srcB code t' u')) := by
  have hlt := (List.getElem?_eq_some_iff.1 hp).1
  have hgp : ∀ t u, (H.set p (srcB code t u))[p]? = some (srcB code t u) := fun t u => List.getElem?_set_self hlt
  have hpp : ∀ t u ext, (H.set p (srcB code t u) ++ ext)[p]? = some (srcB code t u) := fun t u ext => (List.getElem?_append_left (by simpa using hlt)).trans (hgp t u)
  have hset : ∀ t u t' u' (ext : List Blk), (H.set p (srcB code t u) ++ ext).set p (srcB code t' u') = H.set p (srcB code t' u') ++ ext := fun t u t' u' ext => by
    rw [List.set_append_left _ _ (by simpa using hlt), List.set_set]
  have hself : H = H.set p (srcB code t u) := by
    obtain ⟨g1, g2⟩ := List.getElem?_eq_some_iff.1 hp
    rw [← g2]; exact (List.set_getElem_self g1).symm
  have hlS : ∀ t u, (H.set p (srcB code t u)).length = H.length := fun t u => List.length_set
  refine ACalls.introB s_spec_l10DrawBlocks (by simp) ?_; intro hB hA; unfold c_spec_l10DrawBlocks; simp (config := { maxSteps := 1000000 }) (disch := (first | omega | (simp only [go_sem]; try omega))) only [go_sem, Nat.reduceAdd, Nat.reduceEqDiff, Nat.reduceLeDiff, Nat.reduceMul, Nat.reduceLT, reduceIte, Int.reduceToNat, w64_id, cast_succ]
  have hBG := fun t u => HB_set hB (p := p) hcb t u
  repeat (first | (with_reducible first | refine SW.seq ?_ | refine SW.block ?_ | refine SW.rowC ?_ | refine SW.skip ?_ | refine SW.exit ?_ | intro _ | refine And.intro (by omega) ?_) | simp (config := { maxSteps := 1000000 }) (disch := (first | omega | (simp only [go_sem]; try omega))) only [go_sem, Nat.reduceAdd, Nat.reduceEqDiff, Nat.reduceLeDiff, Nat.reduceMul, Nat.reduceLT, reduceIte, Int.reduceToNat, w64_id, cast_succ])
  refine (pick_ok _ p code ns t u 9 (get_appU hp _) hc (by omega)).mono ?_
  rintro r H1 ⟨x, u1, t1, rfl, x0, x1, ht1, rfl⟩
  rw [List.set_append_left _ _ hlt]
  obtain ⟨x, rfl⟩ := Int.eq_ofNat_of_zero_le x0
  have hx8 : x ≤ 8 := by omega
  repeat (first | (with_reducible first | refine SW.seq ?_ | refine SW.block ?_ | refine SW.rowC ?_ | refine SW.skip ?_ | refine SW.exit ?_ | intro _ | refine And.intro (by omega) ?_) | simp (config := { maxSteps := 1000000 }) (disch := (first | omega | (simp only [go_sem]; try omega))) only [go_sem, Nat.reduceAdd, Nat.reduceEqDiff, Nat.reduceLeDiff, Nat.reduceMul, Nat.reduceLT, reduceIte, Int.reduceToNat, w64_id, cast_succ])
  refine SW.loopE (fun E0 H0 q E' Y => ∃ (m t' : Nat) (u : Int) (bl : List (List Int)) (ov : AV) (ext : List Blk), m ≤ 8 ∧ q = m ∧ E' = [(0, .pc p 0 0), (1, I v), (5, ov), (6, I m)] ∧ Y = H.set p (srcB code t' u) ++ ext ∧ GrowSS Y H.length tyLL ov bl ∧ rowsD v 4 (8 - m) bl ∧ t' ≤ t + 2 + (8 - m) * 20) x
    ⟨x, t1, u1, [], _, _, hx8, rfl, rfl, rfl, grow0 (Nat.le_refl _) (by rw [List.getElem?_append_right (by rw [hlS]; exact Nat.le_refl _), hlS, Nat.sub_self]; rfl), ⟨by simp, by simp⟩, by omega⟩ ?_
  rintro q E' Y ⟨m, t2, u2, bl, ov, ext, hm, rfl, rfl, rfl, hg, hbl, ht2⟩
  have hbll := hbl.1
  repeat (first | (with_reducible first | refine SW.seq ?_ | refine SW.block ?_ | refine SW.rowC ?_ | refine SW.skip ?_ | refine SW.exit ?_ | intro _ | refine And.intro (by omega) ?_) | simp (config := { maxSteps := 1000000 }) (disch := (first | omega | (simp only [go_sem]; try omega))) only [go_sem, Nat.reduceAdd, Nat.reduceEqDiff, Nat.reduceLeDiff, Nat.reduceMul, Nat.reduceLT, reduceIte, Int.reduceToNat, w64_id, cast_succ])
  (first | refine SW.condD rfl (fun h2 => ?_) (fun h2 => ?_) | refine SW.condN rfl (fun h2 => ?_) (fun h2 => ?_) | refine SW.condNB rfl (fun h2 => ?_) (fun h2 => ?_) | refine SW.condB rfl (fun h2 => ?_) (fun h2 => ?_))
  · repeat (first | (with_reducible first | refine SW.seq ?_ | refine SW.block ?_ | refine SW.rowC ?_ | refine SW.skip ?_ | refine SW.exit ?_ | intro _ | refine And.intro (by omega) ?_) | simp (config := { maxSteps := 1000000 }) (disch := (first | omega | (simp only [go_sem]; try omega))) only [go_sem, Nat.reduceAdd, Nat.reduceEqDiff, Nat.reduceLeDiff, Nat.reduceMul, Nat.reduceLT, reduceIte, Int.reduceToNat, w64_id, cast_succ])
    refine (pick_ok _ p code ns t2 u2 v (hpp _ _ _) hc (by omega)).mono ?_
    rintro r H1 ⟨y, u3, t3, rfl, y0, y1, ht3, rfl⟩
    rw [hset]
    repeat (first | (with_reducible first | refine SW.seq ?_ | refine SW.block ?_ | refine SW.rowC ?_ | refine SW.skip ?_ | refine SW.exit ?_ | intro _ | refine And.intro (by omega) ?_) | simp (config := { maxSteps := 1000000 }) (disch := (first | omega | (simp only [go_sem]; try omega))) only [go_sem, Nat.reduceAdd, Nat.reduceEqDiff, Nat.reduceLeDiff, Nat.reduceMul, Nat.reduceLT, reduceIte, Int.reduceToNat, w64_id, cast_succ])
    refine (pick_ok _ p code ns t3 u3 4 (hpp _ _ _) hc (by omega)).mono ?_
    rintro r H1 ⟨z, u4, t4, rfl, z0, z1, ht4, rfl⟩
    rw [hset]
    obtain ⟨z, rfl⟩ := Int.eq_ofNat_of_zero_le z0
    have hz3 : z ≤ 3 := by omega
    repeat (first | (with_reducible first | refine SW.seq ?_ | refine SW.block ?_ | refine SW.rowC ?_ | refine SW.skip ?_ | refine SW.exit ?_ | intro _ | refine And.intro (by omega) ?_) | simp (config := { maxSteps := 1000000 }) (disch := (first | omega | (simp only [go_sem]; try omega))) only [go_sem, Nat.reduceAdd, Nat.reduceEqDiff, Nat.reduceLeDiff, Nat.reduceMul, Nat.reduceLT, reduceIte, Int.reduceToNat, w64_id, cast_succ])
    have hgl : (H.set p (srcB code t2 u2) ++ ext).length = H.length + ext.length := by simp
    refine SW.loopE (fun E0 H0 q E' Y => ∃ (k t' : Nat) (u : Int) (s : List Int) (i : Nat) (ext2 : List Blk), k ≤ 3 ∧ q = k ∧ E' = aput (aput E0 8 (I k)) 7 (.nm i 0 0 s.length) ∧ Y = H.set p (srcB code t' u) ++ (ext ++ ext2) ∧ H.length + ext.length ≤ i ∧ Y[i]? = some ⟨0, 2, 1, s.map I⟩ ∧ s.length ≤ 4 - k ∧ (∀ w ∈ s, 0 ≤ w ∧ w ≤ v) ∧ t' ≤ t4 + (3 - k) * 2) z
      ⟨z, t4, u4, [y], H.length + ext.length, [⟨0, 2, 1, [I y]⟩], hz3, rfl, rfl, rfl, Nat.le_refl _, by rw [List.getElem?_append_right (by simp), hlS, Nat.add_sub_cancel_left, List.getElem?_append_right (Nat.le_refl _), Nat.sub_self]; rfl, by simp; omega, by simp; omega, by omega⟩ ?_
    rintro q E' Y ⟨k, t5, u5, s, i, ext2, hk, rfl, rfl, rfl, hi, hib, hsl, hsv, ht5⟩
    simp (config := { maxSteps := 1000000 }) (disch := (first | omega | (simp only [go_sem]; try omega))) only [go_sem, Nat.reduceAdd, Nat.reduceEqDiff, Nat.reduceLeDiff, Nat.reduceMul, Nat.reduceLT, reduceIte, Int.reduceToNat, w64_id, cast_succ]
    repeat (first | (with_reducible first | refine SW.seq ?_ | refine SW.block ?_ | refine SW.rowC ?_ | refine SW.skip ?_ | refine SW.exit ?_ | intro _ | refine And.intro (by omega) ?_) | simp (config := { maxSteps := 1000000 }) (disch := (first | omega | (simp only [go_sem]; try omega))) only [go_sem, Nat.reduceAdd, Nat.reduceEqDiff, Nat.reduceLeDiff, Nat.reduceMul, Nat.reduceLT, reduceIte, Int.reduceToNat, w64_id, cast_succ])
    (first | refine SW.condD rfl (fun h3 => ?_) (fun h3 => ?_) | refine SW.condN rfl (fun h3 => ?_) (fun h3 => ?_) | refine SW.condNB rfl (fun h3 => ?_) (fun h3 => ?_) | refine SW.condB rfl (fun h3 => ?_) (fun h3 => ?_))
    · repeat (first | (with_reducible first | refine SW.seq ?_ | refine SW.block ?_ | refine SW.rowC ?_ | refine SW.skip ?_ | refine SW.exit ?_ | intro _ | refine And.intro (by omega) ?_) | simp (config := { maxSteps := 1000000 }) (disch := (first | omega | (simp only [go_sem]; try omega))) only [go_sem, Nat.reduceAdd, Nat.reduceEqDiff, Nat.reduceLeDiff, Nat.reduceMul, Nat.reduceLT, reduceIte, Int.reduceToNat, w64_id, cast_succ])
      refine (pick_ok _ p code ns t5 u5 v (hpp _ _ _) hc (by omega)).mono ?_
      rintro r H1 ⟨w, u6, t6, rfl, w0, w1, ht6, rfl⟩
      rw [hset]
      have hib2 : (H.set p (srcB code t6 u6) ++ (ext ++ ext2))[i]? = some ⟨0, 2, 1, s.map I⟩ := by
        rw [List.getElem?_append_right (by rw [hlS]; omega)] at hib ⊢
        rw [hlS] at hib ⊢
        exact hib
      repeat (first | (with_reducible first | refine SW.seq ?_ | refine SW.block ?_ | refine SW.rowC ?_ | refine SW.skip ?_ | refine SW.exit ?_ | intro _ | refine And.intro (by omega) ?_) | simp (config := { maxSteps := 1000000 }) (disch := (first | omega | (simp only [go_sem]; try omega))) only [go_sem, Nat.reduceAdd, Nat.reduceEqDiff, Nat.reduceLeDiff, Nat.reduceMul, Nat.reduceLT, reduceIte, Int.reduceToNat, w64_id, cast_succ])
      refine ((l00Put_new s w (by omega)).lend (.cons (froz_rowI (Nat.zero_le _) hib2) (.cons (froz_I' _) .nil))).mono ?_
      rintro r H1 ⟨rfl, rfl⟩
      have hpl := putL_len w s
      repeat (first | (with_reducible first | refine SW.seq ?_ | refine SW.block ?_ | refine SW.rowC ?_ | refine SW.skip ?_ | refine SW.exit ?_ | intro _ | refine And.intro (by omega) ?_) | simp (config := { maxSteps := 1000000 }) (disch := (first | omega | (simp only [go_sem]; try omega))) only [go_sem, Nat.reduceAdd, Nat.reduceEqDiff, Nat.reduceLeDiff, Nat.reduceMul, Nat.reduceLT, reduceIte, Int.reduceToNat, w64_id, cast_succ])
      rw [show (q : Int) - 1 = ((q - 1 : Nat) : Int) by omega]
      refine SLoop.next (q - 1) (by omega) ⟨q - 1, t6, u6, putL w s, _, ext2 ++ [⟨0, 2, 1, (putL w s).map I⟩], by omega, rfl, rfl, by simp, ?_, ?_, by omega, ?_, by omega⟩
      · simp
      · rw [List.getElem?_append_right (by rw [hlS]; omega), hlS, Nat.add_sub_cancel_left, List.getElem?_append_right (by omega), Nat.add_sub_cancel_left, List.getElem?_append_right (Nat.le_refl _), Nat.sub_self]; rfl
      · intro b hb
        rcases (putL_mem w s b).1 hb with hb | rfl
        · exact hsv b hb
        · omega
    · have : q = 0 := by omega
      subst this
      have hv : ∀ c : AV, aview (H.set p (srcB code t5 u5) ++ (ext ++ (ext2 ++ [(⟨0, tyLL, 1, [c]⟩ : Blk)]))) (.nm (H.length + (ext.length + ext2.length)) 0 0 1) = some (1, [c]) := fun c => view_nm (ver := 0) (ty := tyLL) (by rw [List.getElem?_append_right (by rw [hlS]; omega), hlS, Nat.add_sub_cancel_left, List.getElem?_append_right (by omega), Nat.add_sub_cancel_left, List.getElem?_append_right (Nat.le_refl _), Nat.sub_self]; rfl) rfl
      repeat (first | (with_reducible first | refine SW.seq ?_ | refine SW.block ?_ | refine SW.rowC ?_ | refine SW.skip ?_ | refine SW.exit ?_ | intro _ | refine And.intro (by omega) ?_) | simp (config := { maxSteps := 1000000 }) (disch := (first | omega | (simp only [go_sem]; try omega))) only [go_sem, Nat.reduceAdd, Nat.reduceEqDiff, Nat.reduceLeDiff, Nat.reduceMul, Nat.reduceLT, reduceIte, Int.reduceToNat, w64_id, cast_succ, hv])
      refine hg.appG (r := i) (rv := 0) (rty := 2) (xs := s) rfl (by rw [hgl]; omega) (by rw [hgl]; exact hi) (by omega) (fun j b hj hb => ?_) ?_ ?_
      · rw [List.getElem?_append_right (by rw [hlS]; exact hj), hlS] at hb ⊢
        exact get_appU hb _
      · rw [← List.append_assoc, ← List.append_assoc]
        rw [← List.append_assoc] at hib
        exact get_appU hib _
      intro ov' Z g1 g2 g3
      obtain ⟨extZ, rfl⟩ := ext_ofD (H := H.set p (srcB code t5 u5)) (H1 := Z) (by rw [List.length_append] at g2; omega) (fun j hj => by
        rw [hlS] at hj
        rw [g3 j hj, List.getElem?_append_left (by rw [hlS]; exact hj)])
      repeat (first | (with_reducible first | refine SW.seq ?_ | refine SW.block ?_ | refine SW.rowC ?_ | refine SW.skip ?_ | refine SW.exit ?_ | intro _ | refine And.intro (by omega) ?_) | simp (config := { maxSteps := 1000000 }) (disch := (first | omega | (simp only [go_sem]; try omega))) only [go_sem, Nat.reduceAdd, Nat.reduceEqDiff, Nat.reduceLeDiff, Nat.reduceMul, Nat.reduceLT, reduceIte, Int.reduceToNat, w64_id, cast_succ])
      refine SLoop.next (q - 1) (by omega) ⟨q - 1, t5, u5, bl ++ [s], ov', extZ, by omega, rfl, ?_, rfl, g1, ⟨by rw [List.length_append, List.length_singleton]; omega, fun r hr => ?_⟩, by omega⟩
      · rw [show ((q - 1 : Nat) : Int) = (q : Int) - 1 by omega]; rfl
      · rcases List.mem_append.1 hr with hr | hr
        · exact hbl.2 r hr
        · rw [List.mem_singleton.1 hr]
          exact ⟨by omega, hsv⟩
  · have : q = 0 := by omega
    subst this
    repeat (first | (with_reducible first | refine SW.seq ?_ | refine SW.block ?_ | refine SW.rowC ?_ | refine SW.skip ?_ | refine SW.exit ?_ | intro _ | refine And.intro (by omega) ?_) | simp (config := { maxSteps := 1000000 }) (disch := (first | omega | (simp only [go_sem]; try omega))) only [go_sem, Nat.reduceAdd, Nat.reduceEqDiff, Nat.reduceLeDiff, Nat.reduceMul, Nat.reduceLT, reduceIte, Int.reduceToNat, w64_id, cast_succ])
    refine SW.ret ⟨_, rfl, GR.frozH (H0 := H) (H1 := H.set p (srcB code t2 u2)) (r' := ilSS bl) (hlS _ _) (hBG _ _) ((hg.own (Nat.le_refl _)).froz (fun r hr => hr.1)) ⟨bl, u2, t2, rfl, ⟨by omega, hbl.2⟩, by omega, rfl⟩⟩
end Go.Proofs.Ytnlfokkljgbaaaa
