/- Groups of permutations: the closure in the program. -/
import Derived.Test.YtkifdjjnbplghaaProg
import Derived.KernelRfl
import Derived.Test.YtkifdjjnbplghaaV2
import Derived.Test.YtkifdjjnbplghaaK62
set_option linter.unusedSimpArgs false
set_option linter.unusedVariables false
set_option maxHeartbeats 4000000
set_option maxRecDepth 100000
namespace Go.Proofs.Ytkifdjjnbplghaa
open Go.Av

/-! The abstract code of functions, printed by program and tied to the program by the kernel. -/
/-- loop.example/g00920/impl.closure -/
abbrev f_impl_closure : Nat := 79
def c_impl_closure : SC :=
 .seq (.reg [
     ⟨(some 4), .mv (.const (.slice none 0 0)), none⟩,
     ⟨(some 5), .mv (.const (.bool false)), none⟩] [0, 1])
 (.seq (.reg [
     ⟨(some 13), .mv (.tmp 0), none⟩,
     ⟨(some 14), .call 81 [(.tmp 13)], none⟩,
     ⟨(some 15), .bslice 25 1 1 [(.slice none 0 0)] [(0, (.tmp 14))], none⟩,
     ⟨(some 6), .mv (.tmp 15), none⟩] [1, 6])
 (.seq (.reg [
     ⟨(some 16), .mkmap 107, none⟩,
     ⟨(some 17), .mv (.tmp 6), none⟩,
     ⟨(some 18), .iaddr 1 (.tmp 17) (.const (.int .i64 0)), none⟩,
     ⟨(some 19), .load 1 false (.tmp 18), none⟩,
     ⟨(some 20), .call 100 [(.tmp 19)], none⟩,
     ⟨none, .mput 0 (.tmp 16) (.tmp 20) (.const (.bool true)), none⟩,
     ⟨(some 21), .mv (.tmp 16), none⟩,
     ⟨(some 7), .mv (.tmp 21), none⟩] [1, 6, 7])
 (.seq (.seq (.reg [
     ⟨(some 8), .mv (.const (.int .i64 0)), none⟩] [1, 6, 7, 8])
 (.block 0 (.loop [1, 6, 7, 8]
   (.seq (.seq (.reg [
       ⟨(some 22), .mv (.tmp 8), none⟩,
       ⟨(some 23), .mv (.tmp 6), none⟩,
       ⟨(some 24), .len (.tmp 23), none⟩,
       ⟨(some 25), .bin .lss (.tmp 22) (.tmp 24), none⟩] [1, 6, 7, 8, 25])
   (.cond (.tmp 25)
    (.skip)
    (.exit 0)))
   (.seq (.block 1 (.seq (.seq (.reg [
        ⟨(some 28), .mv (.tmp 1), none⟩,
        ⟨(some 29), .len (.tmp 28), none⟩,
        ⟨(some 30), .mv (.const (.int .i64 0)), none⟩] [1, 6, 7, 8, 28, 29, 30])
    (.block 2 (.loop [1, 6, 7, 8, 28, 29, 30]
      (.seq (.reg [
          ⟨(some 31), .bin .lss (.tmp 30) (.tmp 29), none⟩] [1, 6, 7, 8, 28, 29, 30, 31])
      (.seq (.cond (.tmp 31)
       (.skip)
       (.exit 2))
      (.seq (.block 3 (.seq (.reg [
           ⟨(some 32), .iaddr 1 (.tmp 28) (.tmp 30), none⟩,
           ⟨(some 33), .load 1 false (.tmp 32), none⟩,
           ⟨(some 10), .mv (.tmp 33), none⟩] [1, 6, 7, 8, 10, 28, 29, 30])
       (.seq (.reg [
           ⟨(some 34), .mv (.tmp 6), none⟩,
           ⟨(some 35), .mv (.tmp 8), none⟩,
           ⟨(some 36), .iaddr 1 (.tmp 34) (.tmp 35), none⟩,
           ⟨(some 37), .load 1 false (.tmp 36), none⟩,
           ⟨(some 38), .mv (.tmp 10), none⟩,
           ⟨(some 39), .call 101 [(.tmp 37), (.tmp 38)], none⟩,
           ⟨(some 11), .mv (.tmp 39), none⟩] [1, 6, 7, 8, 11, 28, 29, 30])
       (.seq (.reg [
           ⟨(some 40), .mv (.tmp 11), none⟩,
           ⟨(some 41), .call 100 [(.tmp 40)], none⟩,
           ⟨(some 12), .mv (.tmp 41), none⟩] [1, 6, 7, 8, 11, 12, 28, 29, 30])
       (.seq (.reg [
           ⟨(some 42), .mv (.tmp 7), none⟩,
           ⟨(some 43), .mv (.tmp 12), none⟩,
           ⟨(some 44), .mget 0 (.bool false) (.tmp 42) (.tmp 43), none⟩,
           ⟨(some 45), .un .not (.tmp 44), none⟩] [1, 6, 7, 8, 11, 12, 28, 29, 30, 45])
       (.cond (.tmp 45)
        (.seq (.reg [
            ⟨(some 46), .mv (.tmp 7), none⟩,
            ⟨(some 47), .mv (.tmp 12), none⟩,
            ⟨none, .mput 0 (.tmp 46) (.tmp 47) (.const (.bool true)), none⟩] [1, 6, 7, 8, 11, 28, 29, 30])
        (.reg [
            ⟨(some 48), .mv (.tmp 6), none⟩,
            ⟨(some 49), .mv (.tmp 11), none⟩,
            ⟨(some 50), .bslice 25 1 1 [(.slice none 0 0)] [(0, (.tmp 49))], none⟩,
            ⟨(some 51), .app 25 1 24 (.tmp 48) (.tmp 50), none⟩,
            ⟨(some 6), .mv (.tmp 51), none⟩] [1, 6, 7, 8, 28, 29, 30]))
        (.skip)))))))
      (.reg [
          ⟨(some 52), .bin .add (.tmp 30) (.const (.int .i64 1)), none⟩,
          ⟨(some 30), .mv (.tmp 52), none⟩] [1, 6, 7, 8, 28, 29, 30])))))))
    (.seq (.reg [
        ⟨(some 53), .mv (.tmp 6), none⟩,
        ⟨(some 54), .len (.tmp 53), none⟩,
        ⟨(some 55), .bin .gtr (.tmp 54) (.const (.int .i64 720)), none⟩] [1, 6, 7, 8, 55])
    (.cond (.tmp 55)
     (.seq (.reg [
         ⟨(some 4), .mv (.const (.slice none 0 0)), none⟩,
         ⟨(some 5), .mv (.const (.bool false)), none⟩] [4, 5])
     (.ret))
     (.skip)))))
   (.reg [
       ⟨(some 26), .mv (.tmp 8), none⟩,
       ⟨(some 27), .bin .add (.tmp 26) (.const (.int .i64 1)), none⟩,
       ⟨(some 8), .mv (.tmp 27), none⟩] [1, 6, 7, 8]))))))
 (.seq (.reg [
     ⟨(some 56), .mv (.tmp 6), none⟩,
     ⟨(some 57), .call 54 [(.tmp 56), (.func 55)], none⟩] [6])
 (.seq (.reg [
     ⟨(some 58), .mv (.tmp 6), none⟩,
     ⟨(some 4), .mv (.tmp 58), none⟩,
     ⟨(some 5), .mv (.const (.bool true)), none⟩] [4, 5])
 (.ret))))))
theorem s_impl_closure : stripF Try.prog 79 [[0, 1], [1, 6], [1, 6, 7], [1, 6, 7, 8], [1, 6, 7, 8], [1, 6, 7, 8, 25], [1, 6, 7, 8, 28, 29, 30], [1, 6, 7, 8, 28, 29, 30], [1, 6, 7, 8, 28, 29, 30, 31], [1, 6, 7, 8, 10, 28, 29, 30], [1, 6, 7, 8, 11, 28, 29, 30], [1, 6, 7, 8, 11, 12, 28, 29, 30], [1, 6, 7, 8, 11, 12, 28, 29, 30, 45], [1, 6, 7, 8, 11, 28, 29, 30], [1, 6, 7, 8, 28, 29, 30], [1, 6, 7, 8, 28, 29, 30], [1, 6, 7, 8, 55], [4, 5], [1, 6, 7, 8], [6], [4, 5]] = some (c_impl_closure, [.tmp 4, .tmp 5], 59) := by kernel_rfl


theorem mapC_bel {ps : List (MK × Value)} {c : AV} {k : Nat} (h : c ∈ mapC ps) : Bel k c := by
  obtain ⟨x, _, h⟩ := List.mem_flatMap.1 h
  simp only [List.mem_cons, List.not_mem_nil, or_false] at h
  rcases h with rfl | rfl <;> exact .lit _
theorem froz_rowsS {H : List Blk} {b r ver ty : Nat} {xss : List (List Int)} (hb : b ≤ r) (hr : H[r]? = some ⟨ver, ty, 1, xss.map ilS⟩) : Froz H b (.nm r ver 0 xss.length) (ilSS xss) := by
  have hc : (((xss.map ilS).drop 0).take (xss.length * 1)) = xss.map ilS := by rw [List.drop_zero]; exact List.take_of_length_le (by simp)
  refine .nm r ver 0 xss.length _ _ hb hr rfl (by simp only [hc]) ?_
  intro j c c' h1 h2
  simp only [hc] at h1
  rw [h1] at h2; cases h2
  obtain ⟨x, _, rfl⟩ := List.mem_map.1 (List.mem_of_getElem? h1)
  exact .old _ (by rw [Bel_ilS]; trivial)
noncomputable def closAV : Option (List (List Int)) → AV
  | some L => .tup [ilSS L, Bv true]
  | none => .tup [ilSS [], Bv false]

theorem closure_ok (H : List Blk) (n : Nat) (a : AV) (gs : List (List Int)) (hn1 : 1 ≤ n) (hn : n ≤ 32) (ha : aview H a = some (gs.length, gs.map ilS)) (hg : ∀ g ∈ gs, permOk n g) (hgl : gs.length ≤ 1000000) :
    ACalls Try.prog f_impl_closure [I n, a] H (fun r H' => r = closAV (genL n gs 720) ∧ H' = H) := by
  have hav : ∀ ext, aview (H ++ ext) a = some (gs.length, gs.map ilS) := fun ext => aview_append ha ext
  have h1l : (idL n).length = n := by simp [idL, tab]
  refine ACalls.introB s_impl_closure (by simp) ?_; intro hB hA; unfold c_impl_closure; simp (config := { maxSteps := 1000000 }) (disch := (first | omega | (simp only [go_sem]; try omega))) only [go_sem, Nat.reduceAdd, Nat.reduceEqDiff, Nat.reduceLeDiff, Nat.reduceMul, Nat.reduceLT, reduceIte, Int.reduceToNat, w64_id, cast_succ]
  have hab : Bel H.length a := hA a (by simp)
  have hid := idL_ok n
  have hk1 := keyOf_fn (idL n) (by omega)
  have hi1 := identity_fn n (by omega)
  repeat (first | (with_reducible first | refine SW.seq ?_ | refine SW.block ?_ | refine SW.rowC ?_ | refine SW.skip ?_ | refine SW.exit ?_ | refine PFn.use (hi1) ?_ | refine PFn.useq (hi1) ?_ | refine PFn.use (hk1) ?_ | refine PFn.useq (hk1) ?_ | intro _ | refine And.intro (by omega) ?_) | simp (config := { maxSteps := 1000000 }) (disch := (first | omega | (simp only [go_sem]; try omega))) only [go_sem, Nat.reduceAdd, Nat.reduceEqDiff, Nat.reduceLeDiff, Nat.reduceMul, Nat.reduceLT, reduceIte, Int.reduceToNat, w64_id, cast_succ])
  refine MputW.of _ _ (ty := 107) (ps := []) (key := .s (keyS (idL n))) (by simp; rfl) rfl rfl (by simp) (by simp) ?_
  repeat (first | (with_reducible first | refine SW.seq ?_ | refine SW.block ?_ | refine SW.rowC ?_ | refine SW.skip ?_ | refine SW.exit ?_ | intro _ | refine And.intro (by omega) ?_) | simp (config := { maxSteps := 1000000 }) (disch := (first | omega | (simp only [go_sem]; try omega))) only [go_sem, Nat.reduceAdd, Nat.reduceEqDiff, Nat.reduceLeDiff, Nat.reduceMul, Nat.reduceLT, reduceIte, Int.reduceToNat, w64_id, cast_succ])
  refine SW.loopE (fun E0 H0 q E' H' => ∃ (L : List (List Int)) (k ver : Nat), k ≤ L.length ∧ L.length ≤ 720 ∧ q = 721 - k ∧ E' = aput (aput E0 8 (I k)) 6 (.nm H.length ver 0 L.length) ∧ H' = H ++ [⟨ver, tyLL, 1, L.map ilS⟩, ⟨0, 107, 0, mapC (seenM L)⟩] ∧ L.Nodup ∧ (∀ p ∈ L, Gen n gs p) ∧ idL n ∈ L ∧ ∀ j, j < k → ∀ g ∈ gs, mul (L.getD j []) g ∈ L) 721 ⟨[idL n], 0, 0, by simp, by simp, by omega, rfl, ?_, by simp, by simpa using Gen.one, by simp, by omega⟩ ?_
  · simp [seenM]
  rintro q E' H' ⟨L, k, ver, hk, hLl, rfl, rfl, rfl, hnd, hgen, hone, hcl⟩
  simp (config := { maxSteps := 1000000 }) (disch := (first | omega | (simp only [go_sem]; try omega))) only [go_sem, Nat.reduceAdd, Nat.reduceEqDiff, Nat.reduceLeDiff, Nat.reduceMul, Nat.reduceLT, reduceIte, Int.reduceToNat, w64_id, cast_succ]
  repeat (first | (with_reducible first | refine SW.seq ?_ | refine SW.block ?_ | refine SW.rowC ?_ | refine SW.skip ?_ | refine SW.exit ?_ | intro _ | refine And.intro (by omega) ?_) | simp (config := { maxSteps := 1000000 }) (disch := (first | omega | (simp only [go_sem]; try omega))) only [go_sem, Nat.reduceAdd, Nat.reduceEqDiff, Nat.reduceLeDiff, Nat.reduceMul, Nat.reduceLT, reduceIte, Int.reduceToNat, w64_id, cast_succ])
  (first | refine SW.condD rfl (fun h2 => ?_) (fun h2 => ?_) | refine SW.condN rfl (fun h2 => ?_) (fun h2 => ?_) | refine SW.condNB rfl (fun h2 => ?_) (fun h2 => ?_) | refine SW.condB rfl (fun h2 => ?_) (fun h2 => ?_))
  · have hklt : k < L.length := by omega
    have hLk : permOk n (L.getD k []) := (hgen _ (by rw [List.getD_eq_getElem?_getD, List.getElem?_eq_getElem hklt]; exact List.getElem_mem _)).ok hg
    repeat (first | (with_reducible first | refine SW.seq ?_ | refine SW.block ?_ | refine SW.rowC ?_ | refine SW.skip ?_ | refine SW.exit ?_ | intro _ | refine And.intro (by omega) ?_) | simp (config := { maxSteps := 1000000 }) (disch := (first | omega | (simp only [go_sem]; try omega))) only [go_sem, Nat.reduceAdd, Nat.reduceEqDiff, Nat.reduceLeDiff, Nat.reduceMul, Nat.reduceLT, reduceIte, Int.reduceToNat, w64_id, cast_succ, hav])
    refine SW.loopE (fun E0 H0 q E' H' => ∃ (L2 pre post : List (List Int)) (ver : Nat), gs = pre ++ post ∧ q = post.length ∧ E' = aput (aput E0 30 (I pre.length)) 6 (.nm H.length ver 0 L2.length) ∧ H' = H ++ [⟨ver, tyLL, 1, L2.map ilS⟩, ⟨0, 107, 0, mapC (seenM L2)⟩] ∧ L2.Nodup ∧ (∀ p ∈ L2, Gen n gs p) ∧ (∃ M, L2 = L ++ M) ∧ L2.length ≤ 720 + pre.length ∧ ∀ g ∈ pre, mul (L.getD k []) g ∈ L2) gs.length ⟨L, [], gs, ver, rfl, rfl, rfl, rfl, hnd, hgen, ⟨[], by simp⟩, by omega, by simp⟩ ?_
    rintro q E' H' ⟨L2, pre, post, ver, hgp, rfl, rfl, rfl, hnd2, hgen2, ⟨M, hLM⟩, hl2, hpre⟩
    have hkL2 : L2.getD k [] = L.getD k [] := by
      rw [hLM, List.getD_eq_getElem?_getD, List.getD_eq_getElem?_getD, List.getElem?_append_left hklt]
    have hL2l : L.length ≤ L2.length := by rw [hLM]; simp
    have hprel : pre.length ≤ 1000000 := by rw [hgp] at hgl; simp at hgl; omega
    simp (config := { maxSteps := 1000000 }) (disch := (first | omega | (simp only [go_sem]; try omega))) only [go_sem, Nat.reduceAdd, Nat.reduceEqDiff, Nat.reduceLeDiff, Nat.reduceMul, Nat.reduceLT, reduceIte, Int.reduceToNat, w64_id, cast_succ]
    repeat (first | (with_reducible first | refine SW.seq ?_ | refine SW.block ?_ | refine SW.rowC ?_ | refine SW.skip ?_ | refine SW.exit ?_ | intro _ | refine And.intro (by omega) ?_) | simp (config := { maxSteps := 1000000 }) (disch := (first | omega | (simp only [go_sem]; try omega))) only [go_sem, Nat.reduceAdd, Nat.reduceEqDiff, Nat.reduceLeDiff, Nat.reduceMul, Nat.reduceLT, reduceIte, Int.reduceToNat, w64_id, cast_succ, hav])
    (first | refine SW.condD rfl (fun h3 => ?_) (fun h3 => ?_) | refine SW.condN rfl (fun h3 => ?_) (fun h3 => ?_) | refine SW.condNB rfl (fun h3 => ?_) (fun h3 => ?_) | refine SW.condB rfl (fun h3 => ?_) (fun h3 => ?_))
    · obtain ⟨g, post, rfl, hgg, -⟩ := consOf (d := []) hgp (by omega)
      have hgm : g ∈ gs := by rw [hgp]; simp
      have hcm := compose_fn n (L.getD k []) g (by omega) hLk (hg g hgm)
      have hmo := mul_ok hLk (hg g hgm)
      have hky := keyOf_fn (mul (L.getD k []) g) (by rw [hmo.1]; omega)
      have hgs : Gen n gs (mul (L.getD k []) g) := .step _ g hgm (hgen _ (by rw [List.getD_eq_getElem?_getD, List.getElem?_eq_getElem hklt]; exact List.getElem_mem _))
      generalize hm : mul (L.getD k []) g = p at *
      have hL2ok : ∀ q ∈ L2, permOk n q := fun q hq => (hgen2 q hq).ok hg
      have hmv := seenM_val (n := n) (by omega) hL2ok hmo
      repeat (first | (with_reducible first | refine SW.seq ?_ | refine SW.block ?_ | refine SW.rowC ?_ | refine SW.skip ?_ | refine SW.exit ?_ | refine PFn.use (hcm) ?_ | refine PFn.useq (hcm) ?_ | refine PFn.use (hky) ?_ | refine PFn.useq (hky) ?_ | intro _ | refine And.intro (by omega) ?_) | simp (config := { maxSteps := 1000000 }) (disch := (first | omega | (simp only [go_sem]; try omega))) only [go_sem, Nat.reduceAdd, Nat.reduceEqDiff, Nat.reduceLeDiff, Nat.reduceMul, Nat.reduceLT, reduceIte, Int.reduceToNat, w64_id, cast_succ, hav, hgg, hkL2])
      refine MgetW.of _ _ (ty := 107) (ps := seenM L2) (key := .s (keyS p)) (by simp) rfl rfl (seenM_kind _) ?_
      rw [hmv]
      by_cases hpm : p ∈ L2
      · rw [decide_eq_true hpm]
        repeat (first | (with_reducible first | refine SW.seq ?_ | refine SW.block ?_ | refine SW.rowC ?_ | refine SW.skip ?_ | refine SW.exit ?_ | intro _ | refine And.intro (by omega) ?_) | simp (config := { maxSteps := 1000000 }) (disch := (first | omega | (simp only [go_sem]; try omega))) only [go_sem, Nat.reduceAdd, Nat.reduceEqDiff, Nat.reduceLeDiff, Nat.reduceMul, Nat.reduceLT, reduceIte, Int.reduceToNat, w64_id, cast_succ])
        refine SW.condF rfl ?_
        repeat (first | (with_reducible first | refine SW.seq ?_ | refine SW.block ?_ | refine SW.rowC ?_ | refine SW.skip ?_ | refine SW.exit ?_ | intro _ | refine And.intro (by omega) ?_) | simp (config := { maxSteps := 1000000 }) (disch := (first | omega | (simp only [go_sem]; try omega))) only [go_sem, Nat.reduceAdd, Nat.reduceEqDiff, Nat.reduceLeDiff, Nat.reduceMul, Nat.reduceLT, reduceIte, Int.reduceToNat, w64_id, cast_succ])
        refine SLoop.next post.length (by simp) ⟨L2, pre ++ [g], post, ver, by simp [hgp], rfl, by simp [go_sem], rfl, hnd2, hgen2, ⟨M, hLM⟩, by simp; omega, ?_⟩
        intro g' hg'
        rcases List.mem_append.1 hg' with h | h
        · exact hpre g' h
        · rw [List.mem_singleton.1 h, hm]; exact hpm
      · rw [decide_eq_false hpm]
        repeat (first | (with_reducible first | refine SW.seq ?_ | refine SW.block ?_ | refine SW.rowC ?_ | refine SW.skip ?_ | refine SW.exit ?_ | intro _ | refine And.intro (by omega) ?_) | simp (config := { maxSteps := 1000000 }) (disch := (first | omega | (simp only [go_sem]; try omega))) only [go_sem, Nat.reduceAdd, Nat.reduceEqDiff, Nat.reduceLeDiff, Nat.reduceMul, Nat.reduceLT, reduceIte, Int.reduceToNat, w64_id, cast_succ])
        refine SW.condT rfl ?_
        repeat (first | (with_reducible first | refine SW.seq ?_ | refine SW.block ?_ | refine SW.rowC ?_ | refine SW.skip ?_ | refine SW.exit ?_ | intro _ | refine And.intro (by omega) ?_) | simp (config := { maxSteps := 1000000 }) (disch := (first | omega | (simp only [go_sem]; try omega))) only [go_sem, Nat.reduceAdd, Nat.reduceEqDiff, Nat.reduceLeDiff, Nat.reduceMul, Nat.reduceLT, reduceIte, Int.reduceToNat, w64_id, cast_succ])
        refine MputW.of _ _ (ty := 107) (ps := seenM L2) (key := .s (keyS p)) (by simp) rfl rfl (seenM_kind _) (seenM_new (n := n) (by omega) hL2ok hmo hpm) ?_
        have htl : (L2.map ilS).take L2.length = L2.map ilS := List.take_of_length_le (by simp)
        repeat (first | (with_reducible first | refine SW.seq ?_ | refine SW.block ?_ | refine SW.rowC ?_ | refine SW.skip ?_ | refine SW.exit ?_ | intro _ | refine And.intro (by omega) ?_) | simp (config := { maxSteps := 1000000 }) (disch := (first | omega | (simp only [go_sem]; try omega))) only [go_sem, Nat.reduceAdd, Nat.reduceEqDiff, Nat.reduceLeDiff, Nat.reduceMul, Nat.reduceLT, reduceIte, Int.reduceToNat, w64_id, cast_succ, htl])
        refine SLoop.nextT 2 post.length hB (by omega) (by simp) (by simp) ?_ ?_ ⟨L2 ++ [p], pre ++ [g], post, ver + 1, by simp [hgp], rfl, ?_, ?_, ?_, ?_, ⟨M ++ [p], by rw [hLM]; simp⟩, by simp; omega, ?_⟩
        · have hab2 := hab.mono (show H.length ≤ H.length + 2 by omega)
          (simp only [go_sem, Nat.reduceAdd, Nat.reduceEqDiff, reduceIte, go_sem, and_self, and_true, true_and, implies_true, List.take_succ_cons, List.take_zero, and_true, true_and, hab2]; try omega)
        · simp only [List.take_succ_cons, List.take_zero, BB_cons, BB_nil, and_true]
          refine ⟨fun c hc => ?_, fun c hc => ?_⟩
          · obtain ⟨x, _, rfl⟩ := List.mem_map.1 hc
            rw [Bel_ilS]; trivial
          · exact mapC_bel hc
        · simp [go_sem]
        · simp [seenM_snoc]
        · rw [List.nodup_append]
          refine ⟨hnd2, by simp, fun a h1 b h2 => ?_⟩
          rw [List.mem_singleton.1 h2]
          rintro rfl
          exact hpm h1
        · intro q hq
          rcases List.mem_append.1 hq with h | h
          · exact hgen2 q h
          · rw [List.mem_singleton.1 h]; exact hgs
        · intro g' hg'
          rcases List.mem_append.1 hg' with h | h
          · exact List.mem_append_left _ (hpre g' h)
          · rw [List.mem_singleton.1 h, hm]; simp
    · obtain ⟨rfl, rfl⟩ := nilOf hgp (by omega)
      repeat (first | (with_reducible first | refine SW.seq ?_ | refine SW.block ?_ | refine SW.rowC ?_ | refine SW.skip ?_ | refine SW.exit ?_ | intro _ | refine And.intro (by omega) ?_) | simp (config := { maxSteps := 1000000 }) (disch := (first | omega | (simp only [go_sem]; try omega))) only [go_sem, Nat.reduceAdd, Nat.reduceEqDiff, Nat.reduceLeDiff, Nat.reduceMul, Nat.reduceLT, reduceIte, Int.reduceToNat, w64_id, cast_succ])
      (first | refine SW.condD rfl (fun h4 => ?_) (fun h4 => ?_) | refine SW.condN rfl (fun h4 => ?_) (fun h4 => ?_) | refine SW.condNB rfl (fun h4 => ?_) (fun h4 => ?_) | refine SW.condB rfl (fun h4 => ?_) (fun h4 => ?_))
      · repeat (first | (with_reducible first | refine SW.seq ?_ | refine SW.block ?_ | refine SW.rowC ?_ | refine SW.skip ?_ | refine SW.exit ?_ | intro _ | refine And.intro (by omega) ?_) | simp (config := { maxSteps := 1000000 }) (disch := (first | omega | (simp only [go_sem]; try omega))) only [go_sem, Nat.reduceAdd, Nat.reduceEqDiff, Nat.reduceLeDiff, Nat.reduceMul, Nat.reduceLT, reduceIte, Int.reduceToNat, w64_id, cast_succ])
        refine SW.ret ?_; (try simp only [go_sem]); (first | refine FunPost.one ?_ | refine FunPost.two ?_ | refine FunPost.three ?_); (try simp (config := { maxSteps := 1000000 }) (disch := (first | omega | (simp only [go_sem]; try omega))) only [go_sem, Nat.reduceAdd, Nat.reduceEqDiff, Nat.reduceLeDiff, Nat.reduceMul, Nat.reduceLT, reduceIte, Int.reduceToNat, w64_id, cast_succ])
        rw [genL_none hnd2 hgen2 (by omega)]
        exact GR.froz (r' := .tup [ilSS [], Bv false]) (froz_tup2 .nil (.old _ (.lit _))) ⟨rfl, rfl⟩
      · repeat (first | (with_reducible first | refine SW.seq ?_ | refine SW.block ?_ | refine SW.rowC ?_ | refine SW.skip ?_ | refine SW.exit ?_ | intro _ | refine And.intro (by omega) ?_) | simp (config := { maxSteps := 1000000 }) (disch := (first | omega | (simp only [go_sem]; try omega))) only [go_sem, Nat.reduceAdd, Nat.reduceEqDiff, Nat.reduceLeDiff, Nat.reduceMul, Nat.reduceLT, reduceIte, Int.reduceToNat, w64_id, cast_succ])
        refine SLoop.next (721 - (k + 1)) (by omega) ⟨L2, k + 1, ver, by omega, by omega, rfl, by simp [go_sem], rfl, hnd2, hgen2, by rw [hLM]; exact List.mem_append_left _ hone, ?_⟩
        intro j hj g hgm
        rcases Nat.lt_or_eq_of_le (Nat.le_of_lt_succ hj) with h5 | rfl
        · have e : L2.getD j [] = L.getD j [] := by
            rw [hLM, List.getD_eq_getElem?_getD, List.getD_eq_getElem?_getD, List.getElem?_append_left (by omega)]
          rw [e, hLM]
          exact List.mem_append_left _ (hcl j h5 g hgm)
        · rw [hkL2]; exact hpre g hgm
  · have hkL : k = L.length := by omega
    subst hkL
    have hG : GenList n gs (sortU cmpL L) := by
      refine ⟨sortU_asc cmpL_tot _, fun p => ?_⟩
      rw [sortU_mem cmpL_tot]
      refine ⟨hgen p, fun h => ?_⟩
      induction h with
      | one => exact hone
      | step p g hgm _ ih =>
        obtain ⟨j, hj, he⟩ := List.getElem_of_mem ih
        have := hcl j hj g hgm
        rw [List.getD_eq_getElem?_getD, List.getElem?_eq_getElem hj] at this
        simp only [Option.getD_some, he] at this
        exact this
    have hGl : (sortU cmpL L).length ≤ 720 := Nat.le_trans (sortU_len (cf := cmpL) L) hLl
    rw [genL_some hG hGl]
    repeat (first | (with_reducible first | refine SW.seq ?_ | refine SW.block ?_ | refine SW.rowC ?_ | refine SW.skip ?_ | refine SW.exit ?_ | intro _ | refine And.intro (by omega) ?_) | simp (config := { maxSteps := 1000000 }) (disch := (first | omega | (simp only [go_sem]; try omega))) only [go_sem, Nat.reduceAdd, Nat.reduceEqDiff, Nat.reduceLeDiff, Nat.reduceMul, Nat.reduceLT, reduceIte, Int.reduceToNat, w64_id, cast_succ])
    refine (sortFz_ok _ H.length ver tyLL L (by simp) (by omega)).mono ?_
    rintro r H1 ⟨rfl, ys, hpm, hsd, rfl⟩
    have hys : ys = sortU cmpL L := sorted_is cmpL_tot hpm hsd hnd
    have hlen : L.length = ys.length := hpm.length_eq.symm
    rw [hlen]
    repeat (first | (with_reducible first | refine SW.seq ?_ | refine SW.block ?_ | refine SW.rowC ?_ | refine SW.skip ?_ | refine SW.exit ?_ | intro _ | refine And.intro (by omega) ?_) | simp (config := { maxSteps := 1000000 }) (disch := (first | omega | (simp only [go_sem]; try omega))) only [go_sem, Nat.reduceAdd, Nat.reduceEqDiff, Nat.reduceLeDiff, Nat.reduceMul, Nat.reduceLT, reduceIte, Int.reduceToNat, w64_id, cast_succ])
    refine SW.ret ?_; (try simp only [go_sem]); (first | refine FunPost.one ?_ | refine FunPost.two ?_ | refine FunPost.three ?_); (try simp (config := { maxSteps := 1000000 }) (disch := (first | omega | (simp only [go_sem]; try omega))) only [go_sem, Nat.reduceAdd, Nat.reduceEqDiff, Nat.reduceLeDiff, Nat.reduceMul, Nat.reduceLT, reduceIte, Int.reduceToNat, w64_id, cast_succ])
    rw [← hys]
    refine GR.froz (r' := .tup [ilSS ys, Bv true]) (froz_tup2 ?_ (.old _ (.lit _))) ⟨rfl, rfl⟩
    exact froz_rowsS (ver := ver) (ty := tyLL) (by omega) (by simp)
end Go.Proofs.Ytkifdjjnbplghaa
