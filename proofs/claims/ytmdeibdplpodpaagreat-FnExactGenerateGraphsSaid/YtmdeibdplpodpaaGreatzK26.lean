/- Sets of a size, in memory of the call's own. -/
import Derived.Test.YtmdeibdplpodpaaGreatzK23
import Derived.Test.YtmdeibdplpodpaaGreatzK20
set_option linter.unusedSimpArgs false
set_option linter.unusedVariables false
set_option maxHeartbeats 4000000
set_option maxRecDepth 100000
namespace Go.Proofs.YtmdeibdplpodpaaGreat
open Go.Av
theorem froz_rdU {H : List Blk} {b r ver len : Nat} {xs : List Int} (hb : b ≤ r) (ha : RdS H (.nm r ver 0 len) xs) : Froz H b (.nm r ver 0 len) (ilS xs) := by
  simp only [RdS, aview] at ha
  split at ha
  case h_2 => simp at ha
  case h_1 k hk =>
    split at ha
    case isFalse => simp at ha
    case isTrue hv =>
      simp only [Option.some.injEq, Prod.mk.injEq] at ha
      obtain ⟨rfl, h2⟩ := ha
      refine .nm r ver 0 xs.length k (xs.map I) hb hk hv (by rw [h2]) ?_
      intro j c c' g1 g2
      rw [h2, g2] at g1; cases g1
      obtain ⟨x, _, rfl⟩ := List.mem_map.1 (List.mem_of_getElem? g2)
      exact froz_I _ _ _
theorem RdS.froz0 {H : List Blk} {r ver len : Nat} {xs : List Int} (ha : RdS H (.nm r ver 0 len) xs) : Froz H 0 (.nm r ver 0 len) (ilS xs) := froz_rdU (Nat.zero_le _) ha
theorem GR.oneT {H0 ext : List Blk} {i ver : Nat} {xs : List Int} {u : Value} (hi : H0.length ≤ i) (h : (H0 ++ ext)[i]? = some ⟨ver, 2, 1, xs.map I⟩) :
    GR H0 (fun r H' => r = .tup [.nm H0.length 0 0 xs.length, .lit u] ∧ H' = H0 ++ [⟨0, 2, 1, xs.map I⟩]) (.tup [.nm i ver 0 xs.length, .lit u]) (H0 ++ ext) := by
  refine GR.ren (js := [some i]) (H2 := [⟨0, 2, 1, xs.map I⟩]) ⟨rfl, ?_, ?_, ?_⟩ (.tup _ [.nm (H0.length + 0) 0 0 xs.length, .lit u] rfl ?_) ⟨rfl, rfl⟩
  · intro p q j hp hq
    have h1 := (List.getElem?_eq_some_iff.1 hp).1
    have h2 := (List.getElem?_eq_some_iff.1 hq).1
    simp at h1 h2; omega
  · intro p j nb hp hn
    have h1 := (List.getElem?_eq_some_iff.1 hp).1
    have : p = 0 := by simp at h1; omega
    subst this
    simp at hp hn
    subst hp; subst hn
    refine ⟨_, hi, h, by simp, rfl, rfl, rfl, Nat.le_refl _, fun i c' hc => ⟨c', hc, ?_⟩⟩
    obtain ⟨x, _, rfl⟩ := List.mem_map.1 (List.mem_of_getElem? hc)
    exact ren_I x
  · intro p nb hp
    have h1 := (List.getElem?_eq_some_iff.1 hp).1
    have : p = 0 := by simp at h1; omega
    subst this
    simp at hp
  · intro j c c' g1 g2
    match j with
    | 0 => simp at g1 g2; subst g1; subst g2; exact .nm 0 i ver 0 xs.length _ rfl h rfl
    | 1 => simp at g1 g2; subst g1; subst g2; exact .old _ (.lit _)
    | j + 2 => simp at g1
theorem NextSubset_new (H : List Blk) (r ver : Nat) (n : Int) (set : List Int) (ha : RdS H (.nm r ver 0 set.length) set) (hv : asc 0 (n - 1) set = true) (h0 : 0 ≤ n) (h1 : n ≤ 32) :
    ACalls Tryz.prog f_impl_NextSubset [I n, .nm r ver 0 set.length] H (fun res H' => match nextSub n set with
      | some s => res = .tup [.nm H.length 0 0 s.length, Bv true] ∧ H' = H ++ [⟨0, 2, 1, s.map I⟩]
      | none => res = .tup [nilS, Bv false] ∧ H' = H) := by
  have hvs := ValidSet_fn set n
  rw [hv, decide_eq_true h0, decide_eq_true h1] at hvs
  have hm := asc_mem hv
  have hl : set.length ≤ 32 := by rcases asc_len hv with h | h <;> simp_all; omega
  have hva0 : aview H (.nm r ver 0 set.length) = some (set.length, set.map I) := ha
  have hva : ∀ ext, aview (H ++ ext) (.nm r ver 0 set.length) = some (set.length, set.map I) := fun ext => ha.append ext
  refine ACalls.introB s_impl_NextSubset (by simp) ?_; intro hB hA; unfold c_impl_NextSubset; simp (config := { maxSteps := 1000000 }) (disch := (first | omega | (simp only [go_sem]; try omega))) only [go_sem, Nat.reduceAdd, Nat.reduceEqDiff, Nat.reduceLeDiff, Nat.reduceMul, Nat.reduceLT, reduceIte, Int.reduceToNat, w64_id, cast_succ]
  repeat (first | (with_reducible first | refine SW.seq ?_ | refine SW.block ?_ | refine SW.rowC ?_ | refine SW.skip ?_ | refine SW.exit ?_ | intro _ | refine And.intro (by omega) ?_) | simp (config := { maxSteps := 1000000 }) (disch := (first | omega | (simp only [go_sem]; try omega))) only [go_sem, Nat.reduceAdd, Nat.reduceEqDiff, Nat.reduceLeDiff, Nat.reduceMul, Nat.reduceLT, reduceIte, Int.reduceToNat, w64_id, cast_succ])
  refine PFn.usel hvs (.cons ha.froz0 (.cons (.I _) .nil)) ?_
  repeat (first | (with_reducible first | refine SW.seq ?_ | refine SW.block ?_ | refine SW.rowC ?_ | refine SW.skip ?_ | refine SW.exit ?_ | intro _ | refine And.intro (by omega) ?_) | simp (config := { maxSteps := 1000000 }) (disch := (first | omega | (simp only [go_sem]; try omega))) only [go_sem, Nat.reduceAdd, Nat.reduceEqDiff, Nat.reduceLeDiff, Nat.reduceMul, Nat.reduceLT, reduceIte, Int.reduceToNat, w64_id, cast_succ])
  refine SW.condF rfl ?_
  repeat (first | (with_reducible first | refine SW.seq ?_ | refine SW.block ?_ | refine SW.rowC ?_ | refine SW.skip ?_ | refine SW.exit ?_ | intro _ | refine And.intro (by omega) ?_) | simp (config := { maxSteps := 1000000 }) (disch := (first | omega | (simp only [go_sem]; try omega))) only [go_sem, Nat.reduceAdd, Nat.reduceEqDiff, Nat.reduceLeDiff, Nat.reduceMul, Nat.reduceLT, reduceIte, Int.reduceToNat, w64_id, cast_succ])
  refine PFn.usel (size_fn set) (.cons ha.froz0 .nil) ?_
  repeat (first | (with_reducible first | refine SW.seq ?_ | refine SW.block ?_ | refine SW.rowC ?_ | refine SW.skip ?_ | refine SW.exit ?_ | intro _ | refine And.intro (by omega) ?_) | simp (config := { maxSteps := 1000000 }) (disch := (first | omega | (simp only [go_sem]; try omega))) only [go_sem, Nat.reduceAdd, Nat.reduceEqDiff, Nat.reduceLeDiff, Nat.reduceMul, Nat.reduceLT, reduceIte, Int.reduceToNat, w64_id, cast_succ])
  refine SW.loopE (fun E0 H0 q E' H' => ∃ i : Nat, i ≤ set.length ∧ q = i ∧ E' = aput E0 7 (I ((i : Int) - 1)) ∧ H' = H0 ∧ nextSub n set = nextGo n set i) set.length ⟨set.length, by omega, rfl, rfl, rfl, rfl⟩ ?_
  rintro i E' H' ⟨q, hi, rfl, rfl, rfl, hn⟩
  simp (config := { maxSteps := 1000000 }) (disch := (first | omega | (simp only [go_sem]; try omega))) only [go_sem, Nat.reduceAdd, Nat.reduceEqDiff, Nat.reduceLeDiff, Nat.reduceMul, Nat.reduceLT, reduceIte, Int.reduceToNat, w64_id, cast_succ]
  repeat (first | (with_reducible first | refine SW.seq ?_ | refine SW.block ?_ | refine SW.rowC ?_ | refine SW.skip ?_ | refine SW.exit ?_ | intro _ | refine And.intro (by omega) ?_) | simp (config := { maxSteps := 1000000 }) (disch := (first | omega | (simp only [go_sem]; try omega))) only [go_sem, Nat.reduceAdd, Nat.reduceEqDiff, Nat.reduceLeDiff, Nat.reduceMul, Nat.reduceLT, reduceIte, Int.reduceToNat, w64_id, cast_succ])
  (first | refine SW.condD rfl (fun h => ?_) (fun h => ?_) | refine SW.condN rfl (fun h => ?_) (fun h => ?_) | refine SW.condNB rfl (fun h => ?_) (fun h => ?_) | refine SW.condB rfl (fun h => ?_) (fun h => ?_))
  · obtain ⟨i, rfl⟩ : ∃ j, i = j + 1 := ⟨i - 1, by omega⟩
    have e1 : ((i + 1 : Nat) : Int) - 1 = (i : Nat) := by omega
    have hx := hm (set.getD i 0) (by simp [List.getElem?_eq_getElem (show i < set.length by omega)])
    repeat (first | (with_reducible first | refine SW.seq ?_ | refine SW.block ?_ | refine SW.rowC ?_ | refine SW.skip ?_ | refine SW.exit ?_ | intro _ | refine And.intro (by omega) ?_) | simp (config := { maxSteps := 1000000 }) (disch := (first | omega | (simp only [go_sem]; try omega))) only [go_sem, Nat.reduceAdd, Nat.reduceEqDiff, Nat.reduceLeDiff, Nat.reduceMul, Nat.reduceLT, reduceIte, Int.reduceToNat, w64_id, cast_succ, e1, hva0])
    (first | refine SW.condD rfl (fun h2 => ?_) (fun h2 => ?_) | refine SW.condN rfl (fun h2 => ?_) (fun h2 => ?_) | refine SW.condNB rfl (fun h2 => ?_) (fun h2 => ?_) | refine SW.condB rfl (fun h2 => ?_) (fun h2 => ?_))
    · repeat (first | (with_reducible first | refine SW.seq ?_ | refine SW.block ?_ | refine SW.rowC ?_ | refine SW.skip ?_ | refine SW.exit ?_ | intro _ | refine And.intro (by omega) ?_) | simp (config := { maxSteps := 1000000 }) (disch := (first | omega | (simp only [go_sem]; try omega))) only [go_sem, Nat.reduceAdd, Nat.reduceEqDiff, Nat.reduceLeDiff, Nat.reduceMul, Nat.reduceLT, reduceIte, Int.reduceToNat, w64_id, cast_succ])
      refine SLoop.next i (by omega) ⟨i, by omega, rfl, rfl, rfl, ?_⟩
      rw [hn, nextGo, if_pos h2]
    · rw [nextGo, if_neg h2] at hn
      repeat (first | (with_reducible first | refine SW.seq ?_ | refine SW.block ?_ | refine SW.rowC ?_ | refine SW.skip ?_ | refine SW.exit ?_ | intro _ | refine And.intro (by omega) ?_) | simp (config := { maxSteps := 1000000 }) (disch := (first | omega | (simp only [go_sem]; try omega))) only [go_sem, Nat.reduceAdd, Nat.reduceEqDiff, Nat.reduceLeDiff, Nat.reduceMul, Nat.reduceLT, reduceIte, Int.reduceToNat, w64_id, cast_succ])
      refine (clone_ok _ _ set ha (by omega)).mono ?_
      rintro r1 H1 ⟨ver1, rfl, rfl⟩
      repeat (first | (with_reducible first | refine SW.seq ?_ | refine SW.block ?_ | refine SW.rowC ?_ | refine SW.skip ?_ | refine SW.exit ?_ | intro _ | refine And.intro (by omega) ?_) | simp (config := { maxSteps := 1000000 }) (disch := (first | omega | (simp only [go_sem]; try omega))) only [go_sem, Nat.reduceAdd, Nat.reduceEqDiff, Nat.reduceLeDiff, Nat.reduceMul, Nat.reduceLT, reduceIte, Int.reduceToNat, w64_id, cast_succ, e1])
      refine SW.loopE (fun E0 H0 q E' H1 => ∃ m : Nat, i ≤ m ∧ m ≤ set.length ∧ q = set.length - m ∧ E' = aput E0 9 (I m) ∧ H1 = H' ++ [⟨ver1, 2, 1, (tab set.length fun j => if j < i then set.getD j 0 else if j < m then set.getD i 0 + 1 + j - i else set.getD j 0).map I⟩]) (set.length - i) ⟨i, by omega, by omega, rfl, rfl, ?_⟩ ?_
      · congr 4
        rw [tab_of set, tab_length]
        exact tab_congr fun j hj => by
          simp only [tab_getD _ hj]
          split <;> first | rfl | (split <;> first | rfl | omega)
      rintro q E' H1 ⟨m, hm1, hm2, rfl, rfl, rfl⟩
      simp (config := { maxSteps := 1000000 }) (disch := (first | omega | (simp only [go_sem]; try omega))) only [go_sem, Nat.reduceAdd, Nat.reduceEqDiff, Nat.reduceLeDiff, Nat.reduceMul, Nat.reduceLT, reduceIte, Int.reduceToNat, w64_id, cast_succ]
      repeat (first | (with_reducible first | refine SW.seq ?_ | refine SW.block ?_ | refine SW.rowC ?_ | refine SW.skip ?_ | refine SW.exit ?_ | intro _ | refine And.intro (by omega) ?_) | simp (config := { maxSteps := 1000000 }) (disch := (first | omega | (simp only [go_sem]; try omega))) only [go_sem, Nat.reduceAdd, Nat.reduceEqDiff, Nat.reduceLeDiff, Nat.reduceMul, Nat.reduceLT, reduceIte, Int.reduceToNat, w64_id, cast_succ])
      (first | refine SW.condD rfl (fun h3 => ?_) (fun h3 => ?_) | refine SW.condN rfl (fun h3 => ?_) (fun h3 => ?_) | refine SW.condNB rfl (fun h3 => ?_) (fun h3 => ?_) | refine SW.condB rfl (fun h3 => ?_) (fun h3 => ?_))
      · have hll := tab_length set.length fun j => if j < i then set.getD j 0 else if j < m then set.getD i 0 + 1 + j - i else set.getD j 0
        repeat (first | (with_reducible first | refine SW.seq ?_ | refine SW.block ?_ | refine SW.rowC ?_ | refine SW.skip ?_ | refine SW.exit ?_ | intro _ | refine And.intro (by omega) ?_) | simp (config := { maxSteps := 1000000 }) (disch := (first | omega | (simp only [go_sem]; try omega))) only [go_sem, Nat.reduceAdd, Nat.reduceEqDiff, Nat.reduceLeDiff, Nat.reduceMul, Nat.reduceLT, reduceIte, Int.reduceToNat, w64_id, cast_succ, take_tab, hva, e1])
        refine SLoop.next (set.length - (m + 1)) (by omega) ⟨m + 1, by omega, by omega, rfl, ?_, ?_⟩
        · simp [go_sem]
        · rw [tab_set]
          congr 4
          exact tab_congr fun j hj => by
            by_cases hjm : j = m
            · subst hjm
              rw [if_pos rfl, if_neg (by omega), if_pos (by omega)]
            · rw [if_neg hjm]
              by_cases hji : j < i
              · rw [if_pos hji, if_pos hji]
              · rw [if_neg hji, if_neg hji]
                by_cases hjm2 : j < m
                · rw [if_pos hjm2, if_pos (by omega)]
                · rw [if_neg hjm2, if_neg (by omega)]
      · have : m = set.length := by omega
        subst this
        repeat (first | (with_reducible first | refine SW.seq ?_ | refine SW.block ?_ | refine SW.rowC ?_ | refine SW.skip ?_ | refine SW.exit ?_ | intro _ | refine And.intro (by omega) ?_) | simp (config := { maxSteps := 1000000 }) (disch := (first | omega | (simp only [go_sem]; try omega))) only [go_sem, Nat.reduceAdd, Nat.reduceEqDiff, Nat.reduceLeDiff, Nat.reduceMul, Nat.reduceLT, reduceIte, Int.reduceToNat, w64_id, cast_succ])
        refine SW.ret ?_; (try simp only [go_sem]); (first | refine FunPost.one ?_ | refine FunPost.two ?_ | refine FunPost.three ?_); (try simp (config := { maxSteps := 1000000 }) (disch := (first | omega | (simp only [go_sem]; try omega))) only [go_sem, Nat.reduceAdd, Nat.reduceEqDiff, Nat.reduceLeDiff, Nat.reduceMul, Nat.reduceLT, reduceIte, Int.reduceToNat, w64_id, cast_succ])
        rw [hn]
        simp only
        have he : (tab set.length fun j => if j < i then set.getD j 0 else if j < set.length then set.getD i 0 + 1 + j - i else set.getD j 0) = tab set.length fun j => if j < i then set.getD j 0 else set.getD i 0 + 1 + j - i := tab_congr fun j hj => by
          by_cases hji : j < i
          · rw [if_pos hji, if_pos hji]
          · rw [if_neg hji, if_neg hji, if_pos hj]
        rw [he]
        have hll := tab_length set.length fun j => if j < i then set.getD j 0 else set.getD i 0 + 1 + j - i
        generalize (tab set.length fun j => if j < i then set.getD j 0 else set.getD i 0 + 1 + j - i) = L at *
        rw [← hll]
        exact GR.oneT (Nat.le_refl _) (by simp)
  · have : i = 0 := by omega
    subst this
    repeat (first | (with_reducible first | refine SW.seq ?_ | refine SW.block ?_ | refine SW.rowC ?_ | refine SW.skip ?_ | refine SW.exit ?_ | intro _ | refine And.intro (by omega) ?_) | simp (config := { maxSteps := 1000000 }) (disch := (first | omega | (simp only [go_sem]; try omega))) only [go_sem, Nat.reduceAdd, Nat.reduceEqDiff, Nat.reduceLeDiff, Nat.reduceMul, Nat.reduceLT, reduceIte, Int.reduceToNat, w64_id, cast_succ])
    refine SW.ret ?_; (try simp only [go_sem]); (first | refine FunPost.one ?_ | refine FunPost.two ?_ | refine FunPost.three ?_); (try simp (config := { maxSteps := 1000000 }) (disch := (first | omega | (simp only [go_sem]; try omega))) only [go_sem, Nat.reduceAdd, Nat.reduceEqDiff, Nat.reduceLeDiff, Nat.reduceMul, Nat.reduceLT, reduceIte, Int.reduceToNat, w64_id, cast_succ])
    rw [hn]
    exact GR.of ⟨rfl, rfl⟩
theorem identity_new (k : Nat) (hk : k ≤ 1000000) : NewS Tryz.prog f_impl_identity [I k] (idL k) := by
  intro H
  refine ACalls.introB s_impl_identity (by simp) ?_; intro hB hA; unfold c_impl_identity; simp (config := { maxSteps := 1000000 }) (disch := (first | omega | (simp only [go_sem]; try omega))) only [go_sem, Nat.reduceAdd, Nat.reduceEqDiff, Nat.reduceLeDiff, Nat.reduceMul, Nat.reduceLT, reduceIte, Int.reduceToNat, w64_id, cast_succ]
  repeat (first | (with_reducible first | refine SW.seq ?_ | refine SW.block ?_ | refine SW.rowC ?_ | refine SW.skip ?_ | refine SW.exit ?_ | intro _ | refine And.intro (by omega) ?_) | simp (config := { maxSteps := 1000000 }) (disch := (first | omega | (simp only [go_sem]; try omega))) only [go_sem, Nat.reduceAdd, Nat.reduceEqDiff, Nat.reduceLeDiff, Nat.reduceMul, Nat.reduceLT, reduceIte, Int.reduceToNat, w64_id, cast_succ])
  rw [tab_rep]
  refine SW.loopE (fun E0 H0 q E' H' => ∃ m : Nat, m ≤ k ∧ q = k - m ∧ E' = aput E0 9 (I m) ∧ H' = H ++ [⟨0, 2, 1, (tab k fun j => if j < m then (j : Int) else 0).map I⟩]) k ⟨0, by omega, by omega, rfl, by simp⟩ ?_
  rintro q E' H' ⟨m, hm, rfl, rfl, rfl⟩
  simp (config := { maxSteps := 1000000 }) (disch := (first | omega | (simp only [go_sem]; try omega))) only [go_sem, Nat.reduceAdd, Nat.reduceEqDiff, Nat.reduceLeDiff, Nat.reduceMul, Nat.reduceLT, reduceIte, Int.reduceToNat, w64_id, cast_succ]
  repeat (first | (with_reducible first | refine SW.seq ?_ | refine SW.block ?_ | refine SW.rowC ?_ | refine SW.skip ?_ | refine SW.exit ?_ | intro _ | refine And.intro (by omega) ?_) | simp (config := { maxSteps := 1000000 }) (disch := (first | omega | (simp only [go_sem]; try omega))) only [go_sem, Nat.reduceAdd, Nat.reduceEqDiff, Nat.reduceLeDiff, Nat.reduceMul, Nat.reduceLT, reduceIte, Int.reduceToNat, w64_id, cast_succ])
  have hll := tab_length k fun j => if j < m then (j : Int) else 0
  (first | refine SW.condD rfl (fun h => ?_) (fun h => ?_) | refine SW.condN rfl (fun h => ?_) (fun h => ?_) | refine SW.condNB rfl (fun h => ?_) (fun h => ?_) | refine SW.condB rfl (fun h => ?_) (fun h => ?_))
  · repeat (first | (with_reducible first | refine SW.seq ?_ | refine SW.block ?_ | refine SW.rowC ?_ | refine SW.skip ?_ | refine SW.exit ?_ | intro _ | refine And.intro (by omega) ?_) | simp (config := { maxSteps := 1000000 }) (disch := (first | omega | (simp only [go_sem]; try omega))) only [go_sem, Nat.reduceAdd, Nat.reduceEqDiff, Nat.reduceLeDiff, Nat.reduceMul, Nat.reduceLT, reduceIte, Int.reduceToNat, w64_id, cast_succ, take_tab])
    refine SLoop.next (k - (m + 1)) (by omega) ⟨m + 1, by omega, rfl, ?_, ?_⟩
    · simp [go_sem]
    · rw [tab_set]
      congr 4
      exact tab_congr fun j hj => by
        by_cases hjm : j = m
        · subst hjm; rw [if_pos rfl, if_pos (by omega)]
        · rw [if_neg hjm]
          by_cases h2 : j < m
          · rw [if_pos h2, if_pos (by omega)]
          · rw [if_neg h2, if_neg (by omega)]
  · have : m = k := by omega
    subst this
    repeat (first | (with_reducible first | refine SW.seq ?_ | refine SW.block ?_ | refine SW.rowC ?_ | refine SW.skip ?_ | refine SW.exit ?_ | intro _ | refine And.intro (by omega) ?_) | simp (config := { maxSteps := 1000000 }) (disch := (first | omega | (simp only [go_sem]; try omega))) only [go_sem, Nat.reduceAdd, Nat.reduceEqDiff, Nat.reduceLeDiff, Nat.reduceMul, Nat.reduceLT, reduceIte, Int.reduceToNat, w64_id, cast_succ])
    refine SW.ret ?_; (try simp only [go_sem]); (first | refine FunPost.one ?_ | refine FunPost.two ?_ | refine FunPost.three ?_); (try simp (config := { maxSteps := 1000000 }) (disch := (first | omega | (simp only [go_sem]; try omega))) only [go_sem, Nat.reduceAdd, Nat.reduceEqDiff, Nat.reduceLeDiff, Nat.reduceMul, Nat.reduceLT, reduceIte, Int.reduceToNat, w64_id, cast_succ])
    have he : (tab m fun j => if j < m then (j : Int) else 0) = idL m := by
      rw [idL]; exact tab_congr fun j hj => by rw [if_pos hj]
    have hl2 : (idL m).length = m := by rw [idL, tab_length]
    rw [he]
    have := @GR.oneS H [⟨0, 2, 1, (idL m).map I⟩] H.length 0 (idL m) (Nat.le_refl _) (by simp)
    rw [hl2] at this ⊢
    exact this
theorem rowsV_length (w : Nat) (xss : List (List Int)) : (rowsV w xss).length = xss.length := by simp [rowsV]
theorem SW.dropE {P : Program} {n k0 : Nat} {Q : SX → Env → List Blk → Prop} {E : Env} {H L bs : List Blk} {c : SC} (he : ∃ tmp, bs = L ++ tmp) (hB : HB H) (h0 : k0 ≤ H.length)
    (hE : EB (H.length + L.length) E) (hb : BB (H.length + L.length) L) (h : SW P n k0 c Q E (H ++ L)) : SW P n k0 c Q E (H ++ bs) := by
  obtain ⟨tmp, rfl⟩ := he
  exact SW.dropL hB h0 hE hb h
theorem sqRow_rd {H : List Blk} {v w x : Nat} {xss : List (List Int)} {row : List Int} (hx : x < xss.length) (hr : xss.getD x [] = row) : RdS (H ++ sqB v w H.length xss) (.nm (H.length + (x + 1)) w 0 row.length) row := by
  have := sq_row (Hb := H) (v := v) (w := w) (ext := []) hx
  rw [List.append_nil, hr, show H.length + 1 + x = H.length + (x + 1) by omega] at this
  exact this
def XR (k : Nat) : List (List Int) → AV × List Blk
  | [] => (nilS, [])
  | s :: _ => (.nm k 0 0 s.length, [⟨0, 2, 1, s.map I⟩])
theorem allSubsets_sq (H : List Blk) (n k : Nat) (hn : n ≤ 32) (hk : k ≤ n) : ACalls Tryz.prog f_impl_allSubsets [I n, I k] H (fun r H' => ∃ ver, r = .nm H.length ver 0 (subsN n k).length ∧ H' = H ++ sqB ver 0 H.length (subsN n k)) := by
  have h1 : ∀ s ∈ subsN n k, asc 0 (n - 1) s = true ∧ s.length = k := fun s hs => by have := subsL_mem n 0 k s hs; rw [Int.zero_add] at this; exact ⟨this.2, this.1⟩
  have hcn := subsL_chain n n 0 k (by omega)
  have hsl : (subsN n k).length ≤ 4294967296 := by
    have h1 := ch_le n k
    have h2 : 2 ^ n ≤ 2 ^ 32 := Nat.pow_le_pow_right (by omega) hn
    unfold subsN; rw [subsL_len]; omega
  obtain ⟨r0, hr0⟩ := (subsL_head n 0 k).1 hk
  have hid := identity_new k (by omega)
  rw [idL_run] at hid
  unfold subsN at *
  generalize hS : subsL n 0 k = S at *
  generalize run_ 0 k = s0 at *
  refine ACalls.introB s_impl_allSubsets (by simp) ?_; intro hB hA; unfold c_impl_allSubsets; simp (config := { maxSteps := 1000000 }) (disch := (first | omega | (simp only [go_sem]; try omega))) only [go_sem, Nat.reduceAdd, Nat.reduceEqDiff, Nat.reduceLeDiff, Nat.reduceMul, Nat.reduceLT, reduceIte, Int.reduceToNat, w64_id, cast_succ]
  refine SW.seq ?_; refine SW.rowC ?_; simp (config := { maxSteps := 1000000 }) (disch := (first | omega | (simp only [go_sem]; try omega))) only [go_sem, Nat.reduceAdd, Nat.reduceEqDiff, Nat.reduceLeDiff, Nat.reduceMul, Nat.reduceLT, reduceIte, Int.reduceToNat, w64_id, cast_succ]
  refine SW.seq ?_; refine SW.rowC ?_; simp (config := { maxSteps := 1000000 }) (disch := (first | omega | (simp only [go_sem]; try omega))) only [go_sem, Nat.reduceAdd, Nat.reduceEqDiff, Nat.reduceLeDiff, Nat.reduceMul, Nat.reduceLT, reduceIte, Int.reduceToNat, w64_id, cast_succ]
  refine SW.ghost (Gh.name 5 22 1 rfl) ?_
  refine SW.seq ?_; refine SW.rowC ?_; simp (config := { maxSteps := 1000000 }) (disch := (first | omega | (simp only [go_sem]; try omega))) only [go_sem, Nat.reduceAdd, Nat.reduceEqDiff, Nat.reduceLeDiff, Nat.reduceMul, Nat.reduceLT, reduceIte, Int.reduceToNat, w64_id, cast_succ]
  refine (hid _).mono ?_
  rintro r H1 ⟨rfl, rfl⟩
  repeat (first | (with_reducible first | refine SW.seq ?_ | refine SW.block ?_ | refine SW.rowC ?_ | refine SW.skip ?_ | refine SW.exit ?_ | intro _ | refine And.intro (by omega) ?_) | simp (config := { maxSteps := 1000000 }) (disch := (first | omega | (simp only [go_sem]; try omega))) only [go_sem, Nat.reduceAdd, Nat.reduceEqDiff, Nat.reduceLeDiff, Nat.reduceMul, Nat.reduceLT, reduceIte, Int.reduceToNat, w64_id, cast_succ])
  rw [decide_eq_true (show (k : Int) ≤ n by omega)]
  refine SW.loopE (fun E0 H0 q E' H' => ∃ (done rest : List (List Int)), S = done ++ rest ∧ q = rest.length ∧ E' = aput (aput (aput E0 5 (.nm H.length done.length 0 done.length)) 6 (XR (H.length + (done.length + 1)) rest).1) 7 (Bv (!rest.isEmpty)) ∧ H' = H ++ (sqB done.length 0 H.length done ++ (XR (H.length + (done.length + 1)) rest).2) ∧ chainN (nextSub n) none rest) S.length ⟨[], S, rfl, rfl, by rw [hr0]; rfl, by rw [hr0]; rfl, hcn⟩ ?_
  rintro q E' H' ⟨done, rest, hp, rfl, rfl, rfl, hcc⟩
  simp (config := { maxSteps := 1000000 }) (disch := (first | omega | (simp only [go_sem]; try omega))) only [go_sem, Nat.reduceAdd, Nat.reduceEqDiff, Nat.reduceLeDiff, Nat.reduceMul, Nat.reduceLT, reduceIte, Int.reduceToNat, w64_id, cast_succ]
  repeat (first | (with_reducible first | refine SW.seq ?_ | refine SW.block ?_ | refine SW.rowC ?_ | refine SW.skip ?_ | refine SW.exit ?_ | intro _ | refine And.intro (by omega) ?_) | simp (config := { maxSteps := 1000000 }) (disch := (first | omega | (simp only [go_sem]; try omega))) only [go_sem, Nat.reduceAdd, Nat.reduceEqDiff, Nat.reduceLeDiff, Nat.reduceMul, Nat.reduceLT, reduceIte, Int.reduceToNat, w64_id, cast_succ])
  cases rest with
  | nil =>
    refine SW.condF rfl ?_
    rw [List.append_nil] at hp
    subst hp
    repeat (first | (with_reducible first | refine SW.seq ?_ | refine SW.block ?_ | refine SW.rowC ?_ | refine SW.skip ?_ | refine SW.exit ?_ | intro _ | refine And.intro (by omega) ?_) | simp (config := { maxSteps := 1000000 }) (disch := (first | omega | (simp only [go_sem]; try omega))) only [go_sem, Nat.reduceAdd, Nat.reduceEqDiff, Nat.reduceLeDiff, Nat.reduceMul, Nat.reduceLT, reduceIte, Int.reduceToNat, w64_id, cast_succ])
    refine SW.ret ?_; (try simp only [go_sem]); (first | refine FunPost.one ?_ | refine FunPost.two ?_ | refine FunPost.three ?_); (try simp (config := { maxSteps := 1000000 }) (disch := (first | omega | (simp only [go_sem]; try omega))) only [go_sem, Nat.reduceAdd, Nat.reduceEqDiff, Nat.reduceLeDiff, Nat.reduceMul, Nat.reduceLT, reduceIte, Int.reduceToNat, w64_id, cast_succ])
    exact GR.of ⟨_, rfl, by simp [XR]⟩
  | cons s r =>
    refine SW.condT rfl ?_
    have hdl : done.length ≤ 4294967296 := by rw [hp] at hsl; simp at hsl; omega
    have hs := h1 s (by rw [hp]; simp)
    have hL := sqB_length done.length 0 H.length done
    have hnt : (nmsV 0 (H.length + 1) done).take done.length = nmsV 0 (H.length + 1) done := List.take_of_length_le (by rw [nmsV_length]; omega)
    have hnl := nmsV_length 0 (H.length + 1) done
    have hL1 : (sqB (done.length + 1) 0 H.length (done ++ [s])).length = done.length + 2 := by rw [sqB_length]; simp
    refine SW.skip ?_
    refine SW.block ?_
    refine SW.seq ?_; refine SW.rowC ?_
    have hX : XR (H.length + (done.length + 1)) (s :: r) = (.nm (H.length + (done.length + 1)) 0 0 s.length, [⟨0, 2, 1, s.map I⟩]) := rfl
    have hSq : sqB done.length 0 H.length done = ⟨done.length, 22, 1, nmsV 0 (H.length + 1) done⟩ :: rowsV 0 done := rfl
    have hrl := rowsV_length 0 done
    rw [hX, hSq]
    have hg2 : ∀ a b : Blk, (rowsV 0 done ++ [a, b])[done.length + 1]? = some b := by
      intro a b
      rw [List.getElem?_append_right (by rw [hrl]; omega), hrl, show done.length + 1 - done.length = 1 by omega]; rfl
    simp (config := { maxSteps := 1000000 }) (disch := (first | omega | (simp only [go_sem]; try omega))) only [go_sem, Nat.reduceAdd, Nat.reduceEqDiff, Nat.reduceLeDiff, Nat.reduceMul, Nat.reduceLT, reduceIte, Int.reduceToNat, w64_id, cast_succ, hnt, hnl, hrl, hg2]
    refine SW.dropE (L := sqB (done.length + 1) 0 H.length (done ++ [s])) ⟨_, by rw [sqB_snoc, List.cons_append, List.append_assoc, show H.length + 1 + done.length = H.length + (done.length + 1) by omega]; rfl⟩ hB (by omega) ?_ ?_ ?_
    · rw [hL1]
      (simp only [go_sem, Nat.reduceAdd, Nat.reduceEqDiff, reduceIte, go_sem, and_self, and_true, true_and, implies_true, List.take_succ_cons, List.take_zero, and_true, true_and]; try omega)
    · rw [hL1]; exact sqB_BB (by simp; omega)
    have hrd : RdS (H ++ sqB (done.length + 1) 0 H.length (done ++ [s])) (.nm (H.length + (done.length + 1)) 0 0 s.length) s := sqRow_rd (by simp) (by simp)
    have hnx := NextSubset_new _ _ _ n s hrd hs.1 (by omega) (by omega)
    refine SW.rowC ?_
    simp (config := { maxSteps := 1000000 }) (disch := (first | omega | (simp only [go_sem]; try omega))) only [go_sem, Nat.reduceAdd, Nat.reduceEqDiff, Nat.reduceLeDiff, Nat.reduceMul, Nat.reduceLT, reduceIte, Int.reduceToNat, w64_id, cast_succ]
    refine hnx.mono ?_
    cases r with
    | nil =>
      have h0 : nextSub n s = none := hcc
      rw [h0]
      rintro r H1 ⟨rfl, rfl⟩
      repeat (first | (with_reducible first | refine SW.seq ?_ | refine SW.block ?_ | refine SW.rowC ?_ | refine SW.skip ?_ | refine SW.exit ?_ | intro _ | refine And.intro (by omega) ?_) | simp (config := { maxSteps := 1000000 }) (disch := (first | omega | (simp only [go_sem]; try omega))) only [go_sem, Nat.reduceAdd, Nat.reduceEqDiff, Nat.reduceLeDiff, Nat.reduceMul, Nat.reduceLT, reduceIte, Int.reduceToNat, w64_id, cast_succ])
      refine SLoop.next 0 (by simp) ⟨done ++ [s], [], by simp [hp], rfl, ?_, ?_, trivial⟩
      · simp [go_sem, XR]
      · simp [XR]
    | cons u r =>
      have h0 : nextSub n s = some u := hcc.1
      rw [h0]
      rintro r H1 ⟨rfl, rfl⟩
      repeat (first | (with_reducible first | refine SW.seq ?_ | refine SW.block ?_ | refine SW.rowC ?_ | refine SW.skip ?_ | refine SW.exit ?_ | intro _ | refine And.intro (by omega) ?_) | simp (config := { maxSteps := 1000000 }) (disch := (first | omega | (simp only [go_sem]; try omega))) only [go_sem, Nat.reduceAdd, Nat.reduceEqDiff, Nat.reduceLeDiff, Nat.reduceMul, Nat.reduceLT, reduceIte, Int.reduceToNat, w64_id, cast_succ])
      refine SLoop.next (r.length + 1) (by simp) ⟨done ++ [s], u :: r, by simp [hp], rfl, ?_, ?_, hcc.2⟩
      · simp [go_sem, XR, hL1]
      · simp [XR]
theorem allSubsets_gt (H : List Blk) (n k : Nat) (hk : n < k) (hk2 : k ≤ 1000000) : ACalls Tryz.prog f_impl_allSubsets [I n, I k] H (fun r H' => r = .nm H.length 0 0 0 ∧ H' = H ++ [⟨0, 22, 1, []⟩]) := by
  have hid := identity_new k (by omega)
  refine ACalls.introB s_impl_allSubsets (by simp) ?_; intro hB hA; unfold c_impl_allSubsets; simp (config := { maxSteps := 1000000 }) (disch := (first | omega | (simp only [go_sem]; try omega))) only [go_sem, Nat.reduceAdd, Nat.reduceEqDiff, Nat.reduceLeDiff, Nat.reduceMul, Nat.reduceLT, reduceIte, Int.reduceToNat, w64_id, cast_succ]
  refine SW.seq ?_; refine SW.rowC ?_; simp (config := { maxSteps := 1000000 }) (disch := (first | omega | (simp only [go_sem]; try omega))) only [go_sem, Nat.reduceAdd, Nat.reduceEqDiff, Nat.reduceLeDiff, Nat.reduceMul, Nat.reduceLT, reduceIte, Int.reduceToNat, w64_id, cast_succ]
  refine SW.seq ?_; refine SW.rowC ?_; simp (config := { maxSteps := 1000000 }) (disch := (first | omega | (simp only [go_sem]; try omega))) only [go_sem, Nat.reduceAdd, Nat.reduceEqDiff, Nat.reduceLeDiff, Nat.reduceMul, Nat.reduceLT, reduceIte, Int.reduceToNat, w64_id, cast_succ]
  refine SW.ghost (Gh.name 5 22 1 rfl) ?_
  refine SW.seq ?_; refine SW.rowC ?_; simp (config := { maxSteps := 1000000 }) (disch := (first | omega | (simp only [go_sem]; try omega))) only [go_sem, Nat.reduceAdd, Nat.reduceEqDiff, Nat.reduceLeDiff, Nat.reduceMul, Nat.reduceLT, reduceIte, Int.reduceToNat, w64_id, cast_succ]
  refine (hid _).mono ?_
  rintro r H1 ⟨rfl, rfl⟩
  repeat (first | (with_reducible first | refine SW.seq ?_ | refine SW.block ?_ | refine SW.rowC ?_ | refine SW.skip ?_ | refine SW.exit ?_ | intro _ | refine And.intro (by omega) ?_) | simp (config := { maxSteps := 1000000 }) (disch := (first | omega | (simp only [go_sem]; try omega))) only [go_sem, Nat.reduceAdd, Nat.reduceEqDiff, Nat.reduceLeDiff, Nat.reduceMul, Nat.reduceLT, reduceIte, Int.reduceToNat, w64_id, cast_succ])
  rw [decide_eq_false (show ¬ (k : Int) ≤ n by omega)]
  refine SW.loopE (fun E0 H0 q E' H' => q = 0 ∧ E' = E0 ∧ H' = H0) 0 ⟨rfl, rfl, rfl⟩ ?_
  rintro q E' H' ⟨rfl, rfl, rfl⟩
  simp (config := { maxSteps := 1000000 }) (disch := (first | omega | (simp only [go_sem]; try omega))) only [go_sem, Nat.reduceAdd, Nat.reduceEqDiff, Nat.reduceLeDiff, Nat.reduceMul, Nat.reduceLT, reduceIte, Int.reduceToNat, w64_id, cast_succ]
  repeat (first | (with_reducible first | refine SW.seq ?_ | refine SW.block ?_ | refine SW.rowC ?_ | refine SW.skip ?_ | refine SW.exit ?_ | intro _ | refine And.intro (by omega) ?_) | simp (config := { maxSteps := 1000000 }) (disch := (first | omega | (simp only [go_sem]; try omega))) only [go_sem, Nat.reduceAdd, Nat.reduceEqDiff, Nat.reduceLeDiff, Nat.reduceMul, Nat.reduceLT, reduceIte, Int.reduceToNat, w64_id, cast_succ])
  refine SW.condF rfl ?_
  repeat (first | (with_reducible first | refine SW.seq ?_ | refine SW.block ?_ | refine SW.rowC ?_ | refine SW.skip ?_ | refine SW.exit ?_ | intro _ | refine And.intro (by omega) ?_) | simp (config := { maxSteps := 1000000 }) (disch := (first | omega | (simp only [go_sem]; try omega))) only [go_sem, Nat.reduceAdd, Nat.reduceEqDiff, Nat.reduceLeDiff, Nat.reduceMul, Nat.reduceLT, reduceIte, Int.reduceToNat, w64_id, cast_succ])
  refine SW.ret ?_; (try simp only [go_sem]); (first | refine FunPost.one ?_ | refine FunPost.two ?_ | refine FunPost.three ?_); (try simp (config := { maxSteps := 1000000 }) (disch := (first | omega | (simp only [go_sem]; try omega))) only [go_sem, Nat.reduceAdd, Nat.reduceEqDiff, Nat.reduceLeDiff, Nat.reduceMul, Nat.reduceLT, reduceIte, Int.reduceToNat, w64_id, cast_succ])
  refine GR.ren (js := [some H.length]) (H2 := [⟨0, 22, 1, []⟩]) ⟨rfl, ?_, ?_, ?_⟩ (.nm 0 H.length 0 0 0 ⟨0, 22, 1, []⟩ rfl (by simp) rfl) ⟨rfl, rfl⟩
  · intro p q j hp hq
    have h1 := (List.getElem?_eq_some_iff.1 hp).1
    have h2 := (List.getElem?_eq_some_iff.1 hq).1
    simp at h1 h2; omega
  · intro p j nb hp hn
    have h1 := (List.getElem?_eq_some_iff.1 hp).1
    have : p = 0 := by simp at h1; omega
    subst this
    simp at hp hn
    subst hp; subst hn
    exact ⟨⟨0, 22, 1, []⟩, Nat.le_refl _, by simp, by simp, rfl, rfl, rfl, Nat.le_refl _, fun i c' hc => by simp at hc⟩
  · intro p nb hp
    have h1 := (List.getElem?_eq_some_iff.1 hp).1
    have : p = 0 := by simp at h1; omega
    subst this
    simp at hp
theorem allSubsets_sq2 (H : List Blk) (n k : Nat) (hn : n ≤ 32) (hk : k ≤ 1000000) : ACalls Tryz.prog f_impl_allSubsets [I n, I k] H (fun r H' => ∃ ver, r = .nm H.length ver 0 (subsN n k).length ∧ H' = H ++ sqB ver 0 H.length (subsN n k)) := by
  by_cases h : k ≤ n
  · exact allSubsets_sq H n k hn h
  · have h0 : subsN n k = [] := (subsL_head n 0 k).2 (by omega)
    rw [h0]
    refine (allSubsets_gt H n k (by omega) hk).mono ?_
    rintro r H' ⟨rfl, rfl⟩
    exact ⟨0, rfl, rfl⟩
end Go.Proofs.YtmdeibdplpodpaaGreat
