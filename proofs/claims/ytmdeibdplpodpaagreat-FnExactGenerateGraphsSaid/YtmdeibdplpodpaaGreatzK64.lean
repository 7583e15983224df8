/- Automorphisms of systems; the least image of a system. -/
import Derived.Test.YtmdeibdplpodpaaGreatProg
import Derived.KernelRfl
import Derived.Test.YtmdeibdplpodpaaGreatzK63
set_option linter.unusedSimpArgs false
set_option linter.unusedVariables false
set_option maxHeartbeats 4000000
set_option maxRecDepth 100000
namespace Go.Proofs.YtmdeibdplpodpaaGreat
open Go.Av
abbrev f_spec_l27Least : Nat := 43
def c_spec_l27Least : SC :=
 .seq (.reg [
     ⟨(some 4), .mv (.const (.slice none 0 0)), none⟩,
     ⟨(some 5), .mv (.const (.int .i64 0)), none⟩] [0, 1])
 (.seq (.reg [
     ⟨(some 10), .mv (.tmp 1), none⟩,
     ⟨(some 11), .call 71 [(.tmp 10)], none⟩,
     ⟨(some 6), .mv (.tmp 11), none⟩] [0, 1, 6])
 (.seq (.reg [
     ⟨(some 7), .mv (.const (.int .i64 0)), none⟩] [0, 1, 6, 7])
 (.seq (.seq (.reg [
     ⟨(some 8), .mv (.const (.int .i64 0)), none⟩] [0, 1, 6, 7, 8])
 (.block 0 (.loop [0, 1, 6, 7, 8]
   (.seq (.seq (.reg [
       ⟨(some 12), .mv (.tmp 8), none⟩,
       ⟨(some 13), .mv (.tmp 0), none⟩,
       ⟨(some 14), .call 72 [(.tmp 13)], none⟩,
       ⟨(some 15), .bin .lss (.tmp 12) (.tmp 14), none⟩] [0, 1, 6, 7, 8, 15])
   (.cond (.tmp 15)
    (.skip)
    (.exit 0)))
   (.seq (.block 1 (.seq (.reg [
        ⟨(some 18), .mv (.tmp 0), none⟩,
        ⟨(some 19), .mv (.tmp 8), none⟩,
        ⟨(some 20), .call 74 [(.tmp 18), (.tmp 19)], none⟩,
        ⟨(some 21), .mv (.tmp 1), none⟩,
        ⟨(some 22), .call 73 [(.tmp 20), (.tmp 21)], none⟩,
        ⟨(some 9), .mv (.tmp 22), none⟩] [0, 1, 6, 7, 8, 9])
    (.seq (.seq (.reg [
        ⟨(some 23), .mv (.tmp 9), none⟩,
        ⟨(some 24), .mv (.tmp 6), none⟩,
        ⟨(some 25), .call 75 [(.tmp 23), (.tmp 24)], none⟩,
        ⟨(some 26), .bin .lss (.tmp 25) (.const (.int .i64 0)), none⟩] [0, 1, 6, 7, 8, 9, 26])
    (.cond (.tmp 26)
     (.reg [
         ⟨(some 27), .mv (.tmp 9), none⟩,
         ⟨(some 6), .mv (.tmp 27), none⟩] [0, 1, 6, 7, 8, 9])
     (.skip)))
    (.seq (.reg [
        ⟨(some 28), .mv (.tmp 9), none⟩,
        ⟨(some 29), .mv (.tmp 1), none⟩,
        ⟨(some 30), .call 75 [(.tmp 28), (.tmp 29)], none⟩,
        ⟨(some 31), .bin .eql (.tmp 30) (.const (.int .i64 0)), none⟩] [0, 1, 6, 7, 8, 31])
    (.cond (.tmp 31)
     (.reg [
         ⟨(some 32), .mv (.tmp 7), none⟩,
         ⟨(some 33), .bin .add (.tmp 32) (.const (.int .i64 1)), none⟩,
         ⟨(some 7), .mv (.tmp 33), none⟩] [0, 1, 6, 7, 8])
     (.skip))))))
   (.reg [
       ⟨(some 16), .mv (.tmp 8), none⟩,
       ⟨(some 17), .bin .add (.tmp 16) (.const (.int .i64 1)), none⟩,
       ⟨(some 8), .mv (.tmp 17), none⟩] [0, 1, 6, 7, 8]))))))
 (.seq (.reg [
     ⟨(some 34), .mv (.tmp 6), none⟩,
     ⟨(some 35), .mv (.tmp 7), none⟩,
     ⟨(some 4), .mv (.tmp 34), none⟩,
     ⟨(some 5), .mv (.tmp 35), none⟩] [4, 5])
 (.ret)))))
theorem s_spec_l27Least : stripF Tryz.prog 43 [[0, 1], [0, 1, 6], [0, 1, 6, 7], [0, 1, 6, 7, 8], [0, 1, 6, 7, 8], [0, 1, 6, 7, 8, 15], [0, 1, 6, 7, 8, 9], [0, 1, 6, 7, 8, 9, 26], [0, 1, 6, 7, 8, 9], [0, 1, 6, 7, 8, 31], [0, 1, 6, 7, 8], [0, 1, 6, 7, 8], [4, 5]] = some (c_spec_l27Least, [.tmp 4, .tmp 5], 36) := by kernel_rfl
abbrev f_impl_leastSystem : Nat := 81
def c_impl_leastSystem : SC :=
 .seq (.reg [
     ⟨(some 4), .mv (.const (.slice none 0 0)), none⟩] [0, 1])
 (.seq (.reg [
     ⟨(some 9), .mv (.tmp 1), none⟩,
     ⟨(some 5), .mv (.tmp 9), none⟩] [0, 1, 5])
 (.seq (.seq (.reg [
     ⟨(some 10), .mv (.tmp 0), none⟩,
     ⟨(some 11), .call 117 [(.tmp 10)], none⟩,
     ⟨(some 12), .len (.tmp 11), none⟩,
     ⟨(some 13), .mv (.const (.int .i64 0)), none⟩] [1, 5, 11, 12, 13])
 (.block 0 (.loop [1, 5, 11, 12, 13]
   (.seq (.reg [
       ⟨(some 14), .bin .lss (.tmp 13) (.tmp 12), none⟩] [1, 5, 11, 12, 13, 14])
   (.seq (.cond (.tmp 14)
    (.skip)
    (.exit 0))
   (.seq (.block 1 (.seq (.reg [
        ⟨(some 15), .iaddr 1 (.tmp 11) (.tmp 13), none⟩,
        ⟨(some 16), .load 1 false (.tmp 15), none⟩,
        ⟨(some 7), .mv (.tmp 16), none⟩] [1, 5, 7, 11, 12, 13])
    (.seq (.reg [
        ⟨(some 17), .mv (.tmp 7), none⟩,
        ⟨(some 18), .mv (.tmp 1), none⟩,
        ⟨(some 19), .call 118 [(.tmp 17), (.tmp 18)], none⟩,
        ⟨(some 8), .mv (.tmp 19), none⟩] [1, 5, 8, 11, 12, 13])
    (.seq (.reg [
        ⟨(some 20), .mv (.tmp 8), none⟩,
        ⟨(some 21), .mv (.tmp 5), none⟩,
        ⟨(some 22), .call 83 [(.tmp 20), (.tmp 21)], none⟩,
        ⟨(some 23), .bin .lss (.tmp 22) (.const (.int .i64 0)), none⟩] [1, 5, 8, 11, 12, 13, 23])
    (.cond (.tmp 23)
     (.reg [
         ⟨(some 24), .mv (.tmp 8), none⟩,
         ⟨(some 5), .mv (.tmp 24), none⟩] [1, 5, 11, 12, 13])
     (.skip))))))
   (.reg [
       ⟨(some 25), .bin .add (.tmp 13) (.const (.int .i64 1)), none⟩,
       ⟨(some 13), .mv (.tmp 25), none⟩] [1, 5, 11, 12, 13])))))))
 (.seq (.reg [
     ⟨(some 26), .mv (.tmp 5), none⟩,
     ⟨(some 27), .call 78 [(.tmp 26)], none⟩,
     ⟨(some 4), .mv (.tmp 27), none⟩] [4])
 (.ret))))
theorem s_impl_leastSystem : stripF Tryz.prog 81 [[0, 1], [0, 1, 5], [1, 5, 11, 12, 13], [1, 5, 11, 12, 13], [1, 5, 11, 12, 13, 14], [1, 5, 7, 11, 12, 13], [1, 5, 8, 11, 12, 13], [1, 5, 8, 11, 12, 13, 23], [1, 5, 11, 12, 13], [1, 5, 11, 12, 13], [4]] = some (c_impl_leastSystem, [.tmp 4], 28) := by kernel_rfl
theorem perms_ok {n : Nat} {p : List Int} (h : p ∈ perms n) : permOk n p := by
  obtain ⟨r, hr, rfl⟩ := List.mem_map.1 h
  rw [List.mem_range] at hr
  exact perm_ok hr
def sysOk (n : Nat) (bs : List (List Int)) : Prop := 1 ≤ n ∧ n ≤ 6 ∧ Asc cmpL bs ∧ ∀ b ∈ bs, asc 0 ((n : Int) - 1) b = true
theorem imgS_len {n : Nat} {p : List Int} {bs : List (List Int)} (hs : sysOk n bs) (hp : permOk n p) : (imgS p bs).length = bs.length := by
  have := (sortU_perm cmpL_tot (images_nodup hp hs.2.2.1 hs.2.2.2)).length_eq
  unfold imgS; rw [this, List.length_map]
theorem imgS_row {n : Nat} {p : List Int} {bs : List (List Int)} (hs : sysOk n bs) {r : List Int} (hr : r ∈ imgS p bs) : r.length ≤ 64 := by
  unfold imgS at hr
  rw [sortU_mem cmpL_tot] at hr
  obtain ⟨b, hb, rfl⟩ := List.mem_map.1 hr
  have h1 := sortU_len (cf := cmpZ) (b.map (pa p))
  rw [List.length_map] at h1
  have h2 := asc_len (hs.2.2.2 b hb)
  have h3 := hs.2.1
  unfold img
  rcases h2 with h2 | h2
  · rw [h2]; simp [sortU]
  · omega
def leastF (bs : List (List Int)) (l : List (List Int)) : List (List Int) := l.foldl (fun best p => if cmpSS (imgS p bs) best < 0 then imgS p bs else best) bs
def sameC (bs : List (List Int)) (l : List (List Int)) : Nat := (l.filter fun p => decide (cmpSS (imgS p bs) bs = 0)).length
theorem leastF_snoc (bs l : List (List Int)) (p : List Int) : leastF bs (l ++ [p]) = if cmpSS (imgS p bs) (leastF bs l) < 0 then imgS p bs else leastF bs l := by unfold leastF; rw [List.foldl_append]; rfl
theorem sameC_snoc (bs l : List (List Int)) (p : List Int) : sameC bs (l ++ [p]) = sameC bs l + (if cmpSS (imgS p bs) bs = 0 then 1 else 0) := by
  unfold sameC
  rw [List.filter_append, List.length_append]
  by_cases h : cmpSS (imgS p bs) bs = 0 <;> simp [h]
theorem sameC_len (bs l : List (List Int)) : sameC bs l ≤ l.length := List.length_filter_le _ _
theorem leastF_ok {n : Nat} {bs : List (List Int)} (hs : sysOk n bs) : ∀ l : List (List Int), (∀ p ∈ l, permOk n p) → (leastF bs l).length = bs.length ∧ ∀ r ∈ leastF bs l, r.length ≤ 64 := by
  intro l
  rw [← List.reverse_reverse l]
  induction l.reverse with
  | nil =>
    intro _
    refine ⟨rfl, fun r hr => ?_⟩
    have h2 := asc_len (hs.2.2.2 r hr)
    have h3 := hs.2.1
    rcases h2 with h2 | h2
    · rw [h2]; simp
    · omega
  | cons p r ih =>
    intro h
    rw [List.reverse_cons] at h ⊢
    have ih' := ih (fun q hq => h q (by simp at hq ⊢; exact .inl hq))
    rw [leastF_snoc]
    split
    · exact ⟨imgS_len hs (h p (by simp)), fun r hr => imgS_row hs hr⟩
    · exact ih'
theorem l27Least_fn (n : Nat) (bs : List (List Int)) (hs : sysOk n bs) (hl : bs.length ≤ 2000000) : PFn Tryz.prog f_spec_l27Least [I n, ilSS bs] (.tup [ilSS (leastF bs (perms n)), I (sameC bs (perms n))]) := by
  intro H; refine ACalls.introB s_spec_l27Least (by simp) ?_; intro hB hA; unfold c_spec_l27Least; simp (config := { maxSteps := 1000000 }) (disch := (first | omega | (simp only [go_sem]; try omega))) only [go_sem, Nat.reduceAdd, Nat.reduceEqDiff, Nat.reduceLeDiff, Nat.reduceMul, Nat.reduceLT, reduceIte, Int.reduceToNat, w64_id, cast_succ]
  have hn := hs.2.1
  have hf := fct_le hn
  have hrow : ∀ x ∈ bs, x.length ≤ 2000000 := fun x hx => by have := (leastF_ok hs [] (by simp)).2 x hx; omega
  have hperm := fun r (hr : r < fct n) => perm_ok (n := n) hr
  unfold perms
  repeat (first | (with_reducible first | refine SW.seq ?_ | refine SW.block ?_ | refine SW.rowC ?_ | refine SW.skip ?_ | refine SW.exit ?_ | refine PFn.use (l06OwnF_fn bs hl hrow) ?_ | refine PFn.useq (l06OwnF_fn bs hl hrow) ?_ | intro _ | refine And.intro (by omega) ?_) | simp (config := { maxSteps := 1000000 }) (disch := (first | omega | (simp only [go_sem]; try omega))) only [go_sem, Nat.reduceAdd, Nat.reduceEqDiff, Nat.reduceLeDiff, Nat.reduceMul, Nat.reduceLT, reduceIte, Int.reduceToNat, w64_id, cast_succ])
  generalize hN : fct n = N at *
  refine SW.loopE (fun E0 H0 q E' H' => ∃ m : Nat, m ≤ N ∧ q = N - m ∧ E' = aput (aput (aput E0 8 (I m)) 6 (ilSS (leastF bs ((List.range m).map (perm n))))) 7 (I (sameC bs ((List.range m).map (perm n)))) ∧ H' = H0) N ⟨0, by omega, by omega, rfl, rfl⟩ ?_
  rintro q E' H' ⟨m, hm, rfl, rfl, rfl⟩
  have hms : (List.range (m + 1)).map (perm n) = (List.range m).map (perm n) ++ [perm n m] := by simp [List.range_succ]
  have hml : ((List.range m).map (perm n)).length = m := by simp
  have hok := leastF_ok hs ((List.range m).map (perm n)) (fun p hp => by
    obtain ⟨r, hr, rfl⟩ := List.mem_map.1 hp
    rw [List.mem_range] at hr
    exact hperm r (by omega))
  have hsl := sameC_len bs ((List.range m).map (perm n))
  have hls := leastF_snoc bs ((List.range m).map (perm n)) (perm n m)
  have hss := sameC_snoc bs ((List.range m).map (perm n)) (perm n m)
  rw [← hms] at hls hss
  generalize hB0 : leastF bs ((List.range m).map (perm n)) = B at *
  generalize hC0 : sameC bs ((List.range m).map (perm n)) = C at *
  have hfa : PFn Tryz.prog f_spec_l04Factorial [I n] (I N) := by rw [← hN]; exact specFact_fn n hn
  simp (config := { maxSteps := 1000000 }) (disch := (first | omega | (simp only [go_sem]; try omega))) only [go_sem, Nat.reduceAdd, Nat.reduceEqDiff, Nat.reduceLeDiff, Nat.reduceMul, Nat.reduceLT, reduceIte, Int.reduceToNat, w64_id, cast_succ]
  repeat (first | (with_reducible first | refine SW.seq ?_ | refine SW.block ?_ | refine SW.rowC ?_ | refine SW.skip ?_ | refine SW.exit ?_ | refine PFn.use (hfa) ?_ | refine PFn.useq (hfa) ?_ | intro _ | refine And.intro (by omega) ?_) | simp (config := { maxSteps := 1000000 }) (disch := (first | omega | (simp only [go_sem]; try omega))) only [go_sem, Nat.reduceAdd, Nat.reduceEqDiff, Nat.reduceLeDiff, Nat.reduceMul, Nat.reduceLT, reduceIte, Int.reduceToNat, w64_id, cast_succ])
  (first | refine SW.condD rfl (fun h => ?_) (fun h => ?_) | refine SW.condN rfl (fun h => ?_) (fun h => ?_) | refine SW.condNB rfl (fun h => ?_) (fun h => ?_) | refine SW.condB rfl (fun h => ?_) (fun h => ?_))
  · have hp := hperm m (by omega)
    have hil := imgS_len hs hp
    have hur : PFn Tryz.prog f_spec_l04Unrank [I n, I m] (ilS (perm n m)) := l04Unrank_fn n m hn (by omega)
    generalize perm n m = p at *
    have hli := l27Image_fn n p bs (by omega) hp hs.2.2.2 hl
    have hlc := l27Compare_fn (imgS p bs) B (by omega)
    have hlc2 := l27Compare_fn (imgS p bs) bs (by omega)
    repeat (first | (with_reducible first | refine SW.seq ?_ | refine SW.block ?_ | refine SW.rowC ?_ | refine SW.skip ?_ | refine SW.exit ?_ | refine PFn.use (hur) ?_ | refine PFn.useq (hur) ?_ | refine PFn.use (hli) ?_ | refine PFn.useq (hli) ?_ | refine PFn.use (hlc) ?_ | refine PFn.useq (hlc) ?_ | intro _ | refine And.intro (by omega) ?_) | simp (config := { maxSteps := 1000000 }) (disch := (first | omega | (simp only [go_sem]; try omega))) only [go_sem, Nat.reduceAdd, Nat.reduceEqDiff, Nat.reduceLeDiff, Nat.reduceMul, Nat.reduceLT, reduceIte, Int.reduceToNat, w64_id, cast_succ])
    by_cases h0 : cmpSS (imgS p bs) B < 0
    · rw [if_pos h0] at hls
      have hd : decide (cmpSS (imgS p bs) B < 0) = true := decide_eq_true h0
      repeat (first | (with_reducible first | refine SW.seq ?_ | refine SW.block ?_ | refine SW.rowC ?_ | refine SW.skip ?_ | refine SW.exit ?_ | intro _ | refine And.intro (by omega) ?_) | simp (config := { maxSteps := 1000000 }) (disch := (first | omega | (simp only [go_sem]; try omega))) only [go_sem, Nat.reduceAdd, Nat.reduceEqDiff, Nat.reduceLeDiff, Nat.reduceMul, Nat.reduceLT, reduceIte, Int.reduceToNat, w64_id, cast_succ, hd])
      refine SW.condT rfl ?_
      repeat (first | (with_reducible first | refine SW.seq ?_ | refine SW.block ?_ | refine SW.rowC ?_ | refine SW.skip ?_ | refine SW.exit ?_ | refine PFn.use (hlc2) ?_ | refine PFn.useq (hlc2) ?_ | intro _ | refine And.intro (by omega) ?_) | simp (config := { maxSteps := 1000000 }) (disch := (first | omega | (simp only [go_sem]; try omega))) only [go_sem, Nat.reduceAdd, Nat.reduceEqDiff, Nat.reduceLeDiff, Nat.reduceMul, Nat.reduceLT, reduceIte, Int.reduceToNat, w64_id, cast_succ])
      by_cases h9 : cmpSS (imgS p bs) bs = 0
      · rw [if_pos h9] at hss
        have hd2 : decide (cmpSS (imgS p bs) bs = 0) = true := decide_eq_true h9
        repeat (first | (with_reducible first | refine SW.seq ?_ | refine SW.block ?_ | refine SW.rowC ?_ | refine SW.skip ?_ | refine SW.exit ?_ | intro _ | refine And.intro (by omega) ?_) | simp (config := { maxSteps := 1000000 }) (disch := (first | omega | (simp only [go_sem]; try omega))) only [go_sem, Nat.reduceAdd, Nat.reduceEqDiff, Nat.reduceLeDiff, Nat.reduceMul, Nat.reduceLT, reduceIte, Int.reduceToNat, w64_id, cast_succ, hd2])
        refine SW.condT rfl ?_
        repeat (first | (with_reducible first | refine SW.seq ?_ | refine SW.block ?_ | refine SW.rowC ?_ | refine SW.skip ?_ | refine SW.exit ?_ | intro _ | refine And.intro (by omega) ?_) | simp (config := { maxSteps := 1000000 }) (disch := (first | omega | (simp only [go_sem]; try omega))) only [go_sem, Nat.reduceAdd, Nat.reduceEqDiff, Nat.reduceLeDiff, Nat.reduceMul, Nat.reduceLT, reduceIte, Int.reduceToNat, w64_id, cast_succ])
        refine SLoop.next (N - (m + 1)) (by omega) ⟨m + 1, by omega, rfl, ?_, rfl⟩
        rw [hls, hss]; simp [go_sem]
      · rw [if_neg h9] at hss
        have hd2 : decide (cmpSS (imgS p bs) bs = 0) = false := decide_eq_false h9
        repeat (first | (with_reducible first | refine SW.seq ?_ | refine SW.block ?_ | refine SW.rowC ?_ | refine SW.skip ?_ | refine SW.exit ?_ | intro _ | refine And.intro (by omega) ?_) | simp (config := { maxSteps := 1000000 }) (disch := (first | omega | (simp only [go_sem]; try omega))) only [go_sem, Nat.reduceAdd, Nat.reduceEqDiff, Nat.reduceLeDiff, Nat.reduceMul, Nat.reduceLT, reduceIte, Int.reduceToNat, w64_id, cast_succ, hd2])
        refine SW.condF rfl ?_
        repeat (first | (with_reducible first | refine SW.seq ?_ | refine SW.block ?_ | refine SW.rowC ?_ | refine SW.skip ?_ | refine SW.exit ?_ | intro _ | refine And.intro (by omega) ?_) | simp (config := { maxSteps := 1000000 }) (disch := (first | omega | (simp only [go_sem]; try omega))) only [go_sem, Nat.reduceAdd, Nat.reduceEqDiff, Nat.reduceLeDiff, Nat.reduceMul, Nat.reduceLT, reduceIte, Int.reduceToNat, w64_id, cast_succ])
        refine SLoop.next (N - (m + 1)) (by omega) ⟨m + 1, by omega, rfl, ?_, rfl⟩
        rw [hls, hss]; simp [go_sem]
    · rw [if_neg h0] at hls
      have hd : decide (cmpSS (imgS p bs) B < 0) = false := decide_eq_false h0
      repeat (first | (with_reducible first | refine SW.seq ?_ | refine SW.block ?_ | refine SW.rowC ?_ | refine SW.skip ?_ | refine SW.exit ?_ | intro _ | refine And.intro (by omega) ?_) | simp (config := { maxSteps := 1000000 }) (disch := (first | omega | (simp only [go_sem]; try omega))) only [go_sem, Nat.reduceAdd, Nat.reduceEqDiff, Nat.reduceLeDiff, Nat.reduceMul, Nat.reduceLT, reduceIte, Int.reduceToNat, w64_id, cast_succ, hd])
      refine SW.condF rfl ?_
      repeat (first | (with_reducible first | refine SW.seq ?_ | refine SW.block ?_ | refine SW.rowC ?_ | refine SW.skip ?_ | refine SW.exit ?_ | refine PFn.use (hlc2) ?_ | refine PFn.useq (hlc2) ?_ | intro _ | refine And.intro (by omega) ?_) | simp (config := { maxSteps := 1000000 }) (disch := (first | omega | (simp only [go_sem]; try omega))) only [go_sem, Nat.reduceAdd, Nat.reduceEqDiff, Nat.reduceLeDiff, Nat.reduceMul, Nat.reduceLT, reduceIte, Int.reduceToNat, w64_id, cast_succ])
      by_cases h9 : cmpSS (imgS p bs) bs = 0
      · rw [if_pos h9] at hss
        have hd2 : decide (cmpSS (imgS p bs) bs = 0) = true := decide_eq_true h9
        repeat (first | (with_reducible first | refine SW.seq ?_ | refine SW.block ?_ | refine SW.rowC ?_ | refine SW.skip ?_ | refine SW.exit ?_ | intro _ | refine And.intro (by omega) ?_) | simp (config := { maxSteps := 1000000 }) (disch := (first | omega | (simp only [go_sem]; try omega))) only [go_sem, Nat.reduceAdd, Nat.reduceEqDiff, Nat.reduceLeDiff, Nat.reduceMul, Nat.reduceLT, reduceIte, Int.reduceToNat, w64_id, cast_succ, hd2])
        refine SW.condT rfl ?_
        repeat (first | (with_reducible first | refine SW.seq ?_ | refine SW.block ?_ | refine SW.rowC ?_ | refine SW.skip ?_ | refine SW.exit ?_ | intro _ | refine And.intro (by omega) ?_) | simp (config := { maxSteps := 1000000 }) (disch := (first | omega | (simp only [go_sem]; try omega))) only [go_sem, Nat.reduceAdd, Nat.reduceEqDiff, Nat.reduceLeDiff, Nat.reduceMul, Nat.reduceLT, reduceIte, Int.reduceToNat, w64_id, cast_succ])
        refine SLoop.next (N - (m + 1)) (by omega) ⟨m + 1, by omega, rfl, ?_, rfl⟩
        rw [hls, hss]; simp [go_sem]
      · rw [if_neg h9] at hss
        have hd2 : decide (cmpSS (imgS p bs) bs = 0) = false := decide_eq_false h9
        repeat (first | (with_reducible first | refine SW.seq ?_ | refine SW.block ?_ | refine SW.rowC ?_ | refine SW.skip ?_ | refine SW.exit ?_ | intro _ | refine And.intro (by omega) ?_) | simp (config := { maxSteps := 1000000 }) (disch := (first | omega | (simp only [go_sem]; try omega))) only [go_sem, Nat.reduceAdd, Nat.reduceEqDiff, Nat.reduceLeDiff, Nat.reduceMul, Nat.reduceLT, reduceIte, Int.reduceToNat, w64_id, cast_succ, hd2])
        refine SW.condF rfl ?_
        repeat (first | (with_reducible first | refine SW.seq ?_ | refine SW.block ?_ | refine SW.rowC ?_ | refine SW.skip ?_ | refine SW.exit ?_ | intro _ | refine And.intro (by omega) ?_) | simp (config := { maxSteps := 1000000 }) (disch := (first | omega | (simp only [go_sem]; try omega))) only [go_sem, Nat.reduceAdd, Nat.reduceEqDiff, Nat.reduceLeDiff, Nat.reduceMul, Nat.reduceLT, reduceIte, Int.reduceToNat, w64_id, cast_succ])
        refine SLoop.next (N - (m + 1)) (by omega) ⟨m + 1, by omega, rfl, ?_, rfl⟩
        rw [hls, hss]; simp [go_sem]
  · have : m = N := by omega
    subst this
    rw [hB0, hC0]
    repeat (first | (with_reducible first | refine SW.seq ?_ | refine SW.block ?_ | refine SW.rowC ?_ | refine SW.skip ?_ | refine SW.exit ?_ | intro _ | refine And.intro (by omega) ?_) | simp (config := { maxSteps := 1000000 }) (disch := (first | omega | (simp only [go_sem]; try omega))) only [go_sem, Nat.reduceAdd, Nat.reduceEqDiff, Nat.reduceLeDiff, Nat.reduceMul, Nat.reduceLT, reduceIte, Int.reduceToNat, w64_id, cast_succ])
    refine SW.ret ?_; (try simp only [go_sem]); (first | refine FunPost.one ?_ | refine FunPost.two ?_ | refine FunPost.three ?_); (try simp (config := { maxSteps := 1000000 }) (disch := (first | omega | (simp only [go_sem]; try omega))) only [go_sem, Nat.reduceAdd, Nat.reduceEqDiff, Nat.reduceLeDiff, Nat.reduceMul, Nat.reduceLT, reduceIte, Int.reduceToNat, w64_id, cast_succ]); (first | (with_reducible refine GR.drop ?_ ?_; (simp only [go_sem, and_self, and_true, true_and, implies_true, List.take_succ_cons, List.take_zero])) | refine GR.of ?_); refine ⟨?_, rfl⟩; (try with_reducible rfl)
theorem GR.froz0 {H0 : List Blk} {R : AV → List Blk → Prop} {r r' : AV} (hf : Froz H0 H0.length r r') (h : R r' H0) : GR H0 R r H0 := by
  have e := GR.froz (H0 := H0) (ext := []) (R := R) (r := r) (r' := r') (by rw [List.append_nil]; exact hf) h
  rw [List.append_nil] at e
  exact e
theorem leastSystem_own (H : List Blk) (n : Nat) (bs : List (List Int)) (hs : sysOk n bs) (hl : bs.length ≤ 2000000) : ACalls Tryz.prog f_impl_leastSystem [I n, ilSS bs] H (fun r H' => ∃ ext, H' = H ++ ext ∧ OwnSS H' (Btw H.length H'.length) r (leastF bs (perms n))) := by
  have hpm : ∀ p ∈ perms n, permOk n p := fun p hp => perms_ok hp
  have hap := allPermutations_fn n hs.2.1
  have hok := leastF_ok hs (perms n) hpm
  generalize perms n = P at *
  refine ACalls.introB s_impl_leastSystem (by simp) ?_; intro hB hA; unfold c_impl_leastSystem; simp (config := { maxSteps := 1000000 }) (disch := (first | omega | (simp only [go_sem]; try omega))) only [go_sem, Nat.reduceAdd, Nat.reduceEqDiff, Nat.reduceLeDiff, Nat.reduceMul, Nat.reduceLT, reduceIte, Int.reduceToNat, w64_id, cast_succ]
  repeat (first | (with_reducible first | refine SW.seq ?_ | refine SW.block ?_ | refine SW.rowC ?_ | refine SW.skip ?_ | refine SW.exit ?_ | refine PFn.use (hap) ?_ | refine PFn.useq (hap) ?_ | intro _ | refine And.intro (by omega) ?_) | simp (config := { maxSteps := 1000000 }) (disch := (first | omega | (simp only [go_sem]; try omega))) only [go_sem, Nat.reduceAdd, Nat.reduceEqDiff, Nat.reduceLeDiff, Nat.reduceMul, Nat.reduceLT, reduceIte, Int.reduceToNat, w64_id, cast_succ])
  refine SW.loopE (fun E0 H0 q E' H' => ∃ (pre post : List (List Int)), P = pre ++ post ∧ q = post.length ∧ E' = aput (aput E0 13 (I pre.length)) 5 (ilSS (leastF bs pre)) ∧ H' = H0) P.length ⟨[], P, rfl, rfl, rfl, rfl⟩ ?_
  rintro q E' H' ⟨pre, post, hpp, rfl, rfl, rfl⟩
  simp (config := { maxSteps := 1000000 }) (disch := (first | omega | (simp only [go_sem]; try omega))) only [go_sem, Nat.reduceAdd, Nat.reduceEqDiff, Nat.reduceLeDiff, Nat.reduceMul, Nat.reduceLT, reduceIte, Int.reduceToNat, w64_id, cast_succ]
  repeat (first | (with_reducible first | refine SW.seq ?_ | refine SW.block ?_ | refine SW.rowC ?_ | refine SW.skip ?_ | refine SW.exit ?_ | intro _ | refine And.intro (by omega) ?_) | simp (config := { maxSteps := 1000000 }) (disch := (first | omega | (simp only [go_sem]; try omega))) only [go_sem, Nat.reduceAdd, Nat.reduceEqDiff, Nat.reduceLeDiff, Nat.reduceMul, Nat.reduceLT, reduceIte, Int.reduceToNat, w64_id, cast_succ])
  (first | refine SW.condD rfl (fun h => ?_) (fun h => ?_) | refine SW.condN rfl (fun h => ?_) (fun h => ?_) | refine SW.condNB rfl (fun h => ?_) (fun h => ?_) | refine SW.condB rfl (fun h => ?_) (fun h => ?_))
  · obtain ⟨p, post, rfl, hg, -⟩ := consOf (d := []) hpp (by omega)
    have hp := hpm p (by rw [hpp]; simp)
    have hls := leastF_snoc bs pre p
    generalize leastF bs pre = B at *
    have hsi := systemImage_fn n p bs (by have := hs.2.1; omega) hp hs.2.2.1 hs.2.2.2 hl
    have hcs := compareSystems_fn (imgS p bs) B
    repeat (first | (with_reducible first | refine SW.seq ?_ | refine SW.block ?_ | refine SW.rowC ?_ | refine SW.skip ?_ | refine SW.exit ?_ | refine PFn.use (hsi) ?_ | refine PFn.useq (hsi) ?_ | refine PFn.use (hcs) ?_ | refine PFn.useq (hcs) ?_ | intro _ | refine And.intro (by omega) ?_) | simp (config := { maxSteps := 1000000 }) (disch := (first | omega | (simp only [go_sem]; try omega))) only [go_sem, Nat.reduceAdd, Nat.reduceEqDiff, Nat.reduceLeDiff, Nat.reduceMul, Nat.reduceLT, reduceIte, Int.reduceToNat, w64_id, cast_succ, hg])
    by_cases h0 : cmpSS (imgS p bs) B < 0
    · rw [if_pos h0] at hls
      have hd : decide (cmpSS (imgS p bs) B < 0) = true := decide_eq_true h0
      repeat (first | (with_reducible first | refine SW.seq ?_ | refine SW.block ?_ | refine SW.rowC ?_ | refine SW.skip ?_ | refine SW.exit ?_ | intro _ | refine And.intro (by omega) ?_) | simp (config := { maxSteps := 1000000 }) (disch := (first | omega | (simp only [go_sem]; try omega))) only [go_sem, Nat.reduceAdd, Nat.reduceEqDiff, Nat.reduceLeDiff, Nat.reduceMul, Nat.reduceLT, reduceIte, Int.reduceToNat, w64_id, cast_succ, hd])
      refine SW.condT rfl ?_
      repeat (first | (with_reducible first | refine SW.seq ?_ | refine SW.block ?_ | refine SW.rowC ?_ | refine SW.skip ?_ | refine SW.exit ?_ | intro _ | refine And.intro (by omega) ?_) | simp (config := { maxSteps := 1000000 }) (disch := (first | omega | (simp only [go_sem]; try omega))) only [go_sem, Nat.reduceAdd, Nat.reduceEqDiff, Nat.reduceLeDiff, Nat.reduceMul, Nat.reduceLT, reduceIte, Int.reduceToNat, w64_id, cast_succ])
      refine SLoop.next post.length (by simp) ⟨pre ++ [p], post, by simp [hpp], rfl, ?_, rfl⟩
      rw [hls]; simp [go_sem]
    · rw [if_neg h0] at hls
      have hd : decide (cmpSS (imgS p bs) B < 0) = false := decide_eq_false h0
      repeat (first | (with_reducible first | refine SW.seq ?_ | refine SW.block ?_ | refine SW.rowC ?_ | refine SW.skip ?_ | refine SW.exit ?_ | intro _ | refine And.intro (by omega) ?_) | simp (config := { maxSteps := 1000000 }) (disch := (first | omega | (simp only [go_sem]; try omega))) only [go_sem, Nat.reduceAdd, Nat.reduceEqDiff, Nat.reduceLeDiff, Nat.reduceMul, Nat.reduceLT, reduceIte, Int.reduceToNat, w64_id, cast_succ, hd])
      refine SW.condF rfl ?_
      repeat (first | (with_reducible first | refine SW.seq ?_ | refine SW.block ?_ | refine SW.rowC ?_ | refine SW.skip ?_ | refine SW.exit ?_ | intro _ | refine And.intro (by omega) ?_) | simp (config := { maxSteps := 1000000 }) (disch := (first | omega | (simp only [go_sem]; try omega))) only [go_sem, Nat.reduceAdd, Nat.reduceEqDiff, Nat.reduceLeDiff, Nat.reduceMul, Nat.reduceLT, reduceIte, Int.reduceToNat, w64_id, cast_succ])
      refine SLoop.next post.length (by simp) ⟨pre ++ [p], post, by simp [hpp], rfl, ?_, rfl⟩
      rw [hls]; simp [go_sem]
  · obtain ⟨rfl, rfl⟩ := nilOf hpp (by omega)
    repeat (first | (with_reducible first | refine SW.seq ?_ | refine SW.block ?_ | refine SW.rowC ?_ | refine SW.skip ?_ | refine SW.exit ?_ | intro _ | refine And.intro (by omega) ?_) | simp (config := { maxSteps := 1000000 }) (disch := (first | omega | (simp only [go_sem]; try omega))) only [go_sem, Nat.reduceAdd, Nat.reduceEqDiff, Nat.reduceLeDiff, Nat.reduceMul, Nat.reduceLT, reduceIte, Int.reduceToNat, w64_id, cast_succ])
    refine (copyLists_own _ (leastF bs pre) (by omega) (fun x hx => by have := hok.2 x hx; omega)).mono ?_
    rintro r H1 ⟨ext, rfl, ho⟩
    repeat (first | (with_reducible first | refine SW.seq ?_ | refine SW.block ?_ | refine SW.rowC ?_ | refine SW.skip ?_ | refine SW.exit ?_ | intro _ | refine And.intro (by omega) ?_) | simp (config := { maxSteps := 1000000 }) (disch := (first | omega | (simp only [go_sem]; try omega))) only [go_sem, Nat.reduceAdd, Nat.reduceEqDiff, Nat.reduceLeDiff, Nat.reduceMul, Nat.reduceLT, reduceIte, Int.reduceToNat, w64_id, cast_succ, ho.oneU.1, ho.oneU.2])
    refine SW.ret ?_; (try simp only [go_sem]); (first | refine FunPost.one ?_ | refine FunPost.two ?_ | refine FunPost.three ?_); (try simp (config := { maxSteps := 1000000 }) (disch := (first | omega | (simp only [go_sem]; try omega))) only [go_sem, Nat.reduceAdd, Nat.reduceEqDiff, Nat.reduceLeDiff, Nat.reduceMul, Nat.reduceLT, reduceIte, Int.reduceToNat, w64_id, cast_succ])
    exact GR.of ⟨ext, rfl, ho⟩
end Go.Proofs.YtmdeibdplpodpaaGreat
