/- Automorphisms of systems; the least image of a system. -/
import Derived.Test.YtogapbapbmhdfaaProg
import Derived.KernelRfl
import Derived.Test.YtogapbapbmhdfaazK63
set_option linter.unusedSimpArgs false
set_option linter.unusedVariables false
set_option maxHeartbeats 4000000
set_option maxRecDepth 100000
namespace Go.Proofs.Ytogapbapbmhdfaa
open Go.Av
abbrev f_impl_LeastSystem : Nat := 11
def c_impl_LeastSystem : SC :=
 .seq (.reg [
     ⟨(some 4), .mv (.const (.slice none 0 0)), none⟩,
     ⟨(some 5), .mv (.const (.int .i64 0)), none⟩] [0, 1])
 (.seq (.seq (.reg [
     ⟨(some 6), .mv (.tmp 0), none⟩,
     ⟨(some 7), .mv (.tmp 1), none⟩,
     ⟨(some 8), .call 17 [(.tmp 6), (.tmp 7)], none⟩,
     ⟨(some 9), .un .not (.tmp 8), none⟩] [0, 1, 9])
 (.cond (.tmp 9)
  (.seq (.reg [
      ⟨(some 4), .mv (.const (.slice none 0 0)), none⟩,
      ⟨(some 5), .mv (.const (.int .i64 1)), none⟩] [4, 5])
  (.ret))
  (.skip)))
 (.seq (.reg [
     ⟨(some 10), .mv (.tmp 0), none⟩,
     ⟨(some 11), .mv (.tmp 1), none⟩,
     ⟨(some 12), .call 37 [(.tmp 10), (.tmp 11)], none⟩,
     ⟨(some 4), .mv (.tmp 12), none⟩,
     ⟨(some 5), .mv (.const (.int .i64 0)), none⟩] [4, 5])
 (.ret)))
theorem s_impl_LeastSystem : stripF Try.prog 11 [[0, 1], [0, 1, 9], [4, 5], [4, 5]] = some (c_impl_LeastSystem, [.tmp 4, .tmp 5], 13) := by kernel_rfl
abbrev f_impl_SystemAutomorphisms : Nat := 16
def c_impl_SystemAutomorphisms : SC :=
 .seq (.reg [
     ⟨(some 4), .mv (.const (.int .i64 0)), none⟩,
     ⟨(some 5), .mv (.const (.int .i64 0)), none⟩] [0, 1])
 (.seq (.seq (.reg [
     ⟨(some 9), .mv (.tmp 0), none⟩,
     ⟨(some 10), .mv (.tmp 1), none⟩,
     ⟨(some 11), .call 17 [(.tmp 9), (.tmp 10)], none⟩,
     ⟨(some 12), .un .not (.tmp 11), none⟩] [0, 1, 12])
 (.cond (.tmp 12)
  (.seq (.reg [
      ⟨(some 4), .mv (.const (.int .i64 0)), none⟩,
      ⟨(some 5), .mv (.const (.int .i64 1)), none⟩] [4, 5])
  (.ret))
  (.skip)))
 (.seq (.reg [
     ⟨(some 6), .mv (.const (.int .i64 0)), none⟩] [0, 1, 6])
 (.seq (.seq (.reg [
     ⟨(some 13), .mv (.tmp 0), none⟩,
     ⟨(some 14), .call 44 [(.tmp 13)], none⟩,
     ⟨(some 15), .len (.tmp 14), none⟩,
     ⟨(some 16), .mv (.const (.int .i64 0)), none⟩] [1, 6, 14, 15, 16])
 (.block 0 (.loop [1, 6, 14, 15, 16]
   (.seq (.reg [
       ⟨(some 17), .bin .lss (.tmp 16) (.tmp 15), none⟩] [1, 6, 14, 15, 16, 17])
   (.seq (.cond (.tmp 17)
    (.skip)
    (.exit 0))
   (.seq (.block 1 (.seq (.reg [
        ⟨(some 18), .iaddr 1 (.tmp 14) (.tmp 16), none⟩,
        ⟨(some 19), .load 1 false (.tmp 18), none⟩,
        ⟨(some 8), .mv (.tmp 19), none⟩] [1, 6, 8, 14, 15, 16])
    (.seq (.reg [
        ⟨(some 20), .mv (.tmp 8), none⟩,
        ⟨(some 21), .mv (.tmp 1), none⟩,
        ⟨(some 22), .call 46 [(.tmp 20), (.tmp 21)], none⟩,
        ⟨(some 23), .mv (.tmp 1), none⟩,
        ⟨(some 24), .call 45 [(.tmp 22), (.tmp 23)], none⟩,
        ⟨(some 25), .bin .eql (.tmp 24) (.const (.int .i64 0)), none⟩] [1, 6, 14, 15, 16, 25])
    (.cond (.tmp 25)
     (.reg [
         ⟨(some 26), .mv (.tmp 6), none⟩,
         ⟨(some 27), .bin .add (.tmp 26) (.const (.int .i64 1)), none⟩,
         ⟨(some 6), .mv (.tmp 27), none⟩] [1, 6, 14, 15, 16])
     (.skip)))))
   (.reg [
       ⟨(some 28), .bin .add (.tmp 16) (.const (.int .i64 1)), none⟩,
       ⟨(some 16), .mv (.tmp 28), none⟩] [1, 6, 14, 15, 16])))))))
 (.seq (.reg [
     ⟨(some 29), .mv (.tmp 6), none⟩,
     ⟨(some 4), .mv (.tmp 29), none⟩,
     ⟨(some 5), .mv (.const (.int .i64 0)), none⟩] [4, 5])
 (.ret)))))
theorem s_impl_SystemAutomorphisms : stripF Try.prog 16 [[0, 1], [0, 1, 12], [4, 5], [0, 1, 6], [1, 6, 14, 15, 16], [1, 6, 14, 15, 16], [1, 6, 14, 15, 16, 17], [1, 6, 8, 14, 15, 16], [1, 6, 14, 15, 16, 25], [1, 6, 14, 15, 16], [1, 6, 14, 15, 16], [4, 5]] = some (c_impl_SystemAutomorphisms, [.tmp 4, .tmp 5], 30) := by kernel_rfl
abbrev f_impl_leastSystem : Nat := 37
def c_impl_leastSystem : SC :=
 .seq (.reg [
     ⟨(some 4), .mv (.const (.slice none 0 0)), none⟩] [0, 1])
 (.seq (.reg [
     ⟨(some 9), .mv (.tmp 1), none⟩,
     ⟨(some 5), .mv (.tmp 9), none⟩] [0, 1, 5])
 (.seq (.seq (.reg [
     ⟨(some 10), .mv (.tmp 0), none⟩,
     ⟨(some 11), .call 44 [(.tmp 10)], none⟩,
     ⟨(some 12), .len (.tmp 11), none⟩,
     ⟨(some 13), .mv (.const (.int .i64 0)), none⟩] [1, 5, 11, 12, 13])
 (.block 0 (.loop [1, 5, 11, 12, 13]
   (.seq (.reg [
       ⟨(some 14), .bin .lss (.tmp 13) (.tmp 12), none⟩] [1, 5, 11, 12, 13, 14])
   (.seq (.cond (.tmp 14)
    (.skip)
    (.exit 0))
   (.seq (.block 1 (.seq (.reg [
        ⟨(some 15), .iaddr 1 (.tmp 11) (.tmp 13), none⟩,
        ⟨(some 16), .load 1 false (.tmp 15), none⟩,
        ⟨(some 7), .mv (.tmp 16), none⟩] [1, 5, 7, 11, 12, 13])
    (.seq (.reg [
        ⟨(some 17), .mv (.tmp 7), none⟩,
        ⟨(some 18), .mv (.tmp 1), none⟩,
        ⟨(some 19), .call 46 [(.tmp 17), (.tmp 18)], none⟩,
        ⟨(some 8), .mv (.tmp 19), none⟩] [1, 5, 8, 11, 12, 13])
    (.seq (.reg [
        ⟨(some 20), .mv (.tmp 8), none⟩,
        ⟨(some 21), .mv (.tmp 5), none⟩,
        ⟨(some 22), .call 45 [(.tmp 20), (.tmp 21)], none⟩,
        ⟨(some 23), .bin .lss (.tmp 22) (.const (.int .i64 0)), none⟩] [1, 5, 8, 11, 12, 13, 23])
    (.cond (.tmp 23)
     (.reg [
         ⟨(some 24), .mv (.tmp 8), none⟩,
         ⟨(some 5), .mv (.tmp 24), none⟩] [1, 5, 11, 12, 13])
     (.skip))))))
   (.reg [
       ⟨(some 25), .bin .add (.tmp 13) (.const (.int .i64 1)), none⟩,
       ⟨(some 13), .mv (.tmp 25), none⟩] [1, 5, 11, 12, 13])))))))
 (.seq (.reg [
     ⟨(some 26), .mv (.tmp 5), none⟩,
     ⟨(some 27), .call 81 [(.tmp 26)], none⟩,
     ⟨(some 4), .mv (.tmp 27), none⟩] [4])
 (.ret))))
theorem s_impl_leastSystem : stripF Try.prog 37 [[0, 1], [0, 1, 5], [1, 5, 11, 12, 13], [1, 5, 11, 12, 13], [1, 5, 11, 12, 13, 14], [1, 5, 7, 11, 12, 13], [1, 5, 8, 11, 12, 13], [1, 5, 8, 11, 12, 13, 23], [1, 5, 11, 12, 13], [1, 5, 11, 12, 13], [4]] = some (c_impl_leastSystem, [.tmp 4], 28) := by kernel_rfl
theorem perms_ok {n : Nat} {p : List Int} (h : p ∈ perms n) : permOk n p := by
  obtain ⟨r, hr, rfl⟩ := List.mem_map.1 h
  rw [List.mem_range] at hr
  exact perm_ok hr
def sysOk (n : Nat) (bs : List (List Int)) : Prop := 1 ≤ n ∧ n ≤ 6 ∧ Asc cmpL bs ∧ ∀ b ∈ bs, asc 0 ((n : Int) - 1) b = true
theorem sysOk_of {v : Int} {bs : List (List Int)} (h : systemOk v bs = true) : ∃ n : Nat, v = n ∧ sysOk n bs := by
  simp only [systemOk, Bool.and_eq_true, decide_eq_true_eq] at h
  obtain ⟨n, rfl⟩ := Int.eq_ofNat_of_zero_le (show 0 ≤ v by omega)
  have hc := chain_facts _ bs none h.2
  exact ⟨n, rfl, by omega, by omega, hc.1, fun b hb => (hc.2.1 b hb).1⟩
theorem imgS_len {n : Nat} {p : List Int} {bs : List (List Int)} (hs : sysOk n bs) (hp : permOk n p) : (imgS p bs).length = bs.length := by
  have := (sortU_perm cmpL_tot (images_nodup hp hs.2.2.1 hs.2.2.2)).length_eq
  unfold imgS; rw [this, List.length_map]
theorem imgS_row {n : Nat} {p : List Int} {bs : List (List Int)} (hs : sysOk n bs) {r : List Int} (hr : r ∈ imgS p bs) : r.length ≤ 64 := by
  unfold imgS at hr
  rw [sortU_mem cmpL_tot] at hr
  obtain ⟨b, hb, rfl⟩ := List.mem_map.1 hr
  have h1 := sortU_len (cf := cmpZ) (b.map (pa p))
  rw [List.length_map] at h1
  have h2 := asc_len (hs.2.2.2 b hb)
  have h3 := hs.2.1
  unfold img
  rcases h2 with h2 | h2
  · rw [h2]; simp [sortU]
  · omega
def leastF (bs : List (List Int)) (l : List (List Int)) : List (List Int) := l.foldl (fun best p => if cmpSS (imgS p bs) best < 0 then imgS p bs else best) bs
def sameC (bs : List (List Int)) (l : List (List Int)) : Nat := (l.filter fun p => decide (cmpSS (imgS p bs) bs = 0)).length
theorem leastF_snoc (bs l : List (List Int)) (p : List Int) : leastF bs (l ++ [p]) = if cmpSS (imgS p bs) (leastF bs l) < 0 then imgS p bs else leastF bs l := by unfold leastF; rw [List.foldl_append]; rfl
theorem sameC_snoc (bs l : List (List Int)) (p : List Int) : sameC bs (l ++ [p]) = sameC bs l + (if cmpSS (imgS p bs) bs = 0 then 1 else 0) := by
  unfold sameC
  rw [List.filter_append, List.length_append]
  by_cases h : cmpSS (imgS p bs) bs = 0 <;> simp [h]
theorem sameC_len (bs l : List (List Int)) : sameC bs l ≤ l.length := List.length_filter_le _ _
theorem leastF_ok {n : Nat} {bs : List (List Int)} (hs : sysOk n bs) : ∀ l : List (List Int), (∀ p ∈ l, permOk n p) → (leastF bs l).length = bs.length ∧ ∀ r ∈ leastF bs l, r.length ≤ 64 := by
  intro l
  rw [← List.reverse_reverse l]
  induction l.reverse with
  | nil =>
    intro _
    refine ⟨rfl, fun r hr => ?_⟩
    have h2 := asc_len (hs.2.2.2 r hr)
    have h3 := hs.2.1
    rcases h2 with h2 | h2
    · rw [h2]; simp
    · omega
  | cons p r ih =>
    intro h
    rw [List.reverse_cons] at h ⊢
    have ih' := ih (fun q hq => h q (by simp at hq ⊢; exact .inl hq))
    rw [leastF_snoc]
    split
    · exact ⟨imgS_len hs (h p (by simp)), fun r hr => imgS_row hs hr⟩
    · exact ih'
theorem implSysAut_fn (v : Int) (bs : List (List Int)) (hl : bs.length ≤ 2000000) : PFn Try.prog f_impl_SystemAutomorphisms [I v, ilSS bs] (if systemOk v bs = true then .tup [I (sameC bs (perms v.toNat)), I 0] else .tup [I 0, I 1]) := by
  have hv := implValidSystem_fn v bs
  by_cases h : systemOk v bs = true
  · rw [if_pos h]
    rw [h] at hv
    obtain ⟨n, rfl, hs⟩ := sysOk_of h
    rw [show ((n : Int)).toNat = n from rfl]
    have hpm : ∀ p ∈ perms n, permOk n p := fun p hp => perms_ok hp
    have hpl : (perms n).length ≤ 720 := by unfold perms; rw [List.length_map, List.length_range]; exact fct_le hs.2.1
    have hap := allPermutations_fn n hs.2.1
    generalize perms n = P at *
    intro H; refine ACalls.introB s_impl_SystemAutomorphisms (by simp) ?_; intro hB hA; unfold c_impl_SystemAutomorphisms; simp (config := { maxSteps := 1000000 }) (disch := (first | omega | (simp only [go_sem]; try omega))) only [go_sem, Nat.reduceAdd, Nat.reduceEqDiff, Nat.reduceLeDiff, Nat.reduceMul, Nat.reduceLT, reduceIte, Int.reduceToNat, w64_id, cast_succ]
    repeat (first | (with_reducible first | refine SW.seq ?_ | refine SW.block ?_ | refine SW.rowC ?_ | refine SW.skip ?_ | refine SW.exit ?_ | refine PFn.use (hv) ?_ | refine PFn.useq (hv) ?_ | intro _ | refine And.intro (by omega) ?_) | simp (config := { maxSteps := 1000000 }) (disch := (first | omega | (simp only [go_sem]; try omega))) only [go_sem, Nat.reduceAdd, Nat.reduceEqDiff, Nat.reduceLeDiff, Nat.reduceMul, Nat.reduceLT, reduceIte, Int.reduceToNat, w64_id, cast_succ])
    refine SW.condF rfl ?_
    repeat (first | (with_reducible first | refine SW.seq ?_ | refine SW.block ?_ | refine SW.rowC ?_ | refine SW.skip ?_ | refine SW.exit ?_ | refine PFn.use (hap) ?_ | refine PFn.useq (hap) ?_ | intro _ | refine And.intro (by omega) ?_) | simp (config := { maxSteps := 1000000 }) (disch := (first | omega | (simp only [go_sem]; try omega))) only [go_sem, Nat.reduceAdd, Nat.reduceEqDiff, Nat.reduceLeDiff, Nat.reduceMul, Nat.reduceLT, reduceIte, Int.reduceToNat, w64_id, cast_succ])
    refine SW.loopE (fun E0 H0 q E' H' => ∃ (pre post : List (List Int)), P = pre ++ post ∧ q = post.length ∧ E' = aput (aput E0 16 (I pre.length)) 6 (I (sameC bs pre)) ∧ H' = H0) P.length ⟨[], P, rfl, rfl, rfl, rfl⟩ ?_
    rintro q E' H' ⟨pre, post, hpp, rfl, rfl, rfl⟩
    have hsl := sameC_len bs pre
    have hpl2 : pre.length ≤ 720 := by rw [hpp] at hpl; simp at hpl; omega
    simp (config := { maxSteps := 1000000 }) (disch := (first | omega | (simp only [go_sem]; try omega))) only [go_sem, Nat.reduceAdd, Nat.reduceEqDiff, Nat.reduceLeDiff, Nat.reduceMul, Nat.reduceLT, reduceIte, Int.reduceToNat, w64_id, cast_succ]
    repeat (first | (with_reducible first | refine SW.seq ?_ | refine SW.block ?_ | refine SW.rowC ?_ | refine SW.skip ?_ | refine SW.exit ?_ | intro _ | refine And.intro (by omega) ?_) | simp (config := { maxSteps := 1000000 }) (disch := (first | omega | (simp only [go_sem]; try omega))) only [go_sem, Nat.reduceAdd, Nat.reduceEqDiff, Nat.reduceLeDiff, Nat.reduceMul, Nat.reduceLT, reduceIte, Int.reduceToNat, w64_id, cast_succ])
    (first | refine SW.condD rfl (fun h => ?_) (fun h => ?_) | refine SW.condN rfl (fun h => ?_) (fun h => ?_) | refine SW.condNB rfl (fun h => ?_) (fun h => ?_) | refine SW.condB rfl (fun h => ?_) (fun h => ?_))
    · obtain ⟨p, post, rfl, hg, -⟩ := consOf (d := []) hpp (by omega)
      have hp := hpm p (by rw [hpp]; simp)
      have hss := sameC_snoc bs pre p
      generalize sameC bs pre = C at *
      have hsi := systemImage_fn n p bs (by have := hs.2.1; omega) hp hs.2.2.1 hs.2.2.2 hl
      have hcs := compareSystems_fn (imgS p bs) bs
      repeat (first | (with_reducible first | refine SW.seq ?_ | refine SW.block ?_ | refine SW.rowC ?_ | refine SW.skip ?_ | refine SW.exit ?_ | refine PFn.use (hsi) ?_ | refine PFn.useq (hsi) ?_ | refine PFn.use (hcs) ?_ | refine PFn.useq (hcs) ?_ | intro _ | refine And.intro (by omega) ?_) | simp (config := { maxSteps := 1000000 }) (disch := (first | omega | (simp only [go_sem]; try omega))) only [go_sem, Nat.reduceAdd, Nat.reduceEqDiff, Nat.reduceLeDiff, Nat.reduceMul, Nat.reduceLT, reduceIte, Int.reduceToNat, w64_id, cast_succ, hg])
      by_cases h0 : cmpSS (imgS p bs) bs = 0
      · rw [if_pos h0] at hss
        have hd : decide (cmpSS (imgS p bs) bs = 0) = true := decide_eq_true h0
        repeat (first | (with_reducible first | refine SW.seq ?_ | refine SW.block ?_ | refine SW.rowC ?_ | refine SW.skip ?_ | refine SW.exit ?_ | intro _ | refine And.intro (by omega) ?_) | simp (config := { maxSteps := 1000000 }) (disch := (first | omega | (simp only [go_sem]; try omega))) only [go_sem, Nat.reduceAdd, Nat.reduceEqDiff, Nat.reduceLeDiff, Nat.reduceMul, Nat.reduceLT, reduceIte, Int.reduceToNat, w64_id, cast_succ, hd])
        refine SW.condT rfl ?_
        repeat (first | (with_reducible first | refine SW.seq ?_ | refine SW.block ?_ | refine SW.rowC ?_ | refine SW.skip ?_ | refine SW.exit ?_ | intro _ | refine And.intro (by omega) ?_) | simp (config := { maxSteps := 1000000 }) (disch := (first | omega | (simp only [go_sem]; try omega))) only [go_sem, Nat.reduceAdd, Nat.reduceEqDiff, Nat.reduceLeDiff, Nat.reduceMul, Nat.reduceLT, reduceIte, Int.reduceToNat, w64_id, cast_succ])
        refine SLoop.next post.length (by simp) ⟨pre ++ [p], post, by simp [hpp], rfl, ?_, rfl⟩
        rw [hss]; simp [go_sem]
      · rw [if_neg h0] at hss
        have hd : decide (cmpSS (imgS p bs) bs = 0) = false := decide_eq_false h0
        repeat (first | (with_reducible first | refine SW.seq ?_ | refine SW.block ?_ | refine SW.rowC ?_ | refine SW.skip ?_ | refine SW.exit ?_ | intro _ | refine And.intro (by omega) ?_) | simp (config := { maxSteps := 1000000 }) (disch := (first | omega | (simp only [go_sem]; try omega))) only [go_sem, Nat.reduceAdd, Nat.reduceEqDiff, Nat.reduceLeDiff, Nat.reduceMul, Nat.reduceLT, reduceIte, Int.reduceToNat, w64_id, cast_succ, hd])
        refine SW.condF rfl ?_
        repeat (first | (with_reducible first | refine SW.seq ?_ | refine SW.block ?_ | refine SW.rowC ?_ | refine SW.skip ?_ | refine SW.exit ?_ | intro _ | refine And.intro (by omega) ?_) | simp (config := { maxSteps := 1000000 }) (disch := (first | omega | (simp only [go_sem]; try omega))) only [go_sem, Nat.reduceAdd, Nat.reduceEqDiff, Nat.reduceLeDiff, Nat.reduceMul, Nat.reduceLT, reduceIte, Int.reduceToNat, w64_id, cast_succ])
        refine SLoop.next post.length (by simp) ⟨pre ++ [p], post, by simp [hpp], rfl, ?_, rfl⟩
        rw [hss]; simp [go_sem]
    · obtain ⟨rfl, rfl⟩ := nilOf hpp (by omega)
      repeat (first | (with_reducible first | refine SW.seq ?_ | refine SW.block ?_ | refine SW.rowC ?_ | refine SW.skip ?_ | refine SW.exit ?_ | intro _ | refine And.intro (by omega) ?_) | simp (config := { maxSteps := 1000000 }) (disch := (first | omega | (simp only [go_sem]; try omega))) only [go_sem, Nat.reduceAdd, Nat.reduceEqDiff, Nat.reduceLeDiff, Nat.reduceMul, Nat.reduceLT, reduceIte, Int.reduceToNat, w64_id, cast_succ])
      refine SW.ret ?_; (try simp only [go_sem]); (first | refine FunPost.one ?_ | refine FunPost.two ?_ | refine FunPost.three ?_); (try simp (config := { maxSteps := 1000000 }) (disch := (first | omega | (simp only [go_sem]; try omega))) only [go_sem, Nat.reduceAdd, Nat.reduceEqDiff, Nat.reduceLeDiff, Nat.reduceMul, Nat.reduceLT, reduceIte, Int.reduceToNat, w64_id, cast_succ]); (first | (with_reducible refine GR.drop ?_ ?_; (simp only [go_sem, and_self, and_true, true_and, implies_true, List.take_succ_cons, List.take_zero])) | refine GR.of ?_); refine ⟨?_, rfl⟩; (try with_reducible rfl)
  · rw [if_neg h]
    rw [Bool.not_eq_true] at h
    rw [h] at hv
    intro H; refine ACalls.introB s_impl_SystemAutomorphisms (by simp) ?_; intro hB hA; unfold c_impl_SystemAutomorphisms; simp (config := { maxSteps := 1000000 }) (disch := (first | omega | (simp only [go_sem]; try omega))) only [go_sem, Nat.reduceAdd, Nat.reduceEqDiff, Nat.reduceLeDiff, Nat.reduceMul, Nat.reduceLT, reduceIte, Int.reduceToNat, w64_id, cast_succ]
    repeat (first | (with_reducible first | refine SW.seq ?_ | refine SW.block ?_ | refine SW.rowC ?_ | refine SW.skip ?_ | refine SW.exit ?_ | refine PFn.use (hv) ?_ | refine PFn.useq (hv) ?_ | intro _ | refine And.intro (by omega) ?_) | simp (config := { maxSteps := 1000000 }) (disch := (first | omega | (simp only [go_sem]; try omega))) only [go_sem, Nat.reduceAdd, Nat.reduceEqDiff, Nat.reduceLeDiff, Nat.reduceMul, Nat.reduceLT, reduceIte, Int.reduceToNat, w64_id, cast_succ])
    refine SW.condT rfl ?_
    repeat (first | (with_reducible first | refine SW.seq ?_ | refine SW.block ?_ | refine SW.rowC ?_ | refine SW.skip ?_ | refine SW.exit ?_ | intro _ | refine And.intro (by omega) ?_) | simp (config := { maxSteps := 1000000 }) (disch := (first | omega | (simp only [go_sem]; try omega))) only [go_sem, Nat.reduceAdd, Nat.reduceEqDiff, Nat.reduceLeDiff, Nat.reduceMul, Nat.reduceLT, reduceIte, Int.reduceToNat, w64_id, cast_succ])
    refine SW.ret ?_; (try simp only [go_sem]); (first | refine FunPost.one ?_ | refine FunPost.two ?_ | refine FunPost.three ?_); (try simp (config := { maxSteps := 1000000 }) (disch := (first | omega | (simp only [go_sem]; try omega))) only [go_sem, Nat.reduceAdd, Nat.reduceEqDiff, Nat.reduceLeDiff, Nat.reduceMul, Nat.reduceLT, reduceIte, Int.reduceToNat, w64_id, cast_succ]); (first | (with_reducible refine GR.drop ?_ ?_; (simp only [go_sem, and_self, and_true, true_and, implies_true, List.take_succ_cons, List.take_zero])) | refine GR.of ?_); refine ⟨?_, rfl⟩; (try with_reducible rfl)
def leastV (v : Int) (bs : List (List Int)) : List (List Int) × Int := if systemOk v bs = true then (leastF bs (perms v.toNat), 0) else ([], 1)
theorem leastSystem_own (H : List Blk) (n : Nat) (bs : List (List Int)) (hs : sysOk n bs) (hl : bs.length ≤ 2000000) : ACalls Try.prog f_impl_leastSystem [I n, ilSS bs] H (fun r H' => ∃ ext, H' = H ++ ext ∧ OwnSS H' (Btw H.length H'.length) r (leastF bs (perms n))) := by
  have hpm : ∀ p ∈ perms n, permOk n p := fun p hp => perms_ok hp
  have hap := allPermutations_fn n hs.2.1
  have hok := leastF_ok hs (perms n) hpm
  generalize perms n = P at *
  refine ACalls.introB s_impl_leastSystem (by simp) ?_; intro hB hA; unfold c_impl_leastSystem; simp (config := { maxSteps := 1000000 }) (disch := (first | omega | (simp only [go_sem]; try omega))) only [go_sem, Nat.reduceAdd, Nat.reduceEqDiff, Nat.reduceLeDiff, Nat.reduceMul, Nat.reduceLT, reduceIte, Int.reduceToNat, w64_id, cast_succ]
  repeat (first | (with_reducible first | refine SW.seq ?_ | refine SW.block ?_ | refine SW.rowC ?_ | refine SW.skip ?_ | refine SW.exit ?_ | refine PFn.use (hap) ?_ | refine PFn.useq (hap) ?_ | intro _ | refine And.intro (by omega) ?_) | simp (config := { maxSteps := 1000000 }) (disch := (first | omega | (simp only [go_sem]; try omega))) only [go_sem, Nat.reduceAdd, Nat.reduceEqDiff, Nat.reduceLeDiff, Nat.reduceMul, Nat.reduceLT, reduceIte, Int.reduceToNat, w64_id, cast_succ])
  refine SW.loopE (fun E0 H0 q E' H' => ∃ (pre post : List (List Int)), P = pre ++ post ∧ q = post.length ∧ E' = aput (aput E0 13 (I pre.length)) 5 (ilSS (leastF bs pre)) ∧ H' = H0) P.length ⟨[], P, rfl, rfl, rfl, rfl⟩ ?_
  rintro q E' H' ⟨pre, post, hpp, rfl, rfl, rfl⟩
  simp (config := { maxSteps := 1000000 }) (disch := (first | omega | (simp only [go_sem]; try omega))) only [go_sem, Nat.reduceAdd, Nat.reduceEqDiff, Nat.reduceLeDiff, Nat.reduceMul, Nat.reduceLT, reduceIte, Int.reduceToNat, w64_id, cast_succ]
  repeat (first | (with_reducible first | refine SW.seq ?_ | refine SW.block ?_ | refine SW.rowC ?_ | refine SW.skip ?_ | refine SW.exit ?_ | intro _ | refine And.intro (by omega) ?_) | simp (config := { maxSteps := 1000000 }) (disch := (first | omega | (simp only [go_sem]; try omega))) only [go_sem, Nat.reduceAdd, Nat.reduceEqDiff, Nat.reduceLeDiff, Nat.reduceMul, Nat.reduceLT, reduceIte, Int.reduceToNat, w64_id, cast_succ])
  (first | refine SW.condD rfl (fun h => ?_) (fun h => ?_) | refine SW.condN rfl (fun h => ?_) (fun h => ?_) | refine SW.condNB rfl (fun h => ?_) (fun h => ?_) | refine SW.condB rfl (fun h => ?_) (fun h => ?_))
  · obtain ⟨p, post, rfl, hg, -⟩ := consOf (d := []) hpp (by omega)
    have hp := hpm p (by rw [hpp]; simp)
    have hls := leastF_snoc bs pre p
    generalize leastF bs pre = B at *
    have hsi := systemImage_fn n p bs (by have := hs.2.1; omega) hp hs.2.2.1 hs.2.2.2 hl
    have hcs := compareSystems_fn (imgS p bs) B
    repeat (first | (with_reducible first | refine SW.seq ?_ | refine SW.block ?_ | refine SW.rowC ?_ | refine SW.skip ?_ | refine SW.exit ?_ | refine PFn.use (hsi) ?_ | refine PFn.useq (hsi) ?_ | refine PFn.use (hcs) ?_ | refine PFn.useq (hcs) ?_ | intro _ | refine And.intro (by omega) ?_) | simp (config := { maxSteps := 1000000 }) (disch := (first | omega | (simp only [go_sem]; try omega))) only [go_sem, Nat.reduceAdd, Nat.reduceEqDiff, Nat.reduceLeDiff, Nat.reduceMul, Nat.reduceLT, reduceIte, Int.reduceToNat, w64_id, cast_succ, hg])
    by_cases h0 : cmpSS (imgS p bs) B < 0
    · rw [if_pos h0] at hls
      have hd : decide (cmpSS (imgS p bs) B < 0) = true := decide_eq_true h0
      repeat (first | (with_reducible first | refine SW.seq ?_ | refine SW.block ?_ | refine SW.rowC ?_ | refine SW.skip ?_ | refine SW.exit ?_ | intro _ | refine And.intro (by omega) ?_) | simp (config := { maxSteps := 1000000 }) (disch := (first | omega | (simp only [go_sem]; try omega))) only [go_sem, Nat.reduceAdd, Nat.reduceEqDiff, Nat.reduceLeDiff, Nat.reduceMul, Nat.reduceLT, reduceIte, Int.reduceToNat, w64_id, cast_succ, hd])
      refine SW.condT rfl ?_
      repeat (first | (with_reducible first | refine SW.seq ?_ | refine SW.block ?_ | refine SW.rowC ?_ | refine SW.skip ?_ | refine SW.exit ?_ | intro _ | refine And.intro (by omega) ?_) | simp (config := { maxSteps := 1000000 }) (disch := (first | omega | (simp only [go_sem]; try omega))) only [go_sem, Nat.reduceAdd, Nat.reduceEqDiff, Nat.reduceLeDiff, Nat.reduceMul, Nat.reduceLT, reduceIte, Int.reduceToNat, w64_id, cast_succ])
      refine SLoop.next post.length (by simp) ⟨pre ++ [p], post, by simp [hpp], rfl, ?_, rfl⟩
      rw [hls]; simp [go_sem]
    · rw [if_neg h0] at hls
      have hd : decide (cmpSS (imgS p bs) B < 0) = false := decide_eq_false h0
      repeat (first | (with_reducible first | refine SW.seq ?_ | refine SW.block ?_ | refine SW.rowC ?_ | refine SW.skip ?_ | refine SW.exit ?_ | intro _ | refine And.intro (by omega) ?_) | simp (config := { maxSteps := 1000000 }) (disch := (first | omega | (simp only [go_sem]; try omega))) only [go_sem, Nat.reduceAdd, Nat.reduceEqDiff, Nat.reduceLeDiff, Nat.reduceMul, Nat.reduceLT, reduceIte, Int.reduceToNat, w64_id, cast_succ, hd])
      refine SW.condF rfl ?_
      repeat (first | (with_reducible first | refine SW.seq ?_ | refine SW.block ?_ | refine SW.rowC ?_ | refine SW.skip ?_ | refine SW.exit ?_ | intro _ | refine And.intro (by omega) ?_) | simp (config := { maxSteps := 1000000 }) (disch := (first | omega | (simp only [go_sem]; try omega))) only [go_sem, Nat.reduceAdd, Nat.reduceEqDiff, Nat.reduceLeDiff, Nat.reduceMul, Nat.reduceLT, reduceIte, Int.reduceToNat, w64_id, cast_succ])
      refine SLoop.next post.length (by simp) ⟨pre ++ [p], post, by simp [hpp], rfl, ?_, rfl⟩
      rw [hls]; simp [go_sem]
  · obtain ⟨rfl, rfl⟩ := nilOf hpp (by omega)
    repeat (first | (with_reducible first | refine SW.seq ?_ | refine SW.block ?_ | refine SW.rowC ?_ | refine SW.skip ?_ | refine SW.exit ?_ | intro _ | refine And.intro (by omega) ?_) | simp (config := { maxSteps := 1000000 }) (disch := (first | omega | (simp only [go_sem]; try omega))) only [go_sem, Nat.reduceAdd, Nat.reduceEqDiff, Nat.reduceLeDiff, Nat.reduceMul, Nat.reduceLT, reduceIte, Int.reduceToNat, w64_id, cast_succ])
    refine (copyLists_own _ (leastF bs pre) (by omega) (fun x hx => by have := hok.2 x hx; omega)).mono ?_
    rintro r H1 ⟨ext, rfl, ho⟩
    repeat (first | (with_reducible first | refine SW.seq ?_ | refine SW.block ?_ | refine SW.rowC ?_ | refine SW.skip ?_ | refine SW.exit ?_ | intro _ | refine And.intro (by omega) ?_) | simp (config := { maxSteps := 1000000 }) (disch := (first | omega | (simp only [go_sem]; try omega))) only [go_sem, Nat.reduceAdd, Nat.reduceEqDiff, Nat.reduceLeDiff, Nat.reduceMul, Nat.reduceLT, reduceIte, Int.reduceToNat, w64_id, cast_succ, ho.oneU.1, ho.oneU.2])
    refine SW.ret ?_; (try simp only [go_sem]); (first | refine FunPost.one ?_ | refine FunPost.two ?_ | refine FunPost.three ?_); (try simp (config := { maxSteps := 1000000 }) (disch := (first | omega | (simp only [go_sem]; try omega))) only [go_sem, Nat.reduceAdd, Nat.reduceEqDiff, Nat.reduceLeDiff, Nat.reduceMul, Nat.reduceLT, reduceIte, Int.reduceToNat, w64_id, cast_succ])
    exact GR.of ⟨ext, rfl, ho⟩
theorem implLeast_fss (v : Int) (bs : List (List Int)) (hl : bs.length ≤ 2000000) : FSS Try.prog f_impl_LeastSystem [I v, ilSS bs] (leastV v bs).1 (leastV v bs).2 := by
  have hv := implValidSystem_fn v bs
  intro H
  unfold leastV
  by_cases h : systemOk v bs = true
  · rw [if_pos h]
    rw [h] at hv
    obtain ⟨n, rfl, hs⟩ := sysOk_of h
    rw [show ((n : Int)).toNat = n from rfl]
    refine ACalls.introB s_impl_LeastSystem (by simp) ?_; intro hB hA; unfold c_impl_LeastSystem; simp (config := { maxSteps := 1000000 }) (disch := (first | omega | (simp only [go_sem]; try omega))) only [go_sem, Nat.reduceAdd, Nat.reduceEqDiff, Nat.reduceLeDiff, Nat.reduceMul, Nat.reduceLT, reduceIte, Int.reduceToNat, w64_id, cast_succ]
    repeat (first | (with_reducible first | refine SW.seq ?_ | refine SW.block ?_ | refine SW.rowC ?_ | refine SW.skip ?_ | refine SW.exit ?_ | refine PFn.use (hv) ?_ | refine PFn.useq (hv) ?_ | intro _ | refine And.intro (by omega) ?_) | simp (config := { maxSteps := 1000000 }) (disch := (first | omega | (simp only [go_sem]; try omega))) only [go_sem, Nat.reduceAdd, Nat.reduceEqDiff, Nat.reduceLeDiff, Nat.reduceMul, Nat.reduceLT, reduceIte, Int.reduceToNat, w64_id, cast_succ])
    refine SW.condF rfl ?_
    repeat (first | (with_reducible first | refine SW.seq ?_ | refine SW.block ?_ | refine SW.rowC ?_ | refine SW.skip ?_ | refine SW.exit ?_ | intro _ | refine And.intro (by omega) ?_) | simp (config := { maxSteps := 1000000 }) (disch := (first | omega | (simp only [go_sem]; try omega))) only [go_sem, Nat.reduceAdd, Nat.reduceEqDiff, Nat.reduceLeDiff, Nat.reduceMul, Nat.reduceLT, reduceIte, Int.reduceToNat, w64_id, cast_succ])
    refine (leastSystem_own _ n bs hs hl).mono ?_
    rintro r H1 ⟨ext, rfl, ho⟩
    repeat (first | (with_reducible first | refine SW.seq ?_ | refine SW.block ?_ | refine SW.rowC ?_ | refine SW.skip ?_ | refine SW.exit ?_ | intro _ | refine And.intro (by omega) ?_) | simp (config := { maxSteps := 1000000 }) (disch := (first | omega | (simp only [go_sem]; try omega))) only [go_sem, Nat.reduceAdd, Nat.reduceEqDiff, Nat.reduceLeDiff, Nat.reduceMul, Nat.reduceLT, reduceIte, Int.reduceToNat, w64_id, cast_succ, ho.oneU.1, ho.oneU.2])
    refine SW.ret ?_; (try simp only [go_sem]); (first | refine FunPost.one ?_ | refine FunPost.two ?_ | refine FunPost.three ?_); (try simp (config := { maxSteps := 1000000 }) (disch := (first | omega | (simp only [go_sem]; try omega))) only [go_sem, Nat.reduceAdd, Nat.reduceEqDiff, Nat.reduceLeDiff, Nat.reduceMul, Nat.reduceLT, reduceIte, Int.reduceToNat, w64_id, cast_succ])
    exact GR.of ⟨ext, r, rfl, rfl, ho⟩
  · rw [if_neg h]
    rw [Bool.not_eq_true] at h
    rw [h] at hv
    refine ACalls.introB s_impl_LeastSystem (by simp) ?_; intro hB hA; unfold c_impl_LeastSystem; simp (config := { maxSteps := 1000000 }) (disch := (first | omega | (simp only [go_sem]; try omega))) only [go_sem, Nat.reduceAdd, Nat.reduceEqDiff, Nat.reduceLeDiff, Nat.reduceMul, Nat.reduceLT, reduceIte, Int.reduceToNat, w64_id, cast_succ]
    repeat (first | (with_reducible first | refine SW.seq ?_ | refine SW.block ?_ | refine SW.rowC ?_ | refine SW.skip ?_ | refine SW.exit ?_ | refine PFn.use (hv) ?_ | refine PFn.useq (hv) ?_ | intro _ | refine And.intro (by omega) ?_) | simp (config := { maxSteps := 1000000 }) (disch := (first | omega | (simp only [go_sem]; try omega))) only [go_sem, Nat.reduceAdd, Nat.reduceEqDiff, Nat.reduceLeDiff, Nat.reduceMul, Nat.reduceLT, reduceIte, Int.reduceToNat, w64_id, cast_succ])
    refine SW.condT rfl ?_
    repeat (first | (with_reducible first | refine SW.seq ?_ | refine SW.block ?_ | refine SW.rowC ?_ | refine SW.skip ?_ | refine SW.exit ?_ | intro _ | refine And.intro (by omega) ?_) | simp (config := { maxSteps := 1000000 }) (disch := (first | omega | (simp only [go_sem]; try omega))) only [go_sem, Nat.reduceAdd, Nat.reduceEqDiff, Nat.reduceLeDiff, Nat.reduceMul, Nat.reduceLT, reduceIte, Int.reduceToNat, w64_id, cast_succ])
    refine SW.ret ?_; (try simp only [go_sem]); (first | refine FunPost.one ?_ | refine FunPost.two ?_ | refine FunPost.three ?_); (try simp (config := { maxSteps := 1000000 }) (disch := (first | omega | (simp only [go_sem]; try omega))) only [go_sem, Nat.reduceAdd, Nat.reduceEqDiff, Nat.reduceLeDiff, Nat.reduceMul, Nat.reduceLT, reduceIte, Int.reduceToNat, w64_id, cast_succ])
    exact GR.of nilFSS0
end Go.Proofs.Ytogapbapbmhdfaa
