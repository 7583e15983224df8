/- Systems that are sorted, each kept once by the library. -/
import Derived.Test.YtmdeibdplpodpaaGreatProg
import Derived.KernelRfl
import Derived.Test.YtmdeibdplpodpaaGreatzZ1
import Derived.Test.YtmdeibdplpodpaaGreatzVA
import Derived.Test.YtmdeibdplpodpaaGreatzK20
import Derived.Test.YtmdeibdplpodpaaGreatzK50
import Derived.Test.YtmdeibdplpodpaaGreatzL8
import Derived.Test.YtmdeibdplpodpaaGreatzK18
import Derived.Test.YtmdeibdplpodpaaGreatzK19
import Derived.Test.YtmdeibdplpodpaaGreatzU1
import Derived.Test.YtmdeibdplpodpaaGreatzK8
import Derived.Test.YtmdeibdplpodpaaGreatzSZ
import Derived.Test.YtmdeibdplpodpaaGreatzK2
import Derived.Test.YtmdeibdplpodpaaGreatzL1
import Derived.Test.YtmdeibdplpodpaaGreatzK1
import Derived.Test.YtmdeibdplpodpaaGreatzCP
import Derived.Test.YtmdeibdplpodpaaGreatzK62
import Derived.Test.YtmdeibdplpodpaaGreatzG1
set_option linter.unusedSimpArgs false
set_option linter.unusedVariables false
set_option maxHeartbeats 4000000
set_option maxRecDepth 100000
namespace Go.Proofs.YtmdeibdplpodpaaGreat
open Go.Av
abbrev f_slices_CompactFunc_LLLint64_LLint64 : Nat := 84
def c_slices_CompactFunc_LLLint64_LLint64 : SC :=
 .seq (.reg [
     ⟨(some 4), .mv (.const (.slice none 0 0)), none⟩] [0, 1])
 (.seq (.seq (.reg [
     ⟨(some 8), .mv (.tmp 0), none⟩,
     ⟨(some 9), .len (.tmp 8), none⟩,
     ⟨(some 10), .bin .lss (.tmp 9) (.const (.int .i64 2)), none⟩] [0, 1, 10])
 (.cond (.tmp 10)
  (.seq (.reg [
      ⟨(some 11), .mv (.tmp 0), none⟩,
      ⟨(some 4), .mv (.tmp 11), none⟩] [4])
  (.ret))
  (.skip)))
 (.seq (.seq (.reg [
     ⟨(some 5), .mv (.const (.int .i64 1)), none⟩] [0, 1, 5])
 (.block 0 (.loop [0, 1, 5]
   (.seq (.seq (.reg [
       ⟨(some 12), .mv (.tmp 5), none⟩,
       ⟨(some 13), .mv (.tmp 0), none⟩,
       ⟨(some 14), .len (.tmp 13), none⟩,
       ⟨(some 15), .bin .lss (.tmp 12) (.tmp 14), none⟩] [0, 1, 5, 15])
   (.cond (.tmp 15)
    (.skip)
    (.exit 0)))
   (.seq (.block 1 (.seq (.reg [
        ⟨(some 18), .mv (.tmp 1), none⟩,
        ⟨(some 19), .mv (.tmp 0), none⟩,
        ⟨(some 20), .mv (.tmp 5), none⟩,
        ⟨(some 21), .iaddr 1 (.tmp 19) (.tmp 20), none⟩,
        ⟨(some 22), .load 1 false (.tmp 21), none⟩,
        ⟨(some 23), .mv (.tmp 0), none⟩,
        ⟨(some 24), .mv (.tmp 5), none⟩,
        ⟨(some 25), .bin .sub (.tmp 24) (.const (.int .i64 1)), none⟩,
        ⟨(some 26), .iaddr 1 (.tmp 23) (.tmp 25), none⟩,
        ⟨(some 27), .load 1 false (.tmp 26), none⟩,
        ⟨(some 28), .qcallv (.tmp 18) [(.tmp 22), (.tmp 27)], none⟩] [0, 1, 5, 28])
    (.cond (.tmp 28)
     (.seq (.reg [
         ⟨(some 29), .mv (.tmp 0), none⟩,
         ⟨(some 30), .mv (.tmp 5), none⟩,
         ⟨(some 31), .slc 1 (.tmp 29) (some (.tmp 30)) none, none⟩,
         ⟨(some 6), .mv (.tmp 31), none⟩] [0, 1, 5, 6])
     (.seq (.seq (.reg [
         ⟨(some 7), .mv (.const (.int .i64 1)), none⟩] [0, 1, 5, 6, 7])
     (.block 2 (.loop [0, 1, 5, 6, 7]
       (.seq (.seq (.reg [
           ⟨(some 32), .mv (.tmp 7), none⟩,
           ⟨(some 33), .mv (.tmp 6), none⟩,
           ⟨(some 34), .len (.tmp 33), none⟩,
           ⟨(some 35), .bin .lss (.tmp 32) (.tmp 34), none⟩] [0, 1, 5, 6, 7, 35])
       (.cond (.tmp 35)
        (.skip)
        (.exit 2)))
       (.seq (.block 3 (.seq (.reg [
            ⟨(some 38), .mv (.tmp 1), none⟩,
            ⟨(some 39), .mv (.tmp 6), none⟩,
            ⟨(some 40), .mv (.tmp 7), none⟩,
            ⟨(some 41), .iaddr 1 (.tmp 39) (.tmp 40), none⟩,
            ⟨(some 42), .load 1 false (.tmp 41), none⟩,
            ⟨(some 43), .mv (.tmp 6), none⟩,
            ⟨(some 44), .mv (.tmp 7), none⟩,
            ⟨(some 45), .bin .sub (.tmp 44) (.const (.int .i64 1)), none⟩,
            ⟨(some 46), .iaddr 1 (.tmp 43) (.tmp 45), none⟩,
            ⟨(some 47), .load 1 false (.tmp 46), none⟩,
            ⟨(some 48), .qcallv (.tmp 38) [(.tmp 42), (.tmp 47)], none⟩,
            ⟨(some 49), .un .not (.tmp 48), none⟩] [0, 1, 5, 6, 7, 49])
        (.cond (.tmp 49)
         (.seq (.reg [
             ⟨(some 50), .mv (.tmp 0), none⟩,
             ⟨(some 51), .mv (.tmp 5), none⟩,
             ⟨(some 52), .mv (.tmp 6), none⟩,
             ⟨(some 53), .mv (.tmp 7), none⟩,
             ⟨(some 54), .iaddr 1 (.tmp 52) (.tmp 53), none⟩,
             ⟨(some 55), .load 1 false (.tmp 54), none⟩,
             ⟨(some 56), .iaddr 1 (.tmp 50) (.tmp 51), none⟩,
             ⟨none, .store 1 (.tmp 56) (.tmp 55), none⟩] [0, 1, 5, 6, 7])
         (.reg [
             ⟨(some 57), .mv (.tmp 5), none⟩,
             ⟨(some 58), .bin .add (.tmp 57) (.const (.int .i64 1)), none⟩,
             ⟨(some 5), .mv (.tmp 58), none⟩] [0, 1, 5, 6, 7]))
         (.skip))))
       (.reg [
           ⟨(some 36), .mv (.tmp 7), none⟩,
           ⟨(some 37), .bin .add (.tmp 36) (.const (.int .i64 1)), none⟩,
           ⟨(some 7), .mv (.tmp 37), none⟩] [0, 1, 5, 6, 7]))))))
     (.seq (.reg [
         ⟨(some 59), .mv (.tmp 0), none⟩,
         ⟨(some 60), .mv (.tmp 5), none⟩,
         ⟨(some 61), .slc 1 (.tmp 59) (some (.tmp 60)) none, none⟩,
         ⟨none, .clr (.slice none 0 0) (.tmp 61), none⟩] [0, 5])
     (.seq (.reg [
         ⟨(some 62), .mv (.tmp 0), none⟩,
         ⟨(some 63), .mv (.tmp 5), none⟩,
         ⟨(some 64), .slc 1 (.tmp 62) none (some (.tmp 63)), none⟩,
         ⟨(some 4), .mv (.tmp 64), none⟩] [4])
     (.ret)))))
     (.skip))))
   (.reg [
       ⟨(some 16), .mv (.tmp 5), none⟩,
       ⟨(some 17), .bin .add (.tmp 16) (.const (.int .i64 1)), none⟩,
       ⟨(some 5), .mv (.tmp 17), none⟩] [0, 1, 5]))))))
 (.seq (.reg [
     ⟨(some 65), .mv (.tmp 0), none⟩,
     ⟨(some 4), .mv (.tmp 65), none⟩] [4])
 (.ret))))
theorem s_slices_CompactFunc_LLLint64_LLint64 : stripF Tryz.prog 84 [[0, 1], [0, 1, 10], [4], [0, 1, 5], [0, 1, 5], [0, 1, 5, 15], [0, 1, 5, 28], [0, 1, 5, 6], [0, 1, 5, 6, 7], [0, 1, 5, 6, 7], [0, 1, 5, 6, 7, 35], [0, 1, 5, 6, 7, 49], [0, 1, 5, 6, 7], [0, 1, 5, 6, 7], [0, 1, 5, 6, 7], [0, 5], [4], [0, 1, 5], [4]] = some (c_slices_CompactFunc_LLLint64_LLint64, [.tmp 4], 66) := by kernel_rfl
theorem areSame_call : callable Tryz.prog f_impl_areSame = true := by kernel_rfl
def ddX (xs : List (List (List Int))) (m : Nat) : List (List (List Int)) := ((List.range m).filter fun j => decide (j = 0) || !decide (xs.getD j [] = xs.getD (j - 1) [])).map fun j => xs.getD j []
theorem ddX_succ (xs : List (List (List Int))) (m : Nat) : ddX xs (m + 1) = ddX xs m ++ (if m = 0 ∨ xs.getD m [] ≠ xs.getD (m - 1) [] then [xs.getD m []] else []) := by
  unfold ddX
  rw [List.range_succ, List.filter_append, List.map_append]
  congr 1
  by_cases h : m = 0 ∨ xs.getD m [] ≠ xs.getD (m - 1) []
  · rw [if_pos h, List.filter_cons_of_pos (by
      rcases h with h | h
      · rw [decide_eq_true h]; rfl
      · rw [decide_eq_false h, Bool.not_false, Bool.or_true])]; rfl
  · rw [if_neg h, List.filter_cons_of_neg (by
      simp only [not_or, ne_eq, Decidable.not_not] at h
      rw [decide_eq_false h.1, decide_eq_true h.2]; simp)]; rfl
theorem ddX_mem {xs : List (List (List Int))} {m : Nat} {y : List (List Int)} : y ∈ ddX xs m ↔ ∃ j, j < m ∧ xs.getD j [] = y := by
  induction m with
  | zero => simp [ddX]
  | succ m ih =>
    rw [ddX_succ, List.mem_append, ih]
    constructor
    · rintro (⟨j, h1, h2⟩ | h)
      · exact ⟨j, by omega, h2⟩
      · split at h
        · exact ⟨m, by omega, (List.mem_singleton.1 h).symm⟩
        · simp at h
    · rintro ⟨j, h1, h2⟩
      rcases Nat.lt_or_eq_of_le (Nat.le_of_lt_succ h1) with h | rfl
      · exact .inl ⟨j, h, h2⟩
      · by_cases hc : j = 0 ∨ xs.getD j [] ≠ xs.getD (j - 1) []
        · rw [if_pos hc]; exact .inr (by rw [h2]; simp)
        · simp only [not_or, ne_eq, Decidable.not_not] at hc
          exact .inl ⟨j - 1, by omega, by rw [← hc.2, h2]⟩
theorem ddX_is {xs : List (List (List Int))} (hs : xs.Pairwise fun a b => ¬ cmpSS b a < 0) : ddX xs xs.length = sortU cmpSS xs := by
  have hle : ∀ i j, i ≤ j → j < xs.length → cmpSS (xs.getD i []) (xs.getD j []) ≤ 0 := by
    intro i j hij hj
    have e : ∀ k, k < xs.length → xs.getD k [] = xs.getD k [] := fun _ _ => rfl
    rcases Nat.lt_or_eq_of_le hij with h | rfl
    · have := List.pairwise_iff_getElem.1 hs i j (by omega) hj h
      rw [List.getD_eq_getElem?_getD, List.getD_eq_getElem?_getD, List.getElem?_eq_getElem hj, List.getElem?_eq_getElem (show i < xs.length by omega)]
      simp only [Option.getD_some]
      have h2 := cmpSS_tot.neg xs[i] xs[j]
      omega
    · rw [(cmpSS_eq0 _ _).2 rfl]; omega
  refine asc_uniq cmpSS_tot ?_ (sortU_asc cmpSS_tot _) (fun y => ?_)
  · unfold Asc ddX
    rw [List.pairwise_map]
    refine (List.pairwise_lt_range.filter _).imp_of_mem ?_
    intro i j hi hj hij
    have hj1 := (List.mem_filter.1 hj)
    have hjl := List.mem_range.1 hj1.1
    have hj0 := hj1.2
    simp only [Bool.or_eq_true, decide_eq_true_eq, Bool.not_eq_true', decide_eq_false_iff_not] at hj0
    have h1 := hle i (j - 1) (by omega) (by omega)
    have h2 := hle (j - 1) j (by omega) hjl
    have h3 : cmpSS (xs.getD (j - 1) []) (xs.getD j []) ≠ 0 := fun h => by
      rcases hj0 with h4 | h4
      · omega
      · exact h4 ((cmpSS_eq0 _ _).1 h).symm
    by_cases h4 : cmpSS (xs.getD i []) (xs.getD (j - 1) []) = 0
    · rw [(cmpSS_eq0 _ _).1 h4]; omega
    · exact cmpSS_trans _ (xs.getD (j - 1) []) _ (by omega) (by omega)
  · rw [sortU_mem cmpSS_tot, ddX_mem]
    constructor
    · rintro ⟨j, hj, rfl⟩
      rw [List.getD_eq_getElem?_getD, List.getElem?_eq_getElem hj]; exact List.getElem_mem _
    · intro hy
      obtain ⟨j, hj, rfl⟩ := List.getElem_of_mem hy
      exact ⟨j, hj, by rw [List.getD_eq_getElem?_getD, List.getElem?_eq_getElem hj]; rfl⟩
def keepX (xs : List (List (List Int))) (m : Nat) : List Nat := (List.range m).filter fun j => decide (j = 0) || !decide (xs.getD j [] = xs.getD (j - 1) [])
theorem keepX_map (xs : List (List (List Int))) (m : Nat) : (keepX xs m).map (fun j => xs.getD j []) = ddX xs m := rfl
theorem keepX_succ (xs : List (List (List Int))) (m : Nat) : keepX xs (m + 1) = keepX xs m ++ (if m = 0 ∨ xs.getD m [] ≠ xs.getD (m - 1) [] then [m] else []) := by
  unfold keepX
  rw [List.range_succ, List.filter_append]
  congr 1
  by_cases h : m = 0 ∨ xs.getD m [] ≠ xs.getD (m - 1) []
  · rw [if_pos h, List.filter_cons_of_pos (by
      rcases h with h | h
      · rw [decide_eq_true h]; rfl
      · rw [decide_eq_false h, Bool.not_false, Bool.or_true])]; rfl
  · rw [if_neg h, List.filter_cons_of_neg (by
      simp only [not_or, ne_eq, Decidable.not_not] at h
      rw [decide_eq_false h.1, decide_eq_true h.2]; simp)]; rfl
theorem compactX_ok (H : List Blk) (i ver ty : Nat) (xs : List (List (List Int))) (cs : List AV) (hi : H[i]? = some ⟨ver, ty, 1, cs⟩) (hcl : cs.length = xs.length) (h1 : ∀ c ∈ cs, c.cell1 = true ∧ partsOf c = [c])
    (hrd : ∀ cells' j, j < xs.length → RdSS (H.set i ⟨ver, ty, 1, cells'⟩) (cs.getD j nilS) (xs.getD j [])) (hl : xs.length ≤ 1000000000) :
    ACalls Tryz.prog f_slices_CompactFunc_LLLint64_LLint64 [.nm i ver 0 xs.length, .fn f_impl_areSame []] H (fun r H' => ∃ cells, r = .nm i ver 0 (keepX xs xs.length).length ∧ H' = H.set i ⟨ver, ty, 1, cells⟩ ∧ cells.take (keepX xs xs.length).length = (keepX xs xs.length).map (fun j => cs.getD j nilS) ∧ (keepX xs xs.length).length ≤ cells.length) := by
  have hilt := (List.getElem?_eq_some_iff.1 hi).1
  have hself : H.set i ⟨ver, ty, 1, cs⟩ = H := by
    obtain ⟨g1, g2⟩ := List.getElem?_eq_some_iff.1 hi
    rw [← g2]; exact List.set_getElem_self g1
  have hv : aview H (.nm i ver 0 xs.length) = some (xs.length, cs) := by rw [← hcl]; exact view_nm hi rfl
  have hgc : ∀ j, j < xs.length → cs[j]? = some (cs.getD j nilS) := fun j hj => by
    rw [List.getD_eq_getElem?_getD, List.getElem?_eq_getElem (by omega)]; rfl
  have hrd0 : ∀ j, j < xs.length → RdSS H (cs.getD j nilS) (xs.getD j []) := fun j hj => by have := hrd cs j hj; rwa [hself] at this
  have fin : ∀ k, k = xs.length → keepX xs k = List.range k → GR H (fun r H' => ∃ cells, r = .nm i ver 0 (keepX xs xs.length).length ∧ H' = H.set i ⟨ver, ty, 1, cells⟩ ∧ cells.take (keepX xs xs.length).length = (keepX xs xs.length).map (fun j => cs.getD j nilS) ∧ (keepX xs xs.length).length ≤ cells.length) (.nm i ver 0 xs.length) H := by
    rintro k rfl hk
    rw [hk]
    refine GR.of ⟨cs, by simp, hself.symm, ?_, by simp; omega⟩
    rw [range_getD cs nilS _ (by omega), List.length_range]
  refine ACalls.introB s_slices_CompactFunc_LLLint64_LLint64 (by simp) ?_; intro hB hA; unfold c_slices_CompactFunc_LLLint64_LLint64; simp (config := { maxSteps := 1000000 }) (disch := (first | omega | (simp only [go_sem]; try omega))) only [go_sem, Nat.reduceAdd, Nat.reduceEqDiff, Nat.reduceLeDiff, Nat.reduceMul, Nat.reduceLT, reduceIte, Int.reduceToNat, w64_id, cast_succ]
  by_cases h2 : xs.length < 2
  · have d2 : decide ((xs.length : Int) < 2) = true := decide_eq_true (by omega)
    have hdd : keepX xs xs.length = List.range xs.length := by
      match xs, h2 with
      | [], _ => rfl
      | [x], _ => rfl
    repeat (first | (with_reducible first | refine SW.seq ?_ | refine SW.block ?_ | refine SW.rowC ?_ | refine SW.skip ?_ | refine SW.exit ?_ | intro _ | refine And.intro (by omega) ?_) | simp (config := { maxSteps := 1000000 }) (disch := (first | omega | (simp only [go_sem]; try omega))) only [go_sem, Nat.reduceAdd, Nat.reduceEqDiff, Nat.reduceLeDiff, Nat.reduceMul, Nat.reduceLT, reduceIte, Int.reduceToNat, w64_id, cast_succ, hv, d2])
    refine SW.condT rfl ?_
    repeat (first | (with_reducible first | refine SW.seq ?_ | refine SW.block ?_ | refine SW.rowC ?_ | refine SW.skip ?_ | refine SW.exit ?_ | intro _ | refine And.intro (by omega) ?_) | simp (config := { maxSteps := 1000000 }) (disch := (first | omega | (simp only [go_sem]; try omega))) only [go_sem, Nat.reduceAdd, Nat.reduceEqDiff, Nat.reduceLeDiff, Nat.reduceMul, Nat.reduceLT, reduceIte, Int.reduceToNat, w64_id, cast_succ])
    refine SW.ret ?_; (try simp only [go_sem]); (first | refine FunPost.one ?_ | refine FunPost.two ?_ | refine FunPost.three ?_); (try simp (config := { maxSteps := 1000000 }) (disch := (first | omega | (simp only [go_sem]; try omega))) only [go_sem, Nat.reduceAdd, Nat.reduceEqDiff, Nat.reduceLeDiff, Nat.reduceMul, Nat.reduceLT, reduceIte, Int.reduceToNat, w64_id, cast_succ])
    exact fin _ rfl hdd
  have d2 : decide ((xs.length : Int) < 2) = false := decide_eq_false (by omega)
  repeat (first | (with_reducible first | refine SW.seq ?_ | refine SW.block ?_ | refine SW.rowC ?_ | refine SW.skip ?_ | refine SW.exit ?_ | intro _ | refine And.intro (by omega) ?_) | simp (config := { maxSteps := 1000000 }) (disch := (first | omega | (simp only [go_sem]; try omega))) only [go_sem, Nat.reduceAdd, Nat.reduceEqDiff, Nat.reduceLeDiff, Nat.reduceMul, Nat.reduceLT, reduceIte, Int.reduceToNat, w64_id, cast_succ, hv, d2])
  refine SW.condF rfl ?_
  repeat (first | (with_reducible first | refine SW.seq ?_ | refine SW.block ?_ | refine SW.rowC ?_ | refine SW.skip ?_ | refine SW.exit ?_ | intro _ | refine And.intro (by omega) ?_) | simp (config := { maxSteps := 1000000 }) (disch := (first | omega | (simp only [go_sem]; try omega))) only [go_sem, Nat.reduceAdd, Nat.reduceEqDiff, Nat.reduceLeDiff, Nat.reduceMul, Nat.reduceLT, reduceIte, Int.reduceToNat, w64_id, cast_succ])
  refine SW.loopE (fun E0 H0 q E' H' => ∃ k : Nat, 1 ≤ k ∧ k ≤ xs.length ∧ q = xs.length - k ∧ E' = aput E0 5 (I k) ∧ H' = H0 ∧ keepX xs k = List.range k) (xs.length - 1) ⟨1, by omega, by omega, rfl, rfl, rfl, rfl⟩ ?_
  rintro q E' H' ⟨k, hk1, hkl, rfl, rfl, rfl, hdk⟩
  simp (config := { maxSteps := 1000000 }) (disch := (first | omega | (simp only [go_sem]; try omega))) only [go_sem, Nat.reduceAdd, Nat.reduceEqDiff, Nat.reduceLeDiff, Nat.reduceMul, Nat.reduceLT, reduceIte, Int.reduceToNat, w64_id, cast_succ]
  repeat (first | (with_reducible first | refine SW.seq ?_ | refine SW.block ?_ | refine SW.rowC ?_ | refine SW.skip ?_ | refine SW.exit ?_ | intro _ | refine And.intro (by omega) ?_) | simp (config := { maxSteps := 1000000 }) (disch := (first | omega | (simp only [go_sem]; try omega))) only [go_sem, Nat.reduceAdd, Nat.reduceEqDiff, Nat.reduceLeDiff, Nat.reduceMul, Nat.reduceLT, reduceIte, Int.reduceToNat, w64_id, cast_succ, hv])
  (first | refine SW.condD rfl (fun h3 => ?_) (fun h3 => ?_) | refine SW.condN rfl (fun h3 => ?_) (fun h3 => ?_) | refine SW.condNB rfl (fun h3 => ?_) (fun h3 => ?_) | refine SW.condB rfl (fun h3 => ?_) (fun h3 => ?_))
  · have hklt : k < xs.length := by omega
    have e1 : (k : Int) - 1 = ((k - 1 : Nat) : Int) := by omega
    have hc1 := hgc k hklt
    have hc2 := hgc (k - 1) (by omega)
    have hq : AFn Tryz.prog f_impl_areSame [cs.getD k nilS, cs.getD (k - 1) nilS] H' (Bv (decide (xs.getD k [] = xs.getD (k - 1) []))) := fun ext => areSame_ok _ _ _ _ _ ((hrd0 k hklt).append ext) ((hrd0 (k - 1) (by omega)).append ext)
    repeat (first | (with_reducible first | refine SW.seq ?_ | refine SW.block ?_ | refine SW.rowC ?_ | refine SW.skip ?_ | refine SW.exit ?_ | intro _ | refine And.intro (by omega) ?_) | simp (config := { maxSteps := 1000000 }) (disch := (first | omega | (simp only [go_sem]; try omega))) only [go_sem, Nat.reduceAdd, Nat.reduceEqDiff, Nat.reduceLeDiff, Nat.reduceMul, Nat.reduceLT, reduceIte, Int.reduceToNat, w64_id, cast_succ, hv, e1, hc1, hc2, areSame_call])
    refine QcallW.of hq ?_
    by_cases heq : xs.getD k [] = xs.getD (k - 1) []
    · rw [decide_eq_true heq]
      repeat (first | (with_reducible first | refine SW.seq ?_ | refine SW.block ?_ | refine SW.rowC ?_ | refine SW.skip ?_ | refine SW.exit ?_ | intro _ | refine And.intro (by omega) ?_) | simp (config := { maxSteps := 1000000 }) (disch := (first | omega | (simp only [go_sem]; try omega))) only [go_sem, Nat.reduceAdd, Nat.reduceEqDiff, Nat.reduceLeDiff, Nat.reduceMul, Nat.reduceLT, reduceIte, Int.reduceToNat, w64_id, cast_succ])
      refine SW.condT rfl ?_
      have hsz : ∀ cells', ((H'.set i ⟨ver, ty, 1, cells'⟩)[i]?).map Blk.sz = some 1 := fun cells' => by rw [List.getElem?_set_self hilt]; rfl
      have hsz0 : (H'[i]?).map Blk.sz = some 1 := by rw [hi]; rfl
      have hs1 : ∀ K : AV → Prop, SlcG 1 (.nm i ver 0 xs.length) (k : Int) ((xs.length : Nat) : Int) H' K (some (xs.length, cs)) = K (.nm i ver k (xs.length - k)) := fun K => by
        rw [slcNm (by omega) (by omega) (by omega) hsz0]; simp
      repeat (first | (with_reducible first | refine SW.seq ?_ | refine SW.block ?_ | refine SW.rowC ?_ | refine SW.skip ?_ | refine SW.exit ?_ | intro _ | refine And.intro (by omega) ?_) | simp (config := { maxSteps := 1000000 }) (disch := (first | omega | (simp only [go_sem]; try omega))) only [go_sem, Nat.reduceAdd, Nat.reduceEqDiff, Nat.reduceLeDiff, Nat.reduceMul, Nat.reduceLT, reduceIte, Int.reduceToNat, w64_id, cast_succ, hv, Option.map_some, Option.map_none, hs1])
      refine SW.loopE (fun E0 H0 q E' H2 => ∃ (m : Nat) (K : List Nat), 1 ≤ m ∧ m ≤ xs.length - k ∧ q = xs.length - k - m ∧ K = keepX xs (k + m) ∧ k ≤ K.length ∧ K.length < k + m ∧ E' = aput (aput E0 7 (I m)) 5 (I K.length) ∧ H2 = H'.set i ⟨ver, ty, 1, K.map (fun j => cs.getD j nilS) ++ cs.drop K.length⟩) (xs.length - k - 1) ⟨1, List.range k, by omega, by omega, by omega, ?_, by simp, by simp, by simp [go_sem], ?_⟩ ?_
      · rw [keepX_succ, if_neg (by simp only [not_or, ne_eq, Decidable.not_not]; exact ⟨by omega, heq⟩), hdk]; simp
      · rw [range_getD cs nilS k (by omega), List.length_range, List.take_append_drop, hself]
      rintro q E' H2 ⟨m, K, hm1, hml, rfl, hK, hkK, hKl, rfl, rfl⟩
      have hcl3 : (K.map (fun j => cs.getD j nilS) ++ cs.drop K.length).length = xs.length := by simp; omega
      generalize hC : K.map (fun j => cs.getD j nilS) ++ cs.drop K.length = C at *
      have hget : (H'.set i ⟨ver, ty, 1, C⟩)[i]? = some ⟨ver, ty, 1, C⟩ := List.getElem?_set_self hilt
      have hv0 : aview (H'.set i ⟨ver, ty, 1, C⟩) (.nm i ver 0 xs.length) = some (xs.length, C) := by rw [← hcl3]; exact view_nm hget rfl
      have hv2 : aview (H'.set i ⟨ver, ty, 1, C⟩) (.nm i ver k (xs.length - k)) = some (xs.length - k, C.drop k) := by
        simp only [aview, hget, if_true, Nat.mul_one]
        rw [List.take_of_length_le (by simp; omega)]
      have hcg : ∀ j, K.length ≤ j → j < xs.length → C[j]? = some (cs.getD j nilS) := fun j h1 h2 => by
        rw [← hC, List.getElem?_append_right (by simpa using h1), List.getElem?_drop, List.length_map, show K.length + (j - K.length) = j by omega]
        exact hgc j h2
      simp (config := { maxSteps := 1000000 }) (disch := (first | omega | (simp only [go_sem]; try omega))) only [go_sem, Nat.reduceAdd, Nat.reduceEqDiff, Nat.reduceLeDiff, Nat.reduceMul, Nat.reduceLT, reduceIte, Int.reduceToNat, w64_id, cast_succ]
      repeat (first | (with_reducible first | refine SW.seq ?_ | refine SW.block ?_ | refine SW.rowC ?_ | refine SW.skip ?_ | refine SW.exit ?_ | intro _ | refine And.intro (by omega) ?_) | simp (config := { maxSteps := 1000000 }) (disch := (first | omega | (simp only [go_sem]; try omega))) only [go_sem, Nat.reduceAdd, Nat.reduceEqDiff, Nat.reduceLeDiff, Nat.reduceMul, Nat.reduceLT, reduceIte, Int.reduceToNat, w64_id, cast_succ, hv2])
      (first | refine SW.condD rfl (fun h4 => ?_) (fun h4 => ?_) | refine SW.condN rfl (fun h4 => ?_) (fun h4 => ?_) | refine SW.condNB rfl (fun h4 => ?_) (fun h4 => ?_) | refine SW.condB rfl (fun h4 => ?_) (fun h4 => ?_))
      · have hcm : (C.drop k)[m]? = some (cs.getD (k + m) nilS) := by rw [List.getElem?_drop]; exact hcg _ (by omega) (by omega)
        have hcm1 : (C.drop k)[m - 1]? = some (cs.getD (k + m - 1) nilS) := by rw [List.getElem?_drop, show k + (m - 1) = k + m - 1 by omega]; exact hcg _ (by omega) (by omega)
        have e2 : (m : Int) - 1 = ((m - 1 : Nat) : Int) := by omega
        have hq2 : AFn Tryz.prog f_impl_areSame [cs.getD (k + m) nilS, cs.getD (k + m - 1) nilS] (H'.set i ⟨ver, ty, 1, C⟩) (Bv (decide (xs.getD (k + m) [] = xs.getD (k + m - 1) []))) := fun ext => areSame_ok _ _ _ _ _ ((hrd C (k + m) (by omega)).append ext) ((hrd C (k + m - 1) (by omega)).append ext)
        have h1c := h1 (cs.getD (k + m) nilS) (List.mem_of_getElem? (hgc (k + m) (by omega)))
        have hst : ∀ c, astore (H'.set i ⟨ver, ty, 1, C⟩) [c] (.el (.nm i ver 0 xs.length) K.length) = some (H'.set i ⟨ver, ty, 1, C.set K.length c⟩) := fun c => by
          rw [store_nm hget (by rw [hcl3]; omega), List.set_set]
        have hsetC : C.set K.length (cs.getD (k + m) nilS) = (K ++ [k + m]).map (fun j => cs.getD j nilS) ++ cs.drop (K ++ [k + m]).length := by
          rw [← hC, List.set_append_right _ _ (by simp), List.length_map, Nat.sub_self, List.drop_eq_getElem_cons (show K.length < cs.length by omega), List.set_cons_zero]
          simp
        repeat (first | (with_reducible first | refine SW.seq ?_ | refine SW.block ?_ | refine SW.rowC ?_ | refine SW.skip ?_ | refine SW.exit ?_ | intro _ | refine And.intro (by omega) ?_) | simp (config := { maxSteps := 1000000 }) (disch := (first | omega | (simp only [go_sem]; try omega))) only [go_sem, Nat.reduceAdd, Nat.reduceEqDiff, Nat.reduceLeDiff, Nat.reduceMul, Nat.reduceLT, reduceIte, Int.reduceToNat, w64_id, cast_succ, hv2, hv0, e2, hcm, hcm1, areSame_call])
        refine QcallW.of hq2 ?_
        by_cases heq2 : xs.getD (k + m) [] = xs.getD (k + m - 1) []
        · rw [decide_eq_true heq2]
          repeat (first | (with_reducible first | refine SW.seq ?_ | refine SW.block ?_ | refine SW.rowC ?_ | refine SW.skip ?_ | refine SW.exit ?_ | intro _ | refine And.intro (by omega) ?_) | simp (config := { maxSteps := 1000000 }) (disch := (first | omega | (simp only [go_sem]; try omega))) only [go_sem, Nat.reduceAdd, Nat.reduceEqDiff, Nat.reduceLeDiff, Nat.reduceMul, Nat.reduceLT, reduceIte, Int.reduceToNat, w64_id, cast_succ])
          refine SW.condF rfl ?_
          repeat (first | (with_reducible first | refine SW.seq ?_ | refine SW.block ?_ | refine SW.rowC ?_ | refine SW.skip ?_ | refine SW.exit ?_ | intro _ | refine And.intro (by omega) ?_) | simp (config := { maxSteps := 1000000 }) (disch := (first | omega | (simp only [go_sem]; try omega))) only [go_sem, Nat.reduceAdd, Nat.reduceEqDiff, Nat.reduceLeDiff, Nat.reduceMul, Nat.reduceLT, reduceIte, Int.reduceToNat, w64_id, cast_succ])
          refine SLoop.next (xs.length - k - (m + 1)) (by omega) ⟨m + 1, K, by omega, by omega, rfl, ?_, hkK, by omega, by simp [go_sem], by rw [hC]⟩
          rw [show k + (m + 1) = (k + m) + 1 by omega, keepX_succ, if_neg (by simp only [not_or, ne_eq, Decidable.not_not]; exact ⟨by omega, heq2⟩), ← hK]; simp
        · rw [decide_eq_false heq2]
          repeat (first | (with_reducible first | refine SW.seq ?_ | refine SW.block ?_ | refine SW.rowC ?_ | refine SW.skip ?_ | refine SW.exit ?_ | intro _ | refine And.intro (by omega) ?_) | simp (config := { maxSteps := 1000000 }) (disch := (first | omega | (simp only [go_sem]; try omega))) only [go_sem, Nat.reduceAdd, Nat.reduceEqDiff, Nat.reduceLeDiff, Nat.reduceMul, Nat.reduceLT, reduceIte, Int.reduceToNat, w64_id, cast_succ])
          refine SW.condT rfl ?_
          repeat (first | (with_reducible first | refine SW.seq ?_ | refine SW.block ?_ | refine SW.rowC ?_ | refine SW.skip ?_ | refine SW.exit ?_ | intro _ | refine And.intro (by omega) ?_) | simp (config := { maxSteps := 1000000 }) (disch := (first | omega | (simp only [go_sem]; try omega))) only [go_sem, Nat.reduceAdd, Nat.reduceEqDiff, Nat.reduceLeDiff, Nat.reduceMul, Nat.reduceLT, reduceIte, Int.reduceToNat, w64_id, cast_succ, hv2, hv0, hcm, hst, h1c.1, h1c.2])
          refine SLoop.next (xs.length - k - (m + 1)) (by omega) ⟨m + 1, K ++ [k + m], by omega, by omega, rfl, ?_, by simp; omega, by simp; omega, by simp [go_sem], by rw [hsetC]⟩
          rw [show k + (m + 1) = (k + m) + 1 by omega, keepX_succ, if_pos (.inr heq2), ← hK]
      · have hmk : k + m = xs.length := by omega
        rw [hmk] at hK hKl
        have hs2 : ∀ Kk : AV → Prop, SlcG 1 (.nm i ver 0 xs.length) (K.length : Int) ((xs.length : Nat) : Int) (H'.set i ⟨ver, ty, 1, C⟩) Kk (some (xs.length, C)) = Kk (.nm i ver K.length (xs.length - K.length)) := fun Kk => by
          rw [slcNm (by omega) (by omega) (by omega) (hsz C)]; simp
        repeat (first | (with_reducible first | refine SW.seq ?_ | refine SW.block ?_ | refine SW.rowC ?_ | refine SW.skip ?_ | refine SW.exit ?_ | intro _ | refine And.intro (by omega) ?_) | simp (config := { maxSteps := 1000000 }) (disch := (first | omega | (simp only [go_sem]; try omega))) only [go_sem, Nat.reduceAdd, Nat.reduceEqDiff, Nat.reduceLeDiff, Nat.reduceMul, Nat.reduceLT, reduceIte, Int.reduceToNat, w64_id, cast_succ, hv0, Option.map_some, Option.map_none, hs2])
        refine ClrW.of _ _ (by omega) hget (by omega) ?_
        rw [List.set_set]
        generalize hD : setMany C K.length (List.replicate (xs.length - K.length) (AV.lit (.slice none 0 0))) = D
        have hDl : D.length = xs.length := by rw [← hD, setMany_length]; exact hcl3
        have hDt : D.take K.length = K.map (fun j => cs.getD j nilS) := by
          rw [← hD, setMany_rep _ _ _ _ (by omega), ← hC, List.take_append_of_le_length (by simp), List.take_of_length_le (by simp)]
        have hgetD : (H'.set i ⟨ver, ty, 1, D⟩)[i]? = some ⟨ver, ty, 1, D⟩ := List.getElem?_set_self hilt
        have hvD : aview (H'.set i ⟨ver, ty, 1, D⟩) (.nm i ver 0 xs.length) = some (xs.length, D) := by rw [← hDl]; exact view_nm hgetD rfl
        have hs3 : ∀ Kk : AV → Prop, SlcG 1 (.nm i ver 0 xs.length) 0 (K.length : Int) (H'.set i ⟨ver, ty, 1, D⟩) Kk (some (xs.length, D)) = Kk (.nm i ver 0 K.length) := fun Kk => by
          rw [slcNm0 (by omega) (by omega) (hsz D)]; simp
        repeat (first | (with_reducible first | refine SW.seq ?_ | refine SW.block ?_ | refine SW.rowC ?_ | refine SW.skip ?_ | refine SW.exit ?_ | intro _ | refine And.intro (by omega) ?_) | simp (config := { maxSteps := 1000000 }) (disch := (first | omega | (simp only [go_sem]; try omega))) only [go_sem, Nat.reduceAdd, Nat.reduceEqDiff, Nat.reduceLeDiff, Nat.reduceMul, Nat.reduceLT, reduceIte, Int.reduceToNat, w64_id, cast_succ, hvD, Option.map_some, Option.map_none, hs3])
        refine SW.ret ?_; (try simp only [go_sem]); (first | refine FunPost.one ?_ | refine FunPost.two ?_ | refine FunPost.three ?_); (try simp (config := { maxSteps := 1000000 }) (disch := (first | omega | (simp only [go_sem]; try omega))) only [go_sem, Nat.reduceAdd, Nat.reduceEqDiff, Nat.reduceLeDiff, Nat.reduceMul, Nat.reduceLT, reduceIte, Int.reduceToNat, w64_id, cast_succ])
        rw [← hK]
        exact GR.of ⟨D, rfl, rfl, hDt, by omega⟩
    · rw [decide_eq_false heq]
      repeat (first | (with_reducible first | refine SW.seq ?_ | refine SW.block ?_ | refine SW.rowC ?_ | refine SW.skip ?_ | refine SW.exit ?_ | intro _ | refine And.intro (by omega) ?_) | simp (config := { maxSteps := 1000000 }) (disch := (first | omega | (simp only [go_sem]; try omega))) only [go_sem, Nat.reduceAdd, Nat.reduceEqDiff, Nat.reduceLeDiff, Nat.reduceMul, Nat.reduceLT, reduceIte, Int.reduceToNat, w64_id, cast_succ])
      refine SW.condF rfl ?_
      repeat (first | (with_reducible first | refine SW.seq ?_ | refine SW.block ?_ | refine SW.rowC ?_ | refine SW.skip ?_ | refine SW.exit ?_ | intro _ | refine And.intro (by omega) ?_) | simp (config := { maxSteps := 1000000 }) (disch := (first | omega | (simp only [go_sem]; try omega))) only [go_sem, Nat.reduceAdd, Nat.reduceEqDiff, Nat.reduceLeDiff, Nat.reduceMul, Nat.reduceLT, reduceIte, Int.reduceToNat, w64_id, cast_succ])
      refine SLoop.next (xs.length - (k + 1)) (by omega) ⟨k + 1, by omega, by omega, rfl, by simp [go_sem], rfl, ?_⟩
      rw [keepX_succ, if_pos (.inr heq), hdk, List.range_succ]
  · have : k = xs.length := by omega
    subst this
    repeat (first | (with_reducible first | refine SW.seq ?_ | refine SW.block ?_ | refine SW.rowC ?_ | refine SW.skip ?_ | refine SW.exit ?_ | intro _ | refine And.intro (by omega) ?_) | simp (config := { maxSteps := 1000000 }) (disch := (first | omega | (simp only [go_sem]; try omega))) only [go_sem, Nat.reduceAdd, Nat.reduceEqDiff, Nat.reduceLeDiff, Nat.reduceMul, Nat.reduceLT, reduceIte, Int.reduceToNat, w64_id, cast_succ])
    refine SW.ret ?_; (try simp only [go_sem]); (first | refine FunPost.one ?_ | refine FunPost.two ?_ | refine FunPost.three ?_); (try simp (config := { maxSteps := 1000000 }) (disch := (first | omega | (simp only [go_sem]; try omega))) only [go_sem, Nat.reduceAdd, Nat.reduceEqDiff, Nat.reduceLeDiff, Nat.reduceMul, Nat.reduceLT, reduceIte, Int.reduceToNat, w64_id, cast_succ])
    exact fin _ rfl hdk
theorem OwnXC.compact {H : List Blk} {N : Nat → Prop} {M : Nat → Nat → Prop} {t ver ty : Nat} {cells : List AV} {xs : List (List (List Int))} (h : OwnXC H N M t ver ty cells xs) (m : Nat) (hm : m ≤ xs.length) :
    OwnXC (H.set t ⟨ver, ty, 1, (keepX xs m).map (fun j => cells.getD j nilS)⟩) N (fun j r => ∃ q, (keepX xs m)[j]? = some q ∧ M q r) t ver ty ((keepX xs m).map (fun j => cells.getD j nilS)) (ddX xs m) := by
  obtain ⟨h1, h2, h3, h4, h5, h6⟩ := h
  have hlt := (List.getElem?_eq_some_iff.1 h2).1
  have hK : ∀ j ∈ keepX xs m, j < xs.length := fun j hj => by have := List.mem_range.1 (List.mem_filter.1 hj).1; omega
  have hKn : (keepX xs m).Nodup := by
    rw [List.nodup_iff_pairwise_ne]
    exact (List.pairwise_lt_range.filter _).imp (fun h => by omega)
  have hcg : ∀ j, j < xs.length → cells[j]? = some (cells.getD j nilS) := fun j hj => by
    rw [List.getD_eq_getElem?_getD, List.getElem?_eq_getElem (by omega)]; rfl
  refine ⟨h1, List.getElem?_set_self hlt, by rw [← keepX_map]; simp, ?_, ?_, ?_⟩
  · intro j c x hc hx
    rw [← keepX_map] at hx
    rw [List.getElem?_map] at hc hx
    cases hj : (keepX xs m)[j]? with
    | none => rw [hj] at hc; simp at hc
    | some q =>
      rw [hj] at hc hx
      simp only [Option.map_some, Option.some.injEq] at hc hx
      subst hc; subst hx
      have hq := hK q (List.mem_of_getElem? hj)
      refine ((h4 q _ _ (hcg q hq) (by rw [List.getD_eq_getElem?_getD, List.getElem?_eq_getElem hq]; rfl)).same (fun r b hN hb => ?_)).weak (fun r hr _ => ⟨q, hj, hr⟩)
      rw [List.getElem?_set_ne (Ne.symm (h5 q r hN).2)]; exact hb
  · rintro j r ⟨q, _, hr⟩
    exact h5 q r hr
  · rintro i j r ⟨a, ha, hra⟩ ⟨b, hb, hrb⟩
    have hab := h6 a b r hra hrb
    subst hab
    obtain ⟨p1, p2⟩ := List.getElem?_eq_some_iff.1 ha
    obtain ⟨q1, q2⟩ := List.getElem?_eq_some_iff.1 hb
    exact (List.getElem_inj hKn).1 (p2.trans q2.symm)
end Go.Proofs.YtmdeibdplpodpaaGreat
