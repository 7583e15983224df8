/- How many cells: the program. -/
import Derived.Test.YtmdeibdplpodpaaProg
import Derived.KernelRfl
import Derived.Test.YtmdeibdplpodpaazRL
import Derived.Test.YtmdeibdplpodpaazCP
import Derived.Test.YtmdeibdplpodpaazBS
import Derived.Test.YtmdeibdplpodpaazS5
import Derived.Test.YtmdeibdplpodpaazK8
set_option linter.unusedSimpArgs false
set_option linter.unusedVariables false
set_option maxHeartbeats 4000000
set_option maxRecDepth 100000
namespace Go.Proofs.Ytmdeibdplpodpaa
open Go.Av
abbrev f_impl_cellCount : Nat := 75
def c_impl_cellCount : SC :=
 .seq (.reg [
     ⟨(some 2), .mv (.const (.int .i64 0)), none⟩] [0])
 (.seq (.reg [
     ⟨(some 4), .mv (.tmp 0), none⟩,
     ⟨(some 5), .call 61 [(.tmp 4)], none⟩,
     ⟨(some 3), .mv (.tmp 5), none⟩] [3])
 (.seq (.reg [
     ⟨(some 6), .mv (.tmp 3), none⟩,
     ⟨(some 7), .call 62 [(.tmp 6)], none⟩] [3])
 (.seq (.reg [
     ⟨(some 8), .mv (.tmp 3), none⟩,
     ⟨(some 9), .call 94 [(.tmp 8)], none⟩,
     ⟨(some 10), .len (.tmp 9), none⟩,
     ⟨(some 2), .mv (.tmp 10), none⟩] [2])
 (.ret))))
theorem s_impl_cellCount : stripF Try.prog 75 [[0], [3], [3], [2]] = some (c_impl_cellCount, [.tmp 2], 11) := by kernel_rfl
abbrev f_slices_Compact_Lint64_int64 : Nat := 94
def c_slices_Compact_Lint64_int64 : SC :=
 .seq (.reg [
     ⟨(some 2), .mv (.const (.slice none 0 0)), none⟩] [0])
 (.seq (.seq (.reg [
     ⟨(some 6), .mv (.tmp 0), none⟩,
     ⟨(some 7), .len (.tmp 6), none⟩,
     ⟨(some 8), .bin .lss (.tmp 7) (.const (.int .i64 2)), none⟩] [0, 8])
 (.cond (.tmp 8)
  (.seq (.reg [
      ⟨(some 9), .mv (.tmp 0), none⟩,
      ⟨(some 2), .mv (.tmp 9), none⟩] [2])
  (.ret))
  (.skip)))
 (.seq (.seq (.reg [
     ⟨(some 3), .mv (.const (.int .i64 1)), none⟩] [0, 3])
 (.block 0 (.loop [0, 3]
   (.seq (.seq (.reg [
       ⟨(some 10), .mv (.tmp 3), none⟩,
       ⟨(some 11), .mv (.tmp 0), none⟩,
       ⟨(some 12), .len (.tmp 11), none⟩,
       ⟨(some 13), .bin .lss (.tmp 10) (.tmp 12), none⟩] [0, 3, 13])
   (.cond (.tmp 13)
    (.skip)
    (.exit 0)))
   (.seq (.block 1 (.seq (.reg [
        ⟨(some 16), .mv (.tmp 0), none⟩,
        ⟨(some 17), .mv (.tmp 3), none⟩,
        ⟨(some 18), .iaddr 1 (.tmp 16) (.tmp 17), none⟩,
        ⟨(some 19), .load 1 false (.tmp 18), none⟩,
        ⟨(some 20), .mv (.tmp 0), none⟩,
        ⟨(some 21), .mv (.tmp 3), none⟩,
        ⟨(some 22), .bin .sub (.tmp 21) (.const (.int .i64 1)), none⟩,
        ⟨(some 23), .iaddr 1 (.tmp 20) (.tmp 22), none⟩,
        ⟨(some 24), .load 1 false (.tmp 23), none⟩,
        ⟨(some 25), .bin .eql (.tmp 19) (.tmp 24), none⟩] [0, 3, 25])
    (.cond (.tmp 25)
     (.seq (.reg [
         ⟨(some 26), .mv (.tmp 0), none⟩,
         ⟨(some 27), .mv (.tmp 3), none⟩,
         ⟨(some 28), .slc 1 (.tmp 26) (some (.tmp 27)) none, none⟩,
         ⟨(some 4), .mv (.tmp 28), none⟩] [0, 3, 4])
     (.seq (.seq (.reg [
         ⟨(some 5), .mv (.const (.int .i64 1)), none⟩] [0, 3, 4, 5])
     (.block 2 (.loop [0, 3, 4, 5]
       (.seq (.seq (.reg [
           ⟨(some 29), .mv (.tmp 5), none⟩,
           ⟨(some 30), .mv (.tmp 4), none⟩,
           ⟨(some 31), .len (.tmp 30), none⟩,
           ⟨(some 32), .bin .lss (.tmp 29) (.tmp 31), none⟩] [0, 3, 4, 5, 32])
       (.cond (.tmp 32)
        (.skip)
        (.exit 2)))
       (.seq (.block 3 (.seq (.reg [
            ⟨(some 35), .mv (.tmp 4), none⟩,
            ⟨(some 36), .mv (.tmp 5), none⟩,
            ⟨(some 37), .iaddr 1 (.tmp 35) (.tmp 36), none⟩,
            ⟨(some 38), .load 1 false (.tmp 37), none⟩,
            ⟨(some 39), .mv (.tmp 4), none⟩,
            ⟨(some 40), .mv (.tmp 5), none⟩,
            ⟨(some 41), .bin .sub (.tmp 40) (.const (.int .i64 1)), none⟩,
            ⟨(some 42), .iaddr 1 (.tmp 39) (.tmp 41), none⟩,
            ⟨(some 43), .load 1 false (.tmp 42), none⟩,
            ⟨(some 44), .bin .neq (.tmp 38) (.tmp 43), none⟩] [0, 3, 4, 5, 44])
        (.cond (.tmp 44)
         (.seq (.reg [
             ⟨(some 45), .mv (.tmp 0), none⟩,
             ⟨(some 46), .mv (.tmp 3), none⟩,
             ⟨(some 47), .mv (.tmp 4), none⟩,
             ⟨(some 48), .mv (.tmp 5), none⟩,
             ⟨(some 49), .iaddr 1 (.tmp 47) (.tmp 48), none⟩,
             ⟨(some 50), .load 1 false (.tmp 49), none⟩,
             ⟨(some 51), .iaddr 1 (.tmp 45) (.tmp 46), none⟩,
             ⟨none, .store 1 (.tmp 51) (.tmp 50), none⟩] [0, 3, 4, 5])
         (.reg [
             ⟨(some 52), .mv (.tmp 3), none⟩,
             ⟨(some 53), .bin .add (.tmp 52) (.const (.int .i64 1)), none⟩,
             ⟨(some 3), .mv (.tmp 53), none⟩] [0, 3, 4, 5]))
         (.skip))))
       (.reg [
           ⟨(some 33), .mv (.tmp 5), none⟩,
           ⟨(some 34), .bin .add (.tmp 33) (.const (.int .i64 1)), none⟩,
           ⟨(some 5), .mv (.tmp 34), none⟩] [0, 3, 4, 5]))))))
     (.seq (.reg [
         ⟨(some 54), .mv (.tmp 0), none⟩,
         ⟨(some 55), .mv (.tmp 3), none⟩,
         ⟨(some 56), .slc 1 (.tmp 54) (some (.tmp 55)) none, none⟩,
         ⟨none, .clr (.int .i64 0) (.tmp 56), none⟩] [0, 3])
     (.seq (.reg [
         ⟨(some 57), .mv (.tmp 0), none⟩,
         ⟨(some 58), .mv (.tmp 3), none⟩,
         ⟨(some 59), .slc 1 (.tmp 57) none (some (.tmp 58)), none⟩,
         ⟨(some 2), .mv (.tmp 59), none⟩] [2])
     (.ret)))))
     (.skip))))
   (.reg [
       ⟨(some 14), .mv (.tmp 3), none⟩,
       ⟨(some 15), .bin .add (.tmp 14) (.const (.int .i64 1)), none⟩,
       ⟨(some 3), .mv (.tmp 15), none⟩] [0, 3]))))))
 (.seq (.reg [
     ⟨(some 60), .mv (.tmp 0), none⟩,
     ⟨(some 2), .mv (.tmp 60), none⟩] [2])
 (.ret))))
theorem s_slices_Compact_Lint64_int64 : stripF Try.prog 94 [[0], [0, 8], [2], [0, 3], [0, 3], [0, 3, 13], [0, 3, 25], [0, 3, 4], [0, 3, 4, 5], [0, 3, 4, 5], [0, 3, 4, 5, 32], [0, 3, 4, 5, 44], [0, 3, 4, 5], [0, 3, 4, 5], [0, 3, 4, 5], [0, 3], [2], [0, 3], [2]] = some (c_slices_Compact_Lint64_int64, [.tmp 2], 61) := by kernel_rfl
def kx (xs : List Int) : List (List Int) := xs.map fun x => [x]
theorem kx_len (xs : List Int) : (kx xs).length = xs.length := by simp [kx]
theorem kx_get {xs : List Int} {j : Nat} (hj : j < xs.length) : (kx xs).getD j [] = [xs.getD j 0] := by
  unfold kx
  rw [List.getD_eq_getElem?_getD, List.getElem?_map, List.getElem?_eq_getElem hj, getD_get hj]; rfl
theorem kx_eq {xs : List Int} {a b : Nat} (ha : a < xs.length) (hb : b < xs.length) : (kx xs).getD a [] = (kx xs).getD b [] ↔ xs.getD a 0 = xs.getD b 0 := by
  rw [kx_get ha, kx_get hb]; simp
theorem cmpL_one (a b : Int) : cmpL [a] [b] < 0 ↔ a < b := by
  simp only [cmpL]
  split
  · omega
  · split <;> omega
theorem isort_le (xs : List Int) : (isort xs).Pairwise fun a b => a ≤ b := isort_sorted xs
theorem manyL_keep (xs : List Int) : (keepI (kx (isort xs)) (isort xs).length).length = manyL xs := by
  have h1 : (keepI (kx (isort xs)) (isort xs).length).length = (ddT (kx (isort xs)) (kx (isort xs)).length).length := by rw [← keepI_map, List.length_map, kx_len]
  rw [h1, ddT_is]
  · have : sortU cmpL (kx (isort xs)) = (sortU cmpR xs).map fun x => [x] := by
      refine asc_uniq cmpL_tot (sortU_asc cmpL_tot _) ?_ fun y => ?_
      · unfold Asc
        rw [List.pairwise_map]
        refine (sortU_asc cmpR_tot xs).imp ?_
        intro a b h
        rw [cmpL_one]
        unfold cmpR at h; omega
      · rw [sortU_mem cmpL_tot]
        unfold kx
        simp only [List.mem_map]
        constructor
        · rintro ⟨a, ha, rfl⟩
          exact ⟨a, (sortU_mem cmpR_tot _ _).2 ((isort_perm xs).mem_iff.1 ha), rfl⟩
        · rintro ⟨a, ha, rfl⟩
          exact ⟨a, (isort_perm xs).mem_iff.2 ((sortU_mem cmpR_tot _ _).1 ha), rfl⟩
    rw [this, List.length_map]; rfl
  · unfold kx
    rw [List.pairwise_map]
    refine (isort_le xs).imp ?_
    intro a b h
    rw [cmpL_one]; omega
theorem compactI_ok (H : List Blk) (i ver ty : Nat) (xs : List Int) (hi : H[i]? = some ⟨ver, ty, 1, xs.map I⟩) (hl : xs.length ≤ 2000000) :
    ACalls Try.prog f_slices_Compact_Lint64_int64 [.nm i ver 0 xs.length] H (fun r H' => ∃ cells, r = .nm i ver 0 (keepI (kx xs) xs.length).length ∧ H' = H.set i ⟨ver, ty, 1, cells⟩ ∧ (keepI (kx xs) xs.length).length ≤ cells.length) := by
  have hilt := (List.getElem?_eq_some_iff.1 hi).1
  have hself : H.set i ⟨ver, ty, 1, xs.map I⟩ = H := by
    obtain ⟨g1, g2⟩ := List.getElem?_eq_some_iff.1 hi
    rw [← g2]; exact List.set_getElem_self g1
  generalize hcs : xs.map I = cs at *
  have hcl : cs.length = xs.length := by rw [← hcs]; simp
  have hv : aview H (.nm i ver 0 xs.length) = some (xs.length, cs) := by rw [← hcl]; exact view_nm hi rfl
  have hgc : ∀ j, j < xs.length → cs[j]? = some (I (xs.getD j 0)) := fun j hj => by
    rw [← hcs, List.getElem?_map, List.getElem?_eq_getElem hj, getD_get hj]; rfl
  have hgd : ∀ j, j < xs.length → cs.getD j nilS = I (xs.getD j 0) := fun j hj => by rw [List.getD_eq_getElem?_getD, hgc j hj]; rfl
  have fin : ∀ k, k = xs.length → keepI (kx xs) k = List.range k → GR H (fun r H' => ∃ cells, r = .nm i ver 0 (keepI (kx xs) xs.length).length ∧ H' = H.set i ⟨ver, ty, 1, cells⟩ ∧ (keepI (kx xs) xs.length).length ≤ cells.length) (.nm i ver 0 xs.length) H := by
    rintro k rfl hk
    rw [hk]
    refine GR.of ⟨cs, by simp, hself.symm, by simp; omega⟩
  refine ACalls.introB s_slices_Compact_Lint64_int64 (by simp) ?_; intro hB hA; unfold c_slices_Compact_Lint64_int64; simp (config := { maxSteps := 1000000 }) (disch := (first | omega | (simp only [go_sem]; try omega))) only [go_sem, Nat.reduceAdd, Nat.reduceEqDiff, Nat.reduceLeDiff, Nat.reduceMul, Nat.reduceLT, reduceIte, Int.reduceToNat, w64_id, cast_succ]
  by_cases h2 : xs.length < 2
  · have d2 : decide ((xs.length : Int) < 2) = true := decide_eq_true (by omega)
    have hdd : keepI (kx xs) xs.length = List.range xs.length := by
      match xs, h2 with
      | [], _ => rfl
      | [x], _ => rfl
    repeat (first | (with_reducible first | refine SW.seq ?_ | refine SW.block ?_ | refine SW.rowC ?_ | refine SW.skip ?_ | refine SW.exit ?_ | intro _ | refine And.intro (by omega) ?_) | simp (config := { maxSteps := 1000000 }) (disch := (first | omega | (simp only [go_sem]; try omega))) only [go_sem, Nat.reduceAdd, Nat.reduceEqDiff, Nat.reduceLeDiff, Nat.reduceMul, Nat.reduceLT, reduceIte, Int.reduceToNat, w64_id, cast_succ, hv, d2])
    refine SW.condT rfl ?_
    repeat (first | (with_reducible first | refine SW.seq ?_ | refine SW.block ?_ | refine SW.rowC ?_ | refine SW.skip ?_ | refine SW.exit ?_ | intro _ | refine And.intro (by omega) ?_) | simp (config := { maxSteps := 1000000 }) (disch := (first | omega | (simp only [go_sem]; try omega))) only [go_sem, Nat.reduceAdd, Nat.reduceEqDiff, Nat.reduceLeDiff, Nat.reduceMul, Nat.reduceLT, reduceIte, Int.reduceToNat, w64_id, cast_succ])
    refine SW.ret ?_; (try simp only [go_sem]); (first | refine FunPost.one ?_ | refine FunPost.two ?_ | refine FunPost.three ?_); (try simp (config := { maxSteps := 1000000 }) (disch := (first | omega | (simp only [go_sem]; try omega))) only [go_sem, Nat.reduceAdd, Nat.reduceEqDiff, Nat.reduceLeDiff, Nat.reduceMul, Nat.reduceLT, reduceIte, Int.reduceToNat, w64_id, cast_succ])
    exact fin _ rfl hdd
  have d2 : decide ((xs.length : Int) < 2) = false := decide_eq_false (by omega)
  repeat (first | (with_reducible first | refine SW.seq ?_ | refine SW.block ?_ | refine SW.rowC ?_ | refine SW.skip ?_ | refine SW.exit ?_ | intro _ | refine And.intro (by omega) ?_) | simp (config := { maxSteps := 1000000 }) (disch := (first | omega | (simp only [go_sem]; try omega))) only [go_sem, Nat.reduceAdd, Nat.reduceEqDiff, Nat.reduceLeDiff, Nat.reduceMul, Nat.reduceLT, reduceIte, Int.reduceToNat, w64_id, cast_succ, hv, d2])
  refine SW.condF rfl ?_
  repeat (first | (with_reducible first | refine SW.seq ?_ | refine SW.block ?_ | refine SW.rowC ?_ | refine SW.skip ?_ | refine SW.exit ?_ | intro _ | refine And.intro (by omega) ?_) | simp (config := { maxSteps := 1000000 }) (disch := (first | omega | (simp only [go_sem]; try omega))) only [go_sem, Nat.reduceAdd, Nat.reduceEqDiff, Nat.reduceLeDiff, Nat.reduceMul, Nat.reduceLT, reduceIte, Int.reduceToNat, w64_id, cast_succ])
  refine SW.loopE (fun E0 H0 q E' H' => ∃ k : Nat, 1 ≤ k ∧ k ≤ xs.length ∧ q = xs.length - k ∧ E' = aput E0 3 (I k) ∧ H' = H0 ∧ keepI (kx xs) k = List.range k) (xs.length - 1) ⟨1, by omega, by omega, rfl, rfl, rfl, rfl⟩ ?_
  rintro q E' H' ⟨k, hk1, hkl, rfl, rfl, rfl, hdk⟩
  simp (config := { maxSteps := 1000000 }) (disch := (first | omega | (simp only [go_sem]; try omega))) only [go_sem, Nat.reduceAdd, Nat.reduceEqDiff, Nat.reduceLeDiff, Nat.reduceMul, Nat.reduceLT, reduceIte, Int.reduceToNat, w64_id, cast_succ]
  repeat (first | (with_reducible first | refine SW.seq ?_ | refine SW.block ?_ | refine SW.rowC ?_ | refine SW.skip ?_ | refine SW.exit ?_ | intro _ | refine And.intro (by omega) ?_) | simp (config := { maxSteps := 1000000 }) (disch := (first | omega | (simp only [go_sem]; try omega))) only [go_sem, Nat.reduceAdd, Nat.reduceEqDiff, Nat.reduceLeDiff, Nat.reduceMul, Nat.reduceLT, reduceIte, Int.reduceToNat, w64_id, cast_succ, hv])
  (first | refine SW.condD rfl (fun h3 => ?_) (fun h3 => ?_) | refine SW.condN rfl (fun h3 => ?_) (fun h3 => ?_) | refine SW.condNB rfl (fun h3 => ?_) (fun h3 => ?_) | refine SW.condB rfl (fun h3 => ?_) (fun h3 => ?_))
  · have hklt : k < xs.length := by omega
    have e1 : (k : Int) - 1 = ((k - 1 : Nat) : Int) := by omega
    have hc1 := hgc k hklt
    have hc2 := hgc (k - 1) (by omega)
    by_cases heq : xs.getD k 0 = xs.getD (k - 1) 0
    · have d4 := decide_eq_true heq
      repeat (first | (with_reducible first | refine SW.seq ?_ | refine SW.block ?_ | refine SW.rowC ?_ | refine SW.skip ?_ | refine SW.exit ?_ | intro _ | refine And.intro (by omega) ?_) | simp (config := { maxSteps := 1000000 }) (disch := (first | omega | (simp only [go_sem]; try omega))) only [go_sem, Nat.reduceAdd, Nat.reduceEqDiff, Nat.reduceLeDiff, Nat.reduceMul, Nat.reduceLT, reduceIte, Int.reduceToNat, w64_id, cast_succ, hv, e1, hc1, hc2, d4])
      refine SW.condT rfl ?_
      have hsz : ∀ cells', ((H'.set i ⟨ver, ty, 1, cells'⟩)[i]?).map Blk.sz = some 1 := fun cells' => by rw [List.getElem?_set_self hilt]; rfl
      have hsz0 : (H'[i]?).map Blk.sz = some 1 := by rw [hi]; rfl
      have hs1 : ∀ K : AV → Prop, SlcG 1 (.nm i ver 0 xs.length) (k : Int) ((xs.length : Nat) : Int) H' K (some (xs.length, cs)) = K (.nm i ver k (xs.length - k)) := fun K => by
        rw [slcNm (by omega) (by omega) (by omega) hsz0]; simp
      repeat (first | (with_reducible first | refine SW.seq ?_ | refine SW.block ?_ | refine SW.rowC ?_ | refine SW.skip ?_ | refine SW.exit ?_ | intro _ | refine And.intro (by omega) ?_) | simp (config := { maxSteps := 1000000 }) (disch := (first | omega | (simp only [go_sem]; try omega))) only [go_sem, Nat.reduceAdd, Nat.reduceEqDiff, Nat.reduceLeDiff, Nat.reduceMul, Nat.reduceLT, reduceIte, Int.reduceToNat, w64_id, cast_succ, hv, Option.map_some, Option.map_none, hs1])
      refine SW.loopE (fun E0 H0 q E' H2 => ∃ (m : Nat) (K : List Nat), 1 ≤ m ∧ m ≤ xs.length - k ∧ q = xs.length - k - m ∧ K = keepI (kx xs) (k + m) ∧ k ≤ K.length ∧ K.length < k + m ∧ E' = aput (aput E0 5 (I m)) 3 (I K.length) ∧ H2 = H'.set i ⟨ver, ty, 1, K.map (fun j => cs.getD j nilS) ++ cs.drop K.length⟩) (xs.length - k - 1) ⟨1, List.range k, by omega, by omega, by omega, ?_, by simp, by simp, by simp [go_sem], ?_⟩ ?_
      · rw [keepI_succ, if_neg (by simp only [not_or, ne_eq, Decidable.not_not]; exact ⟨by omega, (kx_eq (by omega) (by omega)).2 heq⟩), hdk]; simp
      · rw [range_getD cs nilS k (by omega), List.length_range, List.take_append_drop, hself]
      rintro q E' H2 ⟨m, K, hm1, hml, rfl, hK, hkK, hKl, rfl, rfl⟩
      have hcl3 : (K.map (fun j => cs.getD j nilS) ++ cs.drop K.length).length = xs.length := by simp; omega
      generalize hC : K.map (fun j => cs.getD j nilS) ++ cs.drop K.length = C at *
      have hget : (H'.set i ⟨ver, ty, 1, C⟩)[i]? = some ⟨ver, ty, 1, C⟩ := List.getElem?_set_self hilt
      have hv0 : aview (H'.set i ⟨ver, ty, 1, C⟩) (.nm i ver 0 xs.length) = some (xs.length, C) := by rw [← hcl3]; exact view_nm hget rfl
      have hv2 : aview (H'.set i ⟨ver, ty, 1, C⟩) (.nm i ver k (xs.length - k)) = some (xs.length - k, C.drop k) := by
        simp only [aview, hget, if_true, Nat.mul_one]
        rw [List.take_of_length_le (by simp; omega)]
      have hcg : ∀ j, K.length ≤ j → j < xs.length → C[j]? = some (I (xs.getD j 0)) := fun j h1 h2 => by
        rw [← hC, List.getElem?_append_right (by simpa using h1), List.getElem?_drop, List.length_map, show K.length + (j - K.length) = j by omega]
        exact hgc j h2
      simp (config := { maxSteps := 1000000 }) (disch := (first | omega | (simp only [go_sem]; try omega))) only [go_sem, Nat.reduceAdd, Nat.reduceEqDiff, Nat.reduceLeDiff, Nat.reduceMul, Nat.reduceLT, reduceIte, Int.reduceToNat, w64_id, cast_succ]
      repeat (first | (with_reducible first | refine SW.seq ?_ | refine SW.block ?_ | refine SW.rowC ?_ | refine SW.skip ?_ | refine SW.exit ?_ | intro _ | refine And.intro (by omega) ?_) | simp (config := { maxSteps := 1000000 }) (disch := (first | omega | (simp only [go_sem]; try omega))) only [go_sem, Nat.reduceAdd, Nat.reduceEqDiff, Nat.reduceLeDiff, Nat.reduceMul, Nat.reduceLT, reduceIte, Int.reduceToNat, w64_id, cast_succ, hv2])
      (first | refine SW.condD rfl (fun h4 => ?_) (fun h4 => ?_) | refine SW.condN rfl (fun h4 => ?_) (fun h4 => ?_) | refine SW.condNB rfl (fun h4 => ?_) (fun h4 => ?_) | refine SW.condB rfl (fun h4 => ?_) (fun h4 => ?_))
      · have hcm : (C.drop k)[m]? = some (I (xs.getD (k + m) 0)) := by rw [List.getElem?_drop]; exact hcg _ (by omega) (by omega)
        have hcm1 : (C.drop k)[m - 1]? = some (I (xs.getD (k + m - 1) 0)) := by rw [List.getElem?_drop, show k + (m - 1) = k + m - 1 by omega]; exact hcg _ (by omega) (by omega)
        have e2 : (m : Int) - 1 = ((m - 1 : Nat) : Int) := by omega
        have hst : ∀ c, astore (H'.set i ⟨ver, ty, 1, C⟩) [c] (.el (.nm i ver 0 xs.length) K.length) = some (H'.set i ⟨ver, ty, 1, C.set K.length c⟩) := fun c => by
          rw [store_nm hget (by rw [hcl3]; omega), List.set_set]
        have hsetC : C.set K.length (I (xs.getD (k + m) 0)) = (K ++ [k + m]).map (fun j => cs.getD j nilS) ++ cs.drop (K ++ [k + m]).length := by
          rw [← hC, List.set_append_right _ _ (by simp), List.length_map, Nat.sub_self, List.drop_eq_getElem_cons (show K.length < cs.length by omega), List.set_cons_zero]
          rw [List.map_append, List.map_cons, List.map_nil, hgd (k + m) (by omega)]
          simp
        by_cases heq2 : xs.getD (k + m) 0 = xs.getD (k + m - 1) 0
        · have d5 := decide_eq_true heq2
          repeat (first | (with_reducible first | refine SW.seq ?_ | refine SW.block ?_ | refine SW.rowC ?_ | refine SW.skip ?_ | refine SW.exit ?_ | intro _ | refine And.intro (by omega) ?_) | simp (config := { maxSteps := 1000000 }) (disch := (first | omega | (simp only [go_sem]; try omega))) only [go_sem, Nat.reduceAdd, Nat.reduceEqDiff, Nat.reduceLeDiff, Nat.reduceMul, Nat.reduceLT, reduceIte, Int.reduceToNat, w64_id, cast_succ, hv2, hv0, e2, hcm, hcm1, d5])
          refine SW.condF rfl ?_
          repeat (first | (with_reducible first | refine SW.seq ?_ | refine SW.block ?_ | refine SW.rowC ?_ | refine SW.skip ?_ | refine SW.exit ?_ | intro _ | refine And.intro (by omega) ?_) | simp (config := { maxSteps := 1000000 }) (disch := (first | omega | (simp only [go_sem]; try omega))) only [go_sem, Nat.reduceAdd, Nat.reduceEqDiff, Nat.reduceLeDiff, Nat.reduceMul, Nat.reduceLT, reduceIte, Int.reduceToNat, w64_id, cast_succ])
          refine SLoop.next (xs.length - k - (m + 1)) (by omega) ⟨m + 1, K, by omega, by omega, rfl, ?_, hkK, by omega, by simp [go_sem], by rw [hC]⟩
          rw [show k + (m + 1) = (k + m) + 1 by omega, keepI_succ, if_neg (by simp only [not_or, ne_eq, Decidable.not_not]; exact ⟨by omega, (kx_eq (by omega) (by omega)).2 heq2⟩), ← hK]; simp
        · have d5 := decide_eq_false heq2
          repeat (first | (with_reducible first | refine SW.seq ?_ | refine SW.block ?_ | refine SW.rowC ?_ | refine SW.skip ?_ | refine SW.exit ?_ | intro _ | refine And.intro (by omega) ?_) | simp (config := { maxSteps := 1000000 }) (disch := (first | omega | (simp only [go_sem]; try omega))) only [go_sem, Nat.reduceAdd, Nat.reduceEqDiff, Nat.reduceLeDiff, Nat.reduceMul, Nat.reduceLT, reduceIte, Int.reduceToNat, w64_id, cast_succ, hv2, hv0, e2, hcm, hcm1, d5])
          refine SW.condT rfl ?_
          repeat (first | (with_reducible first | refine SW.seq ?_ | refine SW.block ?_ | refine SW.rowC ?_ | refine SW.skip ?_ | refine SW.exit ?_ | intro _ | refine And.intro (by omega) ?_) | simp (config := { maxSteps := 1000000 }) (disch := (first | omega | (simp only [go_sem]; try omega))) only [go_sem, Nat.reduceAdd, Nat.reduceEqDiff, Nat.reduceLeDiff, Nat.reduceMul, Nat.reduceLT, reduceIte, Int.reduceToNat, w64_id, cast_succ, hv2, hv0, hcm, hst])
          refine SLoop.next (xs.length - k - (m + 1)) (by omega) ⟨m + 1, K ++ [k + m], by omega, by omega, rfl, ?_, by simp; omega, by simp; omega, by simp [go_sem], by rw [hsetC]⟩
          rw [show k + (m + 1) = (k + m) + 1 by omega, keepI_succ, if_pos (.inr (fun h => heq2 ((kx_eq (by omega) (by omega)).1 h))), ← hK]
      · have hmk : k + m = xs.length := by omega
        rw [hmk] at hK hKl
        have hs2 : ∀ Kk : AV → Prop, SlcG 1 (.nm i ver 0 xs.length) (K.length : Int) ((xs.length : Nat) : Int) (H'.set i ⟨ver, ty, 1, C⟩) Kk (some (xs.length, C)) = Kk (.nm i ver K.length (xs.length - K.length)) := fun Kk => by
          rw [slcNm (by omega) (by omega) (by omega) (hsz C)]; simp
        repeat (first | (with_reducible first | refine SW.seq ?_ | refine SW.block ?_ | refine SW.rowC ?_ | refine SW.skip ?_ | refine SW.exit ?_ | intro _ | refine And.intro (by omega) ?_) | simp (config := { maxSteps := 1000000 }) (disch := (first | omega | (simp only [go_sem]; try omega))) only [go_sem, Nat.reduceAdd, Nat.reduceEqDiff, Nat.reduceLeDiff, Nat.reduceMul, Nat.reduceLT, reduceIte, Int.reduceToNat, w64_id, cast_succ, hv0, Option.map_some, Option.map_none, hs2])
        refine ClrW.of _ _ (by omega) hget (by omega) ?_
        rw [List.set_set]
        generalize hD : setMany C K.length (List.replicate (xs.length - K.length) (AV.lit (.int .i64 0))) = D
        have hDl : D.length = xs.length := by rw [← hD, setMany_length]; exact hcl3
        have hgetD : (H'.set i ⟨ver, ty, 1, D⟩)[i]? = some ⟨ver, ty, 1, D⟩ := List.getElem?_set_self hilt
        have hvD : aview (H'.set i ⟨ver, ty, 1, D⟩) (.nm i ver 0 xs.length) = some (xs.length, D) := by rw [← hDl]; exact view_nm hgetD rfl
        have hs3 : ∀ Kk : AV → Prop, SlcG 1 (.nm i ver 0 xs.length) 0 (K.length : Int) (H'.set i ⟨ver, ty, 1, D⟩) Kk (some (xs.length, D)) = Kk (.nm i ver 0 K.length) := fun Kk => by
          rw [slcNm0 (by omega) (by omega) (hsz D)]; simp
        repeat (first | (with_reducible first | refine SW.seq ?_ | refine SW.block ?_ | refine SW.rowC ?_ | refine SW.skip ?_ | refine SW.exit ?_ | intro _ | refine And.intro (by omega) ?_) | simp (config := { maxSteps := 1000000 }) (disch := (first | omega | (simp only [go_sem]; try omega))) only [go_sem, Nat.reduceAdd, Nat.reduceEqDiff, Nat.reduceLeDiff, Nat.reduceMul, Nat.reduceLT, reduceIte, Int.reduceToNat, w64_id, cast_succ, hvD, Option.map_some, Option.map_none, hs3])
        refine SW.ret ?_; (try simp only [go_sem]); (first | refine FunPost.one ?_ | refine FunPost.two ?_ | refine FunPost.three ?_); (try simp (config := { maxSteps := 1000000 }) (disch := (first | omega | (simp only [go_sem]; try omega))) only [go_sem, Nat.reduceAdd, Nat.reduceEqDiff, Nat.reduceLeDiff, Nat.reduceMul, Nat.reduceLT, reduceIte, Int.reduceToNat, w64_id, cast_succ])
        rw [← hK]
        exact GR.of ⟨D, rfl, rfl, by omega⟩
    · have d4 := decide_eq_false heq
      repeat (first | (with_reducible first | refine SW.seq ?_ | refine SW.block ?_ | refine SW.rowC ?_ | refine SW.skip ?_ | refine SW.exit ?_ | intro _ | refine And.intro (by omega) ?_) | simp (config := { maxSteps := 1000000 }) (disch := (first | omega | (simp only [go_sem]; try omega))) only [go_sem, Nat.reduceAdd, Nat.reduceEqDiff, Nat.reduceLeDiff, Nat.reduceMul, Nat.reduceLT, reduceIte, Int.reduceToNat, w64_id, cast_succ, hv, e1, hc1, hc2, d4])
      refine SW.condF rfl ?_
      repeat (first | (with_reducible first | refine SW.seq ?_ | refine SW.block ?_ | refine SW.rowC ?_ | refine SW.skip ?_ | refine SW.exit ?_ | intro _ | refine And.intro (by omega) ?_) | simp (config := { maxSteps := 1000000 }) (disch := (first | omega | (simp only [go_sem]; try omega))) only [go_sem, Nat.reduceAdd, Nat.reduceEqDiff, Nat.reduceLeDiff, Nat.reduceMul, Nat.reduceLT, reduceIte, Int.reduceToNat, w64_id, cast_succ])
      refine SLoop.next (xs.length - (k + 1)) (by omega) ⟨k + 1, by omega, by omega, rfl, by simp [go_sem], rfl, ?_⟩
      rw [keepI_succ, if_pos (.inr (fun h => heq ((kx_eq (by omega) (by omega)).1 h))), hdk, List.range_succ]
  · have : k = xs.length := by omega
    subst this
    repeat (first | (with_reducible first | refine SW.seq ?_ | refine SW.block ?_ | refine SW.rowC ?_ | refine SW.skip ?_ | refine SW.exit ?_ | intro _ | refine And.intro (by omega) ?_) | simp (config := { maxSteps := 1000000 }) (disch := (first | omega | (simp only [go_sem]; try omega))) only [go_sem, Nat.reduceAdd, Nat.reduceEqDiff, Nat.reduceLeDiff, Nat.reduceMul, Nat.reduceLT, reduceIte, Int.reduceToNat, w64_id, cast_succ])
    refine SW.ret ?_; (try simp only [go_sem]); (first | refine FunPost.one ?_ | refine FunPost.two ?_ | refine FunPost.three ?_); (try simp (config := { maxSteps := 1000000 }) (disch := (first | omega | (simp only [go_sem]; try omega))) only [go_sem, Nat.reduceAdd, Nat.reduceEqDiff, Nat.reduceLeDiff, Nat.reduceMul, Nat.reduceLT, reduceIte, Int.reduceToNat, w64_id, cast_succ])
    exact fin _ rfl hdk
theorem cellCount_ok (H : List Blk) (a : AV) (xs : List Int) (ha : RdS H a xs) (hl : xs.length ≤ 2000000) : ACalls Try.prog f_impl_cellCount [a] H (fun r H' => r = I (manyL xs) ∧ H' = H) := by
  have hmk := manyL_keep xs
  have hil := isort_length xs
  refine ACalls.introB s_impl_cellCount (by simp) ?_; intro hB hA; unfold c_impl_cellCount; simp (config := { maxSteps := 1000000 }) (disch := (first | omega | (simp only [go_sem]; try omega))) only [go_sem, Nat.reduceAdd, Nat.reduceEqDiff, Nat.reduceLeDiff, Nat.reduceMul, Nat.reduceLT, reduceIte, Int.reduceToNat, w64_id, cast_succ]
  repeat (first | (with_reducible first | refine SW.seq ?_ | refine SW.block ?_ | refine SW.rowC ?_ | refine SW.skip ?_ | refine SW.exit ?_ | intro _ | refine And.intro (by omega) ?_) | simp (config := { maxSteps := 1000000 }) (disch := (first | omega | (simp only [go_sem]; try omega))) only [go_sem, Nat.reduceAdd, Nat.reduceEqDiff, Nat.reduceLeDiff, Nat.reduceMul, Nat.reduceLT, reduceIte, Int.reduceToNat, w64_id, cast_succ])
  refine (clone_ok _ a xs ha (by omega)).mono ?_
  rintro r X ⟨ver, rfl, rfl⟩
  repeat (first | (with_reducible first | refine SW.seq ?_ | refine SW.block ?_ | refine SW.rowC ?_ | refine SW.skip ?_ | refine SW.exit ?_ | intro _ | refine And.intro (by omega) ?_) | simp (config := { maxSteps := 1000000 }) (disch := (first | omega | (simp only [go_sem]; try omega))) only [go_sem, Nat.reduceAdd, Nat.reduceEqDiff, Nat.reduceLeDiff, Nat.reduceMul, Nat.reduceLT, reduceIte, Int.reduceToNat, w64_id, cast_succ])
  refine (sortI_ok sortL_p sortL_n _ H.length ver 2 xs (by simp) (by omega)).mono ?_
  rintro r X ⟨rfl, rfl⟩
  generalize hS : isort xs = S at *
  have hco := compactI_ok (H ++ [(⟨ver, 2, 1, S.map I⟩ : Blk)]) H.length ver 2 S (by simp) (by omega)
  rw [hil] at hco hmk
  have hse : (H ++ [(⟨ver, 2, 1, xs.map I⟩ : Blk)]).set H.length ⟨ver, 2, 1, S.map I⟩ = H ++ [⟨ver, 2, 1, S.map I⟩] := by simp
  rw [hse]
  repeat (first | (with_reducible first | refine SW.seq ?_ | refine SW.block ?_ | refine SW.rowC ?_ | refine SW.skip ?_ | refine SW.exit ?_ | intro _ | refine And.intro (by omega) ?_) | simp (config := { maxSteps := 1000000 }) (disch := (first | omega | (simp only [go_sem]; try omega))) only [go_sem, Nat.reduceAdd, Nat.reduceEqDiff, Nat.reduceLeDiff, Nat.reduceMul, Nat.reduceLT, reduceIte, Int.reduceToNat, w64_id, cast_succ])
  refine hco.mono ?_
  rintro r X ⟨cells, rfl, rfl, hcl⟩
  rw [hmk]
  repeat (first | (with_reducible first | refine SW.seq ?_ | refine SW.block ?_ | refine SW.rowC ?_ | refine SW.skip ?_ | refine SW.exit ?_ | intro _ | refine And.intro (by omega) ?_) | simp (config := { maxSteps := 1000000 }) (disch := (first | omega | (simp only [go_sem]; try omega))) only [go_sem, Nat.reduceAdd, Nat.reduceEqDiff, Nat.reduceLeDiff, Nat.reduceMul, Nat.reduceLT, reduceIte, Int.reduceToNat, w64_id, cast_succ])
  refine SW.ret ?_; (try simp only [go_sem]); (first | refine FunPost.one ?_ | refine FunPost.two ?_ | refine FunPost.three ?_); (try simp (config := { maxSteps := 1000000 }) (disch := (first | omega | (simp only [go_sem]; try omega))) only [go_sem, Nat.reduceAdd, Nat.reduceEqDiff, Nat.reduceLeDiff, Nat.reduceMul, Nat.reduceLT, reduceIte, Int.reduceToNat, w64_id, cast_succ])
  exact GR.froz (froz_I' _) ⟨rfl, rfl⟩
end Go.Proofs.Ytmdeibdplpodpaa
