/- A round of refinement: the program. -/
import Derived.Test.YtmdeibdplpodpaaProg
import Derived.KernelRfl
import Derived.Test.YtmdeibdplpodpaazRT
set_option linter.unusedSimpArgs false
set_option linter.unusedVariables false
set_option maxHeartbeats 4000000
set_option maxRecDepth 100000
namespace Go.Proofs.Ytmdeibdplpodpaa
open Go.Av
abbrev f_impl_refineOnce : Nat := 74
def c_impl_refineOnce : SC :=
 .seq (.reg [
     ⟨(some 4), .mv (.const (.slice none 0 0)), none⟩] [0, 1])
 (.seq (.reg [
     ⟨(some 17), .mv (.tmp 1), none⟩,
     ⟨(some 18), .len (.tmp 17), none⟩,
     ⟨(some 19), .mslice 22 24 (.slice none 0 0) (.tmp 18) (.tmp 18), none⟩,
     ⟨(some 5), .mv (.tmp 19), none⟩] [0, 1, 5])
 (.seq (.seq (.reg [
     ⟨(some 20), .mv (.tmp 1), none⟩,
     ⟨(some 21), .len (.tmp 20), none⟩,
     ⟨(some 22), .mv (.const (.int .i64 0)), none⟩] [0, 1, 5, 20, 21, 22])
 (.block 0 (.loop [0, 1, 5, 20, 21, 22]
   (.seq (.reg [
       ⟨(some 23), .bin .lss (.tmp 22) (.tmp 21), none⟩] [0, 1, 5, 20, 21, 22, 23])
   (.seq (.cond (.tmp 23)
    (.skip)
    (.exit 0))
   (.seq (.block 1 (.seq (.reg [
        ⟨(some 24), .mv (.tmp 22), none⟩,
        ⟨(some 25), .iaddr 1 (.tmp 20) (.tmp 22), none⟩,
        ⟨(some 26), .load 1 false (.tmp 25), none⟩,
        ⟨(some 6), .mv (.tmp 24), none⟩,
        ⟨(some 7), .mv (.tmp 26), none⟩] [0, 1, 5, 6, 7, 20, 21, 22])
    (.seq (.reg [
        ⟨(some 8), .mv (.const (.slice none 0 0)), none⟩] [0, 1, 5, 6, 7, 8, 20, 21, 22])
    (.seq (.seq (.reg [
        ⟨(some 27), .mv (.tmp 0), none⟩,
        ⟨(some 28), .mv (.tmp 6), none⟩,
        ⟨(some 29), .iaddr 1 (.tmp 27) (.tmp 28), none⟩,
        ⟨(some 30), .load 1 false (.tmp 29), none⟩,
        ⟨(some 31), .len (.tmp 30), none⟩,
        ⟨(some 32), .mv (.const (.int .i64 0)), none⟩] [0, 1, 5, 6, 7, 8, 20, 21, 22, 30, 31, 32])
    (.block 2 (.loop [0, 1, 5, 6, 7, 8, 20, 21, 22, 30, 31, 32]
      (.seq (.reg [
          ⟨(some 33), .bin .lss (.tmp 32) (.tmp 31), none⟩] [0, 1, 5, 6, 7, 8, 20, 21, 22, 30, 31, 32, 33])
      (.seq (.cond (.tmp 33)
       (.skip)
       (.exit 2))
      (.seq (.block 3 (.seq (.reg [
           ⟨(some 34), .iaddr 1 (.tmp 30) (.tmp 32), none⟩,
           ⟨(some 35), .load 1 false (.tmp 34), none⟩,
           ⟨(some 10), .mv (.tmp 35), none⟩] [0, 1, 5, 6, 7, 8, 10, 20, 21, 22, 30, 31, 32])
       (.reg [
           ⟨(some 36), .mv (.tmp 8), none⟩,
           ⟨(some 37), .mv (.tmp 1), none⟩,
           ⟨(some 38), .mv (.tmp 10), none⟩,
           ⟨(some 39), .iaddr 1 (.tmp 37) (.tmp 38), none⟩,
           ⟨(some 40), .load 1 false (.tmp 39), none⟩,
           ⟨(some 41), .bslice 2 1 1 [(.int .i64 0)] [(0, (.tmp 40))], none⟩,
           ⟨(some 42), .app 2 1 8 (.tmp 36) (.tmp 41), none⟩,
           ⟨(some 8), .mv (.tmp 42), none⟩] [0, 1, 5, 6, 7, 8, 20, 21, 22, 30, 31, 32])))
      (.reg [
          ⟨(some 43), .bin .add (.tmp 32) (.const (.int .i64 1)), none⟩,
          ⟨(some 32), .mv (.tmp 43), none⟩] [0, 1, 5, 6, 7, 8, 20, 21, 22, 30, 31, 32])))))))
    (.seq (.reg [
        ⟨(some 44), .mv (.tmp 8), none⟩,
        ⟨(some 45), .call 62 [(.tmp 44)], none⟩] [0, 1, 5, 6, 7, 8, 20, 21, 22])
    (.reg [
        ⟨(some 46), .mv (.tmp 5), none⟩,
        ⟨(some 47), .mv (.tmp 6), none⟩,
        ⟨(some 48), .mv (.tmp 7), none⟩,
        ⟨(some 49), .bslice 2 1 1 [(.int .i64 0)] [(0, (.tmp 48))], none⟩,
        ⟨(some 50), .mv (.tmp 8), none⟩,
        ⟨(some 51), .app 2 1 8 (.tmp 49) (.tmp 50), none⟩,
        ⟨(some 52), .iaddr 1 (.tmp 46) (.tmp 47), none⟩,
        ⟨none, .store 1 (.tmp 52) (.tmp 51), none⟩] [0, 1, 5, 20, 21, 22]))))))
   (.reg [
       ⟨(some 53), .bin .add (.tmp 22) (.const (.int .i64 1)), none⟩,
       ⟨(some 22), .mv (.tmp 53), none⟩] [0, 1, 5, 20, 21, 22])))))))
 (.seq (.reg [
     ⟨(some 54), .mv (.tmp 5), none⟩,
     ⟨(some 55), .call 91 [(.tmp 54)], none⟩,
     ⟨(some 11), .mv (.tmp 55), none⟩] [1, 5, 11])
 (.seq (.reg [
     ⟨(some 56), .mv (.tmp 11), none⟩,
     ⟨(some 57), .call 70 [(.tmp 56), (.func 71)], none⟩] [1, 5, 11])
 (.seq (.reg [
     ⟨(some 58), .mv (.tmp 11), none⟩,
     ⟨(some 59), .call 92 [(.tmp 58), (.func 37)], none⟩,
     ⟨(some 11), .mv (.tmp 59), none⟩] [1, 5, 11])
 (.seq (.reg [
     ⟨(some 60), .mv (.tmp 1), none⟩,
     ⟨(some 61), .len (.tmp 60), none⟩,
     ⟨(some 62), .mslice 2 8 (.int .i64 0) (.tmp 61) (.tmp 61), none⟩,
     ⟨(some 12), .mv (.tmp 62), none⟩] [5, 11, 12])
 (.seq (.seq (.reg [
     ⟨(some 63), .mv (.tmp 5), none⟩,
     ⟨(some 64), .len (.tmp 63), none⟩,
     ⟨(some 65), .mv (.const (.int .i64 0)), none⟩] [11, 12, 63, 64, 65])
 (.block 4 (.loop [11, 12, 63, 64, 65]
   (.seq (.reg [
       ⟨(some 66), .bin .lss (.tmp 65) (.tmp 64), none⟩] [11, 12, 63, 64, 65, 66])
   (.seq (.cond (.tmp 66)
    (.skip)
    (.exit 4))
   (.seq (.block 5 (.seq (.reg [
        ⟨(some 67), .mv (.tmp 65), none⟩,
        ⟨(some 68), .iaddr 1 (.tmp 63) (.tmp 65), none⟩,
        ⟨(some 69), .load 1 false (.tmp 68), none⟩,
        ⟨(some 13), .mv (.tmp 67), none⟩,
        ⟨(some 14), .mv (.tmp 69), none⟩] [11, 12, 13, 14, 63, 64, 65])
    (.seq (.reg [
        ⟨(some 71), .mv (.tmp 11), none⟩,
        ⟨(some 72), .mv (.tmp 14), none⟩,
        ⟨(some 73), .call 93 [(.tmp 71), (.tmp 72), (.func 71)], none⟩,
        ⟨(some 70), .mv (.tmp 73), none⟩,
        ⟨(some 74), .ext (.tmp 70) 0, none⟩,
        ⟨(some 75), .ext (.tmp 70) 1, none⟩,
        ⟨(some 15), .mv (.tmp 74), none⟩,
        ⟨(some 16), .mv (.tmp 75), none⟩] [11, 12, 13, 15, 63, 64, 65])
    (.reg [
        ⟨(some 76), .mv (.tmp 12), none⟩,
        ⟨(some 77), .mv (.tmp 13), none⟩,
        ⟨(some 78), .mv (.tmp 15), none⟩,
        ⟨(some 79), .iaddr 1 (.tmp 76) (.tmp 77), none⟩,
        ⟨none, .store 1 (.tmp 79) (.tmp 78), none⟩] [11, 12, 63, 64, 65]))))
   (.reg [
       ⟨(some 80), .bin .add (.tmp 65) (.const (.int .i64 1)), none⟩,
       ⟨(some 65), .mv (.tmp 80), none⟩] [11, 12, 63, 64, 65])))))))
 (.seq (.reg [
     ⟨(some 81), .mv (.tmp 12), none⟩,
     ⟨(some 4), .mv (.tmp 81), none⟩] [4])
 (.ret)))))))))
theorem s_impl_refineOnce : stripF Try.prog 74 [[0, 1], [0, 1, 5], [0, 1, 5, 20, 21, 22], [0, 1, 5, 20, 21, 22], [0, 1, 5, 20, 21, 22, 23], [0, 1, 5, 6, 7, 20, 21, 22], [0, 1, 5, 6, 7, 8, 20, 21, 22], [0, 1, 5, 6, 7, 8, 20, 21, 22, 30, 31, 32], [0, 1, 5, 6, 7, 8, 20, 21, 22, 30, 31, 32], [0, 1, 5, 6, 7, 8, 20, 21, 22, 30, 31, 32, 33], [0, 1, 5, 6, 7, 8, 10, 20, 21, 22, 30, 31, 32], [0, 1, 5, 6, 7, 8, 20, 21, 22, 30, 31, 32], [0, 1, 5, 6, 7, 8, 20, 21, 22, 30, 31, 32], [0, 1, 5, 6, 7, 8, 20, 21, 22], [0, 1, 5, 20, 21, 22], [0, 1, 5, 20, 21, 22], [1, 5, 11], [1, 5, 11], [1, 5, 11], [5, 11, 12], [11, 12, 63, 64, 65], [11, 12, 63, 64, 65], [11, 12, 63, 64, 65, 66], [11, 12, 13, 14, 63, 64, 65], [11, 12, 13, 15, 63, 64, 65], [11, 12, 63, 64, 65], [11, 12, 63, 64, 65], [4]] = some (c_impl_refineOnce, [.tmp 4], 82) := by kernel_rfl
abbrev f_slices_Clone_LLint64_Lint64 : Nat := 91
def c_slices_Clone_LLint64_Lint64 : SC :=
 .seq (.reg [
     ⟨(some 2), .mv (.const (.slice none 0 0)), none⟩] [0])
 (.seq (.seq (.reg [
     ⟨(some 3), .mv (.tmp 0), none⟩,
     ⟨(some 4), .isnil false (.tmp 3), none⟩] [0, 4])
 (.cond (.tmp 4)
  (.seq (.reg [
      ⟨(some 2), .mv (.const (.slice none 0 0)), none⟩] [2])
  (.ret))
  (.skip)))
 (.seq (.reg [
     ⟨(some 5), .bslice 22 1 0 [] [], none⟩,
     ⟨(some 6), .mv (.tmp 0), none⟩,
     ⟨(some 7), .app 22 1 24 (.tmp 5) (.tmp 6), none⟩,
     ⟨(some 2), .mv (.tmp 7), none⟩] [2])
 (.ret)))
theorem s_slices_Clone_LLint64_Lint64 : stripF Try.prog 91 [[0], [0, 4], [2], [2]] = some (c_slices_Clone_LLint64_Lint64, [.tmp 2], 8) := by kernel_rfl
theorem placeN_cnt {K : List (List Int)} {key : List Int} (hK : Asc cmpL K) (hm : key ∈ K) : placeN K key = (cntL K key : Int) := by
  obtain ⟨i, hi, hg, hp⟩ := placesL_one hK hm
  unfold placeN
  rw [hp]
  show (i : Int) = _
  rw [getD_get hi] at hg
  have h0 : cmpL key key = 0 := (cmpL_tot.eq0 key key).2 rfl
  have h1 := cntL_lt (p := key) hK (h := i) hi
  rw [hg, h0] at h1
  have h2 : ¬ i < cntL K key := fun h => by have := h1.2 h; omega
  have h3 : ¬ cntL K key < i := fun h => by
    have h4 := List.pairwise_iff_getElem.1 hK (cntL K key) i (by omega) hi h
    have h5 := cntL_lt (p := key) hK (h := cntL K key) (by omega)
    rw [hg] at h4
    have := h5.1 h4
    omega
  omega
theorem cloneT_ok (H : List Blk) (a : AV) (n : Nat) (cells : List AV) (ha : aview H a = some (n, cells)) (hcl : cells.length = n) (h1 : cells.all AV.cell1 = true) (hl : n ≤ 1000000) :
    ACalls Try.prog f_slices_Clone_LLint64_Lint64 [a] H (fun r H' => ∃ ver, r = .nm H.length ver 0 n ∧ H' = H ++ [⟨ver, tyLL, 1, cells⟩]) := by
  refine ACalls.introB s_slices_Clone_LLint64_Lint64 (by simp) ?_; intro hB hA; unfold c_slices_Clone_LLint64_Lint64; simp (config := { maxSteps := 1000000 }) (disch := (first | omega | (simp only [go_sem]; try omega))) only [go_sem, Nat.reduceAdd, Nat.reduceEqDiff, Nat.reduceLeDiff, Nat.reduceMul, Nat.reduceLT, reduceIte, Int.reduceToNat, w64_id, cast_succ]
  have h2 := aview_append ha [⟨0, tyLL, 1, []⟩]
  refine SW.seq ?_; refine SW.rowC ?_; simp (config := { maxSteps := 1000000 }) (disch := (first | omega | (simp only [go_sem]; try omega))) only [go_sem, Nat.reduceAdd, Nat.reduceEqDiff, Nat.reduceLeDiff, Nat.reduceMul, Nat.reduceLT, reduceIte, Int.reduceToNat, w64_id, cast_succ]
  refine SW.seq ?_
  refine SW.seq ?_; refine SW.rowC ?_; simp (config := { maxSteps := 1000000 }) (disch := (first | omega | (simp only [go_sem]; try omega))) only [go_sem, Nat.reduceAdd, Nat.reduceEqDiff, Nat.reduceLeDiff, Nat.reduceMul, Nat.reduceLT, reduceIte, Int.reduceToNat, w64_id, cast_succ, ha]
  intro b hb
  refine SW.condB rfl (fun h => ?_) (fun h => ?_)
  · have : cells = [] := List.eq_nil_of_length_eq_zero (by rw [hcl]; exact hb h)
    subst this
    have h0 : n = 0 := by simpa using hcl.symm
    subst h0
    repeat (first | (with_reducible first | refine SW.seq ?_ | refine SW.block ?_ | refine SW.rowC ?_ | refine SW.skip ?_ | refine SW.exit ?_ | intro _ | refine And.intro (by omega) ?_) | simp (config := { maxSteps := 1000000 }) (disch := (first | omega | (simp only [go_sem]; try omega))) only [go_sem, Nat.reduceAdd, Nat.reduceEqDiff, Nat.reduceLeDiff, Nat.reduceMul, Nat.reduceLT, reduceIte, Int.reduceToNat, w64_id, cast_succ])
    refine SW.ret ?_; (try simp only [go_sem]); (first | refine FunPost.one ?_ | refine FunPost.two ?_ | refine FunPost.three ?_); (try simp (config := { maxSteps := 1000000 }) (disch := (first | omega | (simp only [go_sem]; try omega))) only [go_sem, Nat.reduceAdd, Nat.reduceEqDiff, Nat.reduceLeDiff, Nat.reduceMul, Nat.reduceLT, reduceIte, Int.reduceToNat, w64_id, cast_succ])
    refine GR.name tyLL 1 (GR.of ?_)
    exact ⟨0, rfl, rfl⟩
  · repeat (first | (with_reducible first | refine SW.seq ?_ | refine SW.block ?_ | refine SW.rowC ?_ | refine SW.skip ?_ | refine SW.exit ?_ | intro _ | refine And.intro (by omega) ?_) | simp (config := { maxSteps := 1000000 }) (disch := (first | omega | (simp only [go_sem]; try omega))) only [go_sem, Nat.reduceAdd, Nat.reduceEqDiff, Nat.reduceLeDiff, Nat.reduceMul, Nat.reduceLT, reduceIte, Int.reduceToNat, w64_id, cast_succ, ha, h2, h1])
    refine SW.ret ?_; (try simp only [go_sem]); (first | refine FunPost.one ?_ | refine FunPost.two ?_ | refine FunPost.three ?_); (try simp (config := { maxSteps := 1000000 }) (disch := (first | omega | (simp only [go_sem]; try omega))) only [go_sem, Nat.reduceAdd, Nat.reduceEqDiff, Nat.reduceLeDiff, Nat.reduceMul, Nat.reduceLT, reduceIte, Int.reduceToNat, w64_id, cast_succ])
    exact GR.of ⟨1, rfl, rfl⟩
theorem froz_rowsC {H : List Blk} {b r ver ty n : Nat} {cells : List AV} {xss : List (List Int)} (hb : b ≤ r) (hr : H[r]? = some ⟨ver, ty, 1, cells⟩) (hn : n = xss.length) (hl : n ≤ cells.length)
    (h : ∀ (j : Nat) (c : AV) (x : List Int), cells[j]? = some c → xss[j]? = some x → Froz H b c (ilS x)) : Froz H b (.nm r ver 0 n) (ilSS xss) := by
  subst hn
  have hc : (cells.drop 0).take (xss.length * 1) = cells.take xss.length := by rw [List.drop_zero, Nat.mul_one]
  refine .nm r ver 0 xss.length _ _ hb hr rfl (by simp only [hc, List.length_map, List.length_take]; omega) ?_
  intro j c c' g1 g2
  simp only [hc] at g1
  rw [List.getElem?_map] at g2
  cases hx : xss[j]? with
  | none => rw [hx] at g2; simp at g2
  | some x =>
    rw [hx] at g2; simp at g2; rw [← g2]
    rw [List.getElem?_take] at g1
    split at g1
    · exact h j c x g1 hx
    · simp at g1
def keysT (near : List (List Int)) (cells : List Int) (n k : Nat) : List (List Int) := keysL near cells k ++ List.replicate (n - k) []
theorem keysT_len (near : List (List Int)) (cells : List Int) {n k : Nat} (h : k ≤ n) : (keysT near cells n k).length = n := by unfold keysT; rw [List.length_append, keysL_len, List.length_replicate]; omega
theorem keysT_set (near : List (List Int)) (cells : List Int) {n k : Nat} (h : k < n) : (keysT near cells n k).set k (keyL near cells k) = keysT near cells n (k + 1) := by
  unfold keysT
  rw [List.set_append_right _ _ (by rw [keysL_len]; exact Nat.le_refl _), keysL_len, Nat.sub_self, keysL_succ, show n - k = (n - (k + 1)) + 1 by omega, List.replicate_succ, List.set_cons_zero, List.append_assoc]
  rfl
theorem refineOnce_new (near : List (List Int)) (cells : List Int) (hn : near.length ≤ 64) (hc : near.length = cells.length) (hr : ∀ r ∈ near, r.length ≤ 64 ∧ ∀ w ∈ r, 0 ≤ w ∧ w < (cells.length : Int)) : NewS Try.prog f_impl_refineOnce [ilSS near, ilS cells] (roundN near cells near.length) := by
  intro H
  refine ACalls.introB s_impl_refineOnce (by simp) ?_; intro hB hA; unfold c_impl_refineOnce; simp (config := { maxSteps := 1000000 }) (disch := (first | omega | (simp only [go_sem]; try omega))) only [go_sem, Nat.reduceAdd, Nat.reduceEqDiff, Nat.reduceLeDiff, Nat.reduceMul, Nat.reduceLT, reduceIte, Int.reduceToNat, w64_id, cast_succ]
  repeat (first | (with_reducible first | refine SW.seq ?_ | refine SW.block ?_ | refine SW.rowC ?_ | refine SW.skip ?_ | refine SW.exit ?_ | intro _ | refine And.intro (by omega) ?_) | simp (config := { maxSteps := 1000000 }) (disch := (first | omega | (simp only [go_sem]; try omega))) only [go_sem, Nat.reduceAdd, Nat.reduceEqDiff, Nat.reduceLeDiff, Nat.reduceMul, Nat.reduceLT, reduceIte, Int.reduceToNat, w64_id, cast_succ])
  refine SW.loopE (fun E0 H0 m E' X => ∃ (k : Nat) (tc : List AV), k ≤ near.length ∧ m = near.length - k ∧ E' = aput E0 22 (I k) ∧ GroT X H.length H.length tc (keysT near cells near.length k) ∧ ∀ j, j < H.length → X[j]? = H[j]?) near.length
    ⟨0, List.replicate near.length nilS, by omega, by omega, rfl, GroT.replicate (Nat.le_refl _) (by simp [hc]), fun j hj => by rw [List.getElem?_append_left hj]⟩ ?_
  rintro m E' X ⟨k, tc, hk, rfl, rfl, hG, hXf⟩
  have hTl := keysT_len near cells hk
  have hcl : tc.length = near.length := by rw [hG.len, hTl]
  have vt : ∀ ext, aview (X ++ ext) (.nm H.length 0 0 cells.length) = some (cells.length, tc) := fun ext => view_nm (get_appB2 hG.tb ext) (by omega)
  have hXl := (List.getElem?_eq_some_iff.1 hG.tb).1
  simp (config := { maxSteps := 1000000 }) (disch := (first | omega | (simp only [go_sem]; try omega))) only [go_sem, Nat.reduceAdd, Nat.reduceEqDiff, Nat.reduceLeDiff, Nat.reduceMul, Nat.reduceLT, reduceIte, Int.reduceToNat, w64_id, cast_succ]
  repeat (first | (with_reducible first | refine SW.seq ?_ | refine SW.block ?_ | refine SW.rowC ?_ | refine SW.skip ?_ | refine SW.exit ?_ | intro _ | refine And.intro (by omega) ?_) | simp (config := { maxSteps := 1000000 }) (disch := (first | omega | (simp only [go_sem]; try omega))) only [go_sem, Nat.reduceAdd, Nat.reduceEqDiff, Nat.reduceLeDiff, Nat.reduceMul, Nat.reduceLT, reduceIte, Int.reduceToNat, w64_id, cast_succ])
  (first | refine SW.condD rfl (fun h2 => ?_) (fun h2 => ?_) | refine SW.condN rfl (fun h2 => ?_) (fun h2 => ?_) | refine SW.condNB rfl (fun h2 => ?_) (fun h2 => ?_) | refine SW.condB rfl (fun h2 => ?_) (fun h2 => ?_))
  · have hkn : k < near.length := by omega
    repeat (first | (with_reducible first | refine SW.seq ?_ | refine SW.block ?_ | refine SW.rowC ?_ | refine SW.skip ?_ | refine SW.exit ?_ | intro _ | refine And.intro (by omega) ?_) | simp (config := { maxSteps := 1000000 }) (disch := (first | omega | (simp only [go_sem]; try omega))) only [go_sem, Nat.reduceAdd, Nat.reduceEqDiff, Nat.reduceLeDiff, Nat.reduceMul, Nat.reduceLT, reduceIte, Int.reduceToNat, w64_id, cast_succ])
    refine SW.ghost (Gh.name 8 2 1 rfl) ?_
    simp (config := { maxSteps := 1000000 }) (disch := (first | omega | (simp only [go_sem]; try omega))) only [go_sem, Nat.reduceAdd, Nat.reduceEqDiff, Nat.reduceLeDiff, Nat.reduceMul, Nat.reduceLT, reduceIte, Int.reduceToNat, w64_id, cast_succ]
    have hrow := hr (near.getD k []) (by rw [getD_get hkn]; exact List.getElem_mem _)
    generalize hR : near.getD k [] = R at *
    refine SW.loopE (fun E0 H0 m E' Y => ∃ (p1 p2 : List Int), R = p1 ++ p2 ∧ m = p2.length ∧ E' = aput (aput E0 32 (I p1.length)) 8 (.nm X.length p1.length 0 p1.length) ∧ Y[X.length]? = some ⟨p1.length, 2, 1, (p1.map fun w => cells.getD w.toNat 0).map I⟩ ∧ ∀ j, j < X.length → Y[j]? = X[j]?) R.length
      ⟨[], R, rfl, rfl, rfl, by simp, fun j hj => by rw [List.getElem?_append_left hj]⟩ ?_
    rintro m E' Y ⟨p1, p2, hq, rfl, rfl, hY, hYf⟩
    simp (config := { maxSteps := 1000000 }) (disch := (first | omega | (simp only [go_sem]; try omega))) only [go_sem, Nat.reduceAdd, Nat.reduceEqDiff, Nat.reduceLeDiff, Nat.reduceMul, Nat.reduceLT, reduceIte, Int.reduceToNat, w64_id, cast_succ]
    repeat (first | (with_reducible first | refine SW.seq ?_ | refine SW.block ?_ | refine SW.rowC ?_ | refine SW.skip ?_ | refine SW.exit ?_ | intro _ | refine And.intro (by omega) ?_) | simp (config := { maxSteps := 1000000 }) (disch := (first | omega | (simp only [go_sem]; try omega))) only [go_sem, Nat.reduceAdd, Nat.reduceEqDiff, Nat.reduceLeDiff, Nat.reduceMul, Nat.reduceLT, reduceIte, Int.reduceToNat, w64_id, cast_succ, hR])
    (first | refine SW.condD rfl (fun h3 => ?_) (fun h3 => ?_) | refine SW.condN rfl (fun h3 => ?_) (fun h3 => ?_) | refine SW.condNB rfl (fun h3 => ?_) (fun h3 => ?_) | refine SW.condB rfl (fun h3 => ?_) (fun h3 => ?_))
    · obtain ⟨w, p2, rfl, hg, -⟩ := consOf (d := 0) hq (by omega)
      obtain ⟨w0, w1⟩ := hrow.2 w (by rw [hq]; simp)
      have hYl := (List.getElem?_eq_some_iff.1 hY).1
      have hp1 : p1.length ≤ 64 := by have := hrow.1; rw [hq] at this; simp at this; omega
      repeat (first | (with_reducible first | refine SW.seq ?_ | refine SW.block ?_ | refine SW.rowC ?_ | refine SW.skip ?_ | refine SW.exit ?_ | intro _ | refine And.intro (by omega) ?_) | simp (config := { maxSteps := 1000000 }) (disch := (first | omega | (simp only [go_sem]; try omega))) only [go_sem, Nat.reduceAdd, Nat.reduceEqDiff, Nat.reduceLeDiff, Nat.reduceMul, Nat.reduceLT, reduceIte, Int.reduceToNat, w64_id, cast_succ, hR, hg])
      refine appN8 (get_appU hY [(⟨0, 2, 1, [I (cells.getD w.toNat 0)]⟩ : Blk)]) (by simp) (by omega) ?_
      intro Z hZl hZt hZf
      repeat (first | (with_reducible first | refine SW.seq ?_ | refine SW.block ?_ | refine SW.rowC ?_ | refine SW.skip ?_ | refine SW.exit ?_ | intro _ | refine And.intro (by omega) ?_) | simp (config := { maxSteps := 1000000 }) (disch := (first | omega | (simp only [go_sem]; try omega))) only [go_sem, Nat.reduceAdd, Nat.reduceEqDiff, Nat.reduceLeDiff, Nat.reduceMul, Nat.reduceLT, reduceIte, Int.reduceToNat, w64_id, cast_succ])
      refine SLoop.next p2.length (by simp) ⟨p1 ++ [w], p2, by rw [hq]; simp, rfl, by simp [go_sem], by rw [hZt]; simp, fun j hj => ?_⟩
      rw [hZf j (by omega), List.getElem?_append_left (by omega)]; exact hYf j hj
    · obtain ⟨rfl, rfl⟩ := nilOf hq (by omega)
      repeat (first | (with_reducible first | refine SW.seq ?_ | refine SW.block ?_ | refine SW.rowC ?_ | refine SW.skip ?_ | refine SW.exit ?_ | intro _ | refine And.intro (by omega) ?_) | simp (config := { maxSteps := 1000000 }) (disch := (first | omega | (simp only [go_sem]; try omega))) only [go_sem, Nat.reduceAdd, Nat.reduceEqDiff, Nat.reduceLeDiff, Nat.reduceMul, Nat.reduceLT, reduceIte, Int.reduceToNat, w64_id, cast_succ])
      have hp1 := hrow.1
      have hkey : keyL near cells k = cells.getD k 0 :: isort (p1.map fun w => cells.getD w.toNat 0) := by unfold keyL; rw [hR]
      have hgl : (p1.map fun w => cells.getD w.toNat 0).length = p1.length := List.length_map _
      have hil := isort_length (p1.map fun w => cells.getD w.toNat 0)
      have hso := sortI_ok sortL_p sortL_n Y X.length p1.length 2 (p1.map fun w => cells.getD w.toNat 0) hY (by omega)
      rw [hgl] at hil hso
      generalize isort (p1.map fun w => cells.getD w.toNat 0) = S at *
      have hYl := (List.getElem?_eq_some_iff.1 hY).1
      refine hso.mono ?_
      rintro r Z ⟨rfl, rfl⟩
      have hZ : (Y.set X.length ⟨p1.length, 2, 1, S.map I⟩)[X.length]? = some ⟨p1.length, 2, 1, S.map I⟩ := List.getElem?_set_self hYl
      have hZl : (Y.set X.length ⟨p1.length, 2, 1, S.map I⟩).length = Y.length := List.length_set
      have hZf : ∀ j, j < X.length → (Y.set X.length ⟨p1.length, 2, 1, S.map I⟩)[j]? = X[j]? := fun j hj => by rw [List.getElem?_set_ne (by omega)]; exact hYf j hj
      generalize Y.set X.length ⟨p1.length, 2, 1, S.map I⟩ = Z at *
      have hvw : ∀ ext, aview (Z ++ ext) (.nm X.length p1.length 0 p1.length) = some (p1.length, S.map I) := fun ext => view_nm (get_appU hZ ext) (by simp [hil])
      have hZt : Z[H.length]? = some ⟨0, tyLL, 1, tc⟩ := (hZf _ hXl).trans hG.tb
      have vz : ∀ ext, aview (Z ++ ext) (.nm H.length 0 0 cells.length) = some (cells.length, tc) := fun ext => view_nm (get_appB2 hZt ext) (by omega)
      have zw : ∀ b v, astore (Z ++ [b]) [v] (.el (.nm H.length 0 0 cells.length) k) = some ((Z ++ [b]).set H.length ⟨0, tyLL, 1, tc.set k v⟩) := fun b v => by rw [store_nm (get_appB2 hZt [b]) (by omega)]
      repeat (first | (with_reducible first | refine SW.seq ?_ | refine SW.block ?_ | refine SW.rowC ?_ | refine SW.skip ?_ | refine SW.exit ?_ | intro _ | refine And.intro (by omega) ?_) | simp (config := { maxSteps := 1000000 }) (disch := (first | omega | (simp only [go_sem]; try omega))) only [go_sem, Nat.reduceAdd, Nat.reduceEqDiff, Nat.reduceLeDiff, Nat.reduceMul, Nat.reduceLT, reduceIte, Int.reduceToNat, w64_id, cast_succ, hvw, vz, zw])
      have hSl : 1 + p1.length = (cells.getD k 0 :: S).length := by rw [List.length_cons]; omega
      have hp := hG.put (Z := Z ++ [⟨1, 2, 1, (cells.getD k 0 :: S).map I⟩]) (r := Z.length) (w := 1) (List.getElem?_eq_getElem (show k < tc.length by omega)) (cells.getD k 0 :: S) (by omega) (by omega) (fun j v' o' l' _ g => by have := hG.own.nm_lt g; omega) (by simp) (fun j bl hj hb => by
        have hjl := (List.getElem?_eq_some_iff.1 hb).1
        rw [List.getElem?_append_left (by omega), hZf j hjl]; exact hb)
      rw [← hkey, keysT_set near cells hkn] at hp
      rw [hSl, show (I (cells.getD k 0) :: S.map I) = (keyL near cells k).map I by rw [hkey]; rfl, ← hkey]
      refine SLoop.next (near.length - (k + 1)) (by omega) ⟨k + 1, _, by omega, rfl, by simp [go_sem], hp, fun j hj => ?_⟩
      rw [List.getElem?_set_ne (by omega), List.getElem?_append_left (by omega), hZf j (by omega)]; exact hXf j hj
  · have hkk : k = near.length := by omega
    subst hkk
    have hKK : keysT near cells near.length near.length = keysL near cells near.length := by unfold keysT; simp
    rw [hKK] at hG
    have hKl := keysL_len near cells near.length
    have hKg : ∀ k, k < near.length → (keysL near cells near.length).getD k [] = keyL near cells k := fun k hk => by
      unfold keysL; rw [List.getD_eq_getElem?_getD, List.getElem?_map, List.getElem?_range hk]; rfl
    have hK9 : roundN near cells near.length = (keysL near cells near.length).map fun key => (cntL (sortU cmpL (keysL near cells near.length)) key : Int) := by
      unfold roundN
      have hpl : ∀ v ∈ List.range near.length, placeN (sortU cmpL (keysL near cells near.length)) (keyL near cells v) = (cntL (sortU cmpL (keysL near cells near.length)) (keyL near cells v) : Int) := fun v hv =>
        placeN_cnt (sortU_asc cmpL_tot _) ((sortU_mem cmpL_tot _ _).2 (List.mem_map.2 ⟨v, hv, rfl⟩))
      rw [List.map_congr_left hpl]
      unfold keysL
      rw [List.map_map]; rfl
    rw [hK9]
    generalize keysL near cells near.length = K at *
    have hKd : ∀ x ∈ tc, x.cell1 = true := fun x hx => by
      obtain ⟨j, hj, rfl⟩ := List.getElem_of_mem hx
      rcases hG.row j _ (K.getD j []) (List.getElem?_eq_getElem hj) (by rw [List.getD_eq_getElem?_getD, List.getElem?_eq_getElem (by omega)]; rfl) with ⟨r, v, h, _⟩ | ⟨_, h⟩ <;> rw [h] <;> rfl
    have vt0 := vt []
    rw [List.append_nil] at vt0
    repeat (first | (with_reducible first | refine SW.seq ?_ | refine SW.block ?_ | refine SW.rowC ?_ | refine SW.skip ?_ | refine SW.exit ?_ | intro _ | refine And.intro (by omega) ?_) | simp (config := { maxSteps := 1000000 }) (disch := (first | omega | (simp only [go_sem]; try omega))) only [go_sem, Nat.reduceAdd, Nat.reduceEqDiff, Nat.reduceLeDiff, Nat.reduceMul, Nat.reduceLT, reduceIte, Int.reduceToNat, w64_id, cast_succ])
    refine (cloneT_ok X (.nm H.length 0 0 cells.length) cells.length tc vt0 (by omega) (List.all_eq_true.2 hKd) (by omega)).mono ?_
    rintro r Y ⟨ver, rfl, rfl⟩
    have hown : OwnC (X ++ [⟨ver, tyLL, 1, tc⟩]) (Fr H.length) X.length ver tyLL tc K := by
      obtain ⟨q1, q2, q3, q4, q5⟩ := hG.own
      refine ⟨by unfold Fr; omega, by simp, q3, fun j c xs g1 g2 => ?_, q5⟩
      rcases q4 j c xs g1 g2 with ⟨r, v, ty, rfl, o1, o2, o3⟩ | h
      · have := (List.getElem?_eq_some_iff.1 o3).1
        exact .inl ⟨r, v, ty, rfl, o1, by omega, by rw [List.getElem?_append_left this]; exact o3⟩
      · exact .inr h
    have hKn : K.length = cells.length := by omega
    rw [← hKn]
    repeat (first | (with_reducible first | refine SW.seq ?_ | refine SW.block ?_ | refine SW.rowC ?_ | refine SW.skip ?_ | refine SW.exit ?_ | intro _ | refine And.intro (by omega) ?_) | simp (config := { maxSteps := 1000000 }) (disch := (first | omega | (simp only [go_sem]; try omega))) only [go_sem, Nat.reduceAdd, Nat.reduceEqDiff, Nat.reduceLeDiff, Nat.reduceMul, Nat.reduceLT, reduceIte, Int.reduceToNat, w64_id, cast_succ])
    refine (sortRows_ok hown (by omega)).mono ?_
    rintro r Z ⟨rfl, cs, ys, hpm, hsd, rfl, hown2⟩
    have hyl := hpm.length_eq
    have hZ0 : ((X ++ [(⟨ver, tyLL, 1, tc⟩ : Blk)]).set X.length ⟨ver, tyLL, 1, cs⟩)[X.length]? = some ⟨ver, tyLL, 1, cs⟩ := by simp
    have hZl : ((X ++ [(⟨ver, tyLL, 1, tc⟩ : Blk)]).set X.length ⟨ver, tyLL, 1, cs⟩).length = X.length + 1 := by simp
    have hZf : ∀ j, j < X.length → ((X ++ [(⟨ver, tyLL, 1, tc⟩ : Blk)]).set X.length ⟨ver, tyLL, 1, cs⟩)[j]? = X[j]? := fun j hj => by rw [List.getElem?_set_ne (by omega), List.getElem?_append_left hj]
    generalize (X ++ [(⟨ver, tyLL, 1, tc⟩ : Blk)]).set X.length ⟨ver, tyLL, 1, cs⟩ = Z at *
    obtain ⟨-, -, o3, o4, -⟩ := hown2
    have hos : ∀ j, j < ys.length → OwnS Z (Fr H.length) X.length (cs.getD j nilS) (ys.getD j []) := fun j hj => by
      refine o4 j _ _ ?_ ?_
      · rw [List.getD_eq_getElem?_getD, List.getElem?_eq_getElem (by omega)]; rfl
      · rw [List.getD_eq_getElem?_getD, List.getElem?_eq_getElem hj]; rfl
    have hco := compact_ok Z X.length ver tyLL ys cs hZ0 o3 (fun c hc => by
      obtain ⟨j, hj, rfl⟩ := List.getElem_of_mem hc
      have := o4 j _ _ (List.getElem?_eq_getElem hj) (List.getElem?_eq_getElem (by omega))
      rcases this with ⟨r, v, ty, h, _⟩ | ⟨_, h | h⟩ <;> rw [h] <;> exact ⟨rfl, rfl⟩) (fun cells' j hj => by
      refine ((hos j hj).same (fun r b _ hrt hb => ?_)).rd
      rw [List.getElem?_set_ne (Ne.symm hrt)]; exact hb) (by omega)
    rw [hyl] at hco
    repeat (first | (with_reducible first | refine SW.seq ?_ | refine SW.block ?_ | refine SW.rowC ?_ | refine SW.skip ?_ | refine SW.exit ?_ | intro _ | refine And.intro (by omega) ?_) | simp (config := { maxSteps := 1000000 }) (disch := (first | omega | (simp only [go_sem]; try omega))) only [go_sem, Nat.reduceAdd, Nat.reduceEqDiff, Nat.reduceLeDiff, Nat.reduceMul, Nat.reduceLT, reduceIte, Int.reduceToNat, w64_id, cast_succ])
    refine hco.mono ?_
    rintro r W ⟨cells3, rfl, rfl, hct, hcl3⟩
    have hW0 : (Z.set X.length ⟨ver, tyLL, 1, cells3⟩)[X.length]? = some ⟨ver, tyLL, 1, cells3⟩ := List.getElem?_set_self (by omega)
    have hWl : (Z.set X.length ⟨ver, tyLL, 1, cells3⟩).length = X.length + 1 := by simp [hZl]
    have hWf : ∀ j, j < X.length → (Z.set X.length ⟨ver, tyLL, 1, cells3⟩)[j]? = X[j]? := fun j hj => by rw [List.getElem?_set_ne (by omega)]; exact hZf j hj
    have hosW : ∀ j, j < ys.length → Froz (Z.set X.length ⟨ver, tyLL, 1, cells3⟩) H.length (cs.getD j nilS) (ilS (ys.getD j [])) := fun j hj =>
      ((hos j hj).same (fun r b _ hrt hb => by rw [List.getElem?_set_ne (Ne.symm hrt)]; exact hb)).froz (fun r hr => hr)
    generalize Z.set X.length ⟨ver, tyLL, 1, cells3⟩ = W at *
    have hdd : ddT ys ys.length = sortU cmpL K := by
      rw [ddT_is hsd]
      refine asc_uniq cmpL_tot (sortU_asc cmpL_tot _) (sortU_asc cmpL_tot _) (fun y => ?_)
      rw [sortU_mem cmpL_tot, sortU_mem cmpL_tot]
      exact hpm.mem_iff
    have hfd : Froz W H.length (.nm X.length ver 0 (keepI ys K.length).length) (ilSS (sortU cmpL K)) := by
      rw [← hyl] at hct hcl3 ⊢
      refine froz_rowsC (by omega) hW0 (by rw [← hdd, ← keepI_map]; simp) hcl3 fun j c x g1 g2 => ?_
      rw [← hdd, ← keepI_map, List.getElem?_map] at g2
      cases hq : (keepI ys ys.length)[j]? with
      | none => rw [hq] at g2; simp at g2
      | some q =>
        rw [hq] at g2
        simp only [Option.map_some, Option.some.injEq] at g2
        have hjl := (List.getElem?_eq_some_iff.1 hq).1
        have hc2 : cells3[j]? = some (cs.getD q nilS) := by
          have h1 : (cells3.take (keepI ys ys.length).length)[j]? = cells3[j]? := List.getElem?_take_of_lt hjl
          rw [← h1, hct, List.getElem?_map, hq]; rfl
        rw [hc2] at g1
        cases g1
        rw [← g2]
        exact hosW q (List.mem_range.1 (List.mem_filter.1 (List.mem_of_getElem? hq)).1)
    have hGW : GroT W H.length H.length tc K := ⟨hG.bt, (hWf _ hXl).trans hG.tb, hG.len, fun j c xs g1 g2 => (hG.row j c xs g1 g2).elim (fun ⟨r, v, e, o1, o2, o3⟩ => .inl ⟨r, v, e, o1, o2, (hWf r (List.getElem?_eq_some_iff.1 o3).1).trans o3⟩) .inr, hG.ne⟩
    have hfk : Froz W H.length (.nm H.length 0 0 K.length) (ilSS K) := OwnSS.froz (.inl ⟨_, _, _, _, rfl, hGW.own⟩) (fun r hr => hr)
    obtain ⟨ext, he⟩ := ext_ofR (H := H) (H1 := W) (by omega) (fun j hj => (hWf j (by omega)).trans (hXf j hj))
    have hD := sortU_asc cmpL_tot K
    have hDl := sortU_len (cf := cmpL) K
    generalize sortU cmpL K = D at *
    simp (config := { maxSteps := 1000000 }) (disch := (first | omega | (simp only [go_sem]; try omega))) only [go_sem, Nat.reduceAdd, Nat.reduceEqDiff, Nat.reduceLeDiff, Nat.reduceMul, Nat.reduceLT, reduceIte, Int.reduceToNat, w64_id, cast_succ]
    rw [he] at hfd hfk ⊢
    refine SW.froz (E' := [(1, ilS cells), (5, ilSS K), (11, ilSS D)]) hB (Nat.le_refl _) (.cons _ (ren_ilS _) (.cons _ (ren_of_frozR hfk) (.cons _ (ren_of_frozR hfd) .nil))) ?_
    repeat (first | (with_reducible first | refine SW.seq ?_ | refine SW.block ?_ | refine SW.rowC ?_ | refine SW.skip ?_ | refine SW.exit ?_ | intro _ | refine And.intro (by omega) ?_) | simp (config := { maxSteps := 1000000 }) (disch := (first | omega | (simp only [go_sem]; try omega))) only [go_sem, Nat.reduceAdd, Nat.reduceEqDiff, Nat.reduceLeDiff, Nat.reduceMul, Nat.reduceLT, reduceIte, Int.reduceToNat, w64_id, cast_succ])
    refine SW.loopE (fun E0 H0 m E' Y => ∃ (pre post : List (List Int)), K = pre ++ post ∧ m = post.length ∧ E' = aput E0 65 (I pre.length) ∧ Y = H ++ [⟨0, 2, 1, (pre.map (fun key => (cntL D key : Int)) ++ List.replicate post.length 0).map I⟩]) K.length ⟨[], K, rfl, rfl, rfl, by simp [hKn]⟩ ?_
    rintro m E' Y ⟨pre, post, hq, rfl, rfl, rfl⟩
    simp (config := { maxSteps := 1000000 }) (disch := (first | omega | (simp only [go_sem]; try omega))) only [go_sem, Nat.reduceAdd, Nat.reduceEqDiff, Nat.reduceLeDiff, Nat.reduceMul, Nat.reduceLT, reduceIte, Int.reduceToNat, w64_id, cast_succ]
    repeat (first | (with_reducible first | refine SW.seq ?_ | refine SW.block ?_ | refine SW.rowC ?_ | refine SW.skip ?_ | refine SW.exit ?_ | intro _ | refine And.intro (by omega) ?_) | simp (config := { maxSteps := 1000000 }) (disch := (first | omega | (simp only [go_sem]; try omega))) only [go_sem, Nat.reduceAdd, Nat.reduceEqDiff, Nat.reduceLeDiff, Nat.reduceMul, Nat.reduceLT, reduceIte, Int.reduceToNat, w64_id, cast_succ])
    (first | refine SW.condD rfl (fun h5 => ?_) (fun h5 => ?_) | refine SW.condN rfl (fun h5 => ?_) (fun h5 => ?_) | refine SW.condNB rfl (fun h5 => ?_) (fun h5 => ?_) | refine SW.condB rfl (fun h5 => ?_) (fun h5 => ?_))
    · obtain ⟨key, post, rfl, hgk, -⟩ := consOf (d := []) hq (by omega)
      have hbs := BinarySearch_fn D key hD (by omega)
      have hps : PcS H [⟨0, 2, 1, List.map I (List.map (fun key => (cntL D key : Int)) pre ++ List.replicate (post.length + 1) 0)⟩] 0 0 pre.length [I (cntL D key : Int)] (some ⟨0, 2, 1, List.map I (List.map (fun key => (cntL D key : Int)) pre ++ List.replicate (post.length + 1) 0)⟩) = some (H ++ [⟨0, 2, 1, ((pre ++ [key]).map (fun key => (cntL D key : Int)) ++ List.replicate post.length 0).map I⟩]) := by
        rw [PcS_some, if_pos (by simp)]
        simp only [setMany_cons, setMany_nil, List.set_cons_zero]
        rw [List.map_append, List.set_append_right _ _ (by simp)]
        simp [List.replicate_succ]
      repeat (first | (with_reducible first | refine SW.seq ?_ | refine SW.block ?_ | refine SW.rowC ?_ | refine SW.skip ?_ | refine SW.exit ?_ | refine PFn.use (hbs) ?_ | refine PFn.useq (hbs) ?_ | intro _ | refine And.intro (by omega) ?_) | simp (config := { maxSteps := 1000000 }) (disch := (first | omega | (simp only [go_sem]; try omega))) only [go_sem, Nat.reduceAdd, Nat.reduceEqDiff, Nat.reduceLeDiff, Nat.reduceMul, Nat.reduceLT, reduceIte, Int.reduceToNat, w64_id, cast_succ, hgk, hps])
      exact SLoop.next post.length (by simp) ⟨pre ++ [key], post, by rw [hq]; simp, rfl, by simp [go_sem], rfl⟩
    · obtain ⟨rfl, rfl⟩ := nilOf hq (by omega)
      repeat (first | (with_reducible first | refine SW.seq ?_ | refine SW.block ?_ | refine SW.rowC ?_ | refine SW.skip ?_ | refine SW.exit ?_ | intro _ | refine And.intro (by omega) ?_) | simp (config := { maxSteps := 1000000 }) (disch := (first | omega | (simp only [go_sem]; try omega))) only [go_sem, Nat.reduceAdd, Nat.reduceEqDiff, Nat.reduceLeDiff, Nat.reduceMul, Nat.reduceLT, reduceIte, Int.reduceToNat, w64_id, cast_succ])
      refine SW.ret ?_; (try simp only [go_sem]); (first | refine FunPost.one ?_ | refine FunPost.two ?_ | refine FunPost.three ?_); (try simp (config := { maxSteps := 1000000 }) (disch := (first | omega | (simp only [go_sem]; try omega))) only [go_sem, Nat.reduceAdd, Nat.reduceEqDiff, Nat.reduceLeDiff, Nat.reduceMul, Nat.reduceLT, reduceIte, Int.reduceToNat, w64_id, cast_succ])
      rw [hKn]
      exact GR.of ⟨rfl, by simp⟩
end Go.Proofs.Ytmdeibdplpodpaa
namespace Go.Proofs.Ytmdeibdplpodpaa
open Go.Av
abbrev f_impl_RefineColors : Nat := 20
def c_impl_RefineColors : SC :=
 .seq (.reg [
     ⟨(some 2), .box 30 (.tmp 0), none⟩,
     ⟨(some 4), .mv (.const (.slice none 0 0)), none⟩,
     ⟨(some 5), .mv (.const (.int .i64 0)), none⟩] [1, 2])
 (.seq (.seq (.reg [
     ⟨(some 6), .load 2 true (.tmp 2), none⟩,
     ⟨(some 7), .call 30 [(.tmp 6)], none⟩,
     ⟨(some 8), .un .not (.tmp 7), none⟩] [1, 2, 8])
 (.cond (.tmp 8)
  (.seq (.reg [
      ⟨(some 4), .mv (.const (.slice none 0 0)), none⟩,
      ⟨(some 5), .mv (.const (.int .i64 1)), none⟩] [4, 5])
  (.ret))
  (.skip)))
 (.seq (.seq (.reg [
     ⟨(some 9), .load 2 true (.tmp 2), none⟩,
     ⟨(some 10), .mv (.tmp 1), none⟩,
     ⟨(some 11), .call 51 [(.tmp 9), (.tmp 10)], none⟩,
     ⟨(some 12), .un .not (.tmp 11), none⟩] [1, 2, 12])
 (.cond (.tmp 12)
  (.seq (.reg [
      ⟨(some 4), .mv (.const (.slice none 0 0)), none⟩,
      ⟨(some 5), .mv (.const (.int .i64 2)), none⟩] [4, 5])
  (.ret))
  (.skip)))
 (.seq (.reg [
     ⟨(some 13), .load 2 true (.tmp 2), none⟩,
     ⟨(some 14), .call 40 [(.tmp 13)], none⟩,
     ⟨(some 15), .mv (.tmp 1), none⟩,
     ⟨(some 16), .call 52 [(.tmp 14), (.tmp 15)], none⟩,
     ⟨(some 4), .mv (.tmp 16), none⟩,
     ⟨(some 5), .mv (.const (.int .i64 0)), none⟩] [4, 5])
 (.ret))))
theorem s_impl_RefineColors : stripF Try.prog 20 [[1, 2], [1, 2, 8], [4, 5], [1, 2, 12], [4, 5], [4, 5]] = some (c_impl_RefineColors, [.tmp 4, .tmp 5], 17) := by kernel_rfl
abbrev f_impl_refine : Nat := 52
def c_impl_refine : SC :=
 .seq (.reg [
     ⟨(some 4), .mv (.const (.slice none 0 0)), none⟩] [0, 1])
 (.block 0 (.loop [0, 1]
   (.block 1 (.seq (.reg [
        ⟨(some 6), .mv (.tmp 0), none⟩,
        ⟨(some 7), .mv (.tmp 1), none⟩,
        ⟨(some 8), .call 74 [(.tmp 6), (.tmp 7)], none⟩,
        ⟨(some 5), .mv (.tmp 8), none⟩] [0, 1, 5])
    (.seq (.seq (.reg [
        ⟨(some 9), .mv (.tmp 5), none⟩,
        ⟨(some 10), .call 75 [(.tmp 9)], none⟩,
        ⟨(some 11), .mv (.tmp 1), none⟩,
        ⟨(some 12), .call 75 [(.tmp 11)], none⟩,
        ⟨(some 13), .bin .eql (.tmp 10) (.tmp 12), none⟩] [0, 5, 13])
    (.cond (.tmp 13)
     (.seq (.reg [
         ⟨(some 14), .mv (.tmp 5), none⟩,
         ⟨(some 4), .mv (.tmp 14), none⟩] [4])
     (.ret))
     (.skip)))
    (.reg [
        ⟨(some 15), .mv (.tmp 5), none⟩,
        ⟨(some 1), .mv (.tmp 15), none⟩] [0, 1]))))))
theorem s_impl_refine : stripF Try.prog 52 [[0, 1], [0, 1], [0, 1, 5], [0, 5, 13], [4], [0, 1]] = some (c_impl_refine, [.tmp 4], 16) := by kernel_rfl
theorem impl_refine_new (near : List (List Int)) (cells : List Int) (hn : near.length ≤ 64) (hc : near.length = cells.length) (hr : ∀ r ∈ near, r.length ≤ 64 ∧ ∀ w ∈ r, 0 ≤ w ∧ w < (cells.length : Int)) :
    NewS Try.prog f_impl_refine [ilSS near, ilS cells] (refGo near near.length near.length (manyL cells) (roundN near cells near.length)) := by
  have hro : ∀ out : List Int, near.length = out.length → NewS Try.prog f_impl_refineOnce [ilSS near, ilS out] (roundN near out near.length) := fun out ho => refineOnce_new near out hn ho fun r h => by
    obtain ⟨q1, q2⟩ := hr r h
    exact ⟨q1, fun w hw => by have := q2 w hw; omega⟩
  have hma : ∀ (out : List Int), near.length = out.length → PFn Try.prog f_impl_cellCount [ilS out] (I (manyL out)) := fun out ho H => cellCount_ok H (ilS out) out (rd_ilS _ _) (by omega)
  intro H
  refine ACalls.introB s_impl_refine (by simp) ?_; intro hB hA; unfold c_impl_refine; simp (config := { maxSteps := 1000000 }) (disch := (first | omega | (simp only [go_sem]; try omega))) only [go_sem, Nat.reduceAdd, Nat.reduceEqDiff, Nat.reduceLeDiff, Nat.reduceMul, Nat.reduceLT, reduceIte, Int.reduceToNat, w64_id, cast_succ]
  repeat (first | (with_reducible first | refine SW.seq ?_ | refine SW.block ?_ | refine SW.rowC ?_ | refine SW.skip ?_ | refine SW.exit ?_ | intro _ | refine And.intro (by omega) ?_) | simp (config := { maxSteps := 1000000 }) (disch := (first | omega | (simp only [go_sem]; try omega))) only [go_sem, Nat.reduceAdd, Nat.reduceEqDiff, Nat.reduceLeDiff, Nat.reduceMul, Nat.reduceLT, reduceIte, Int.reduceToNat, w64_id, cast_succ])
  refine SW.loopE (fun E0 H0 m E' X => ∃ out : List Int, refGo near near.length m (manyL out) (roundN near out near.length) = refGo near near.length near.length (manyL cells) (roundN near cells near.length) ∧ near.length ≤ manyL out + m ∧ near.length = out.length ∧ E' = aput E0 1 (ilS out) ∧ X = H) near.length
    ⟨cells, rfl, by omega, hc, rfl, rfl⟩ ?_
  rintro m E' X ⟨out, hgo, hm, ho, rfl, rfl⟩
  have k1 := hma out ho
  have k2 := hro out ho
  have k3 := manyL_le out
  have k4 := manyL_mono near out
  rw [← ho] at k4
  have ho2 := (roundN_len near out near.length).symm
  have k5 := hma _ ho2
  have k6 := manyL_le (roundN near out near.length)
  generalize roundN near out near.length = nx at *
  by_cases h5 : manyL nx = manyL out
  · rw [refGo_end (by omega)] at hgo
    rw [← hgo]
    have d1 : decide ((manyL nx : Int) = (manyL out : Int)) = true := decide_eq_true (by omega)
    have hv : RdS (X ++ [⟨0, 2, 1, nx.map I⟩]) (.nm X.length 0 0 nx.length) nx := view_nm (ver := 0) (ty := 2) (by simp) (by simp)
    repeat (first | (with_reducible first | refine SW.seq ?_ | refine SW.block ?_ | refine SW.rowC ?_ | refine SW.skip ?_ | refine SW.exit ?_ | intro _ | refine And.intro (by omega) ?_) | simp (config := { maxSteps := 1000000 }) (disch := (first | omega | (simp only [go_sem]; try omega))) only [go_sem, Nat.reduceAdd, Nat.reduceEqDiff, Nat.reduceLeDiff, Nat.reduceMul, Nat.reduceLT, reduceIte, Int.reduceToNat, w64_id, cast_succ])
    refine (k2 _).mono ?_
    rintro r Y ⟨rfl, rfl⟩
    repeat (first | (with_reducible first | refine SW.seq ?_ | refine SW.block ?_ | refine SW.rowC ?_ | refine SW.skip ?_ | refine SW.exit ?_ | intro _ | refine And.intro (by omega) ?_) | simp (config := { maxSteps := 1000000 }) (disch := (first | omega | (simp only [go_sem]; try omega))) only [go_sem, Nat.reduceAdd, Nat.reduceEqDiff, Nat.reduceLeDiff, Nat.reduceMul, Nat.reduceLT, reduceIte, Int.reduceToNat, w64_id, cast_succ])
    refine (cellCount_ok _ _ nx hv (by omega)).mono ?_
    rintro r Y ⟨rfl, rfl⟩
    repeat (first | (with_reducible first | refine SW.seq ?_ | refine SW.block ?_ | refine SW.rowC ?_ | refine SW.skip ?_ | refine SW.exit ?_ | refine PFn.use (k1) ?_ | refine PFn.useq (k1) ?_ | intro _ | refine And.intro (by omega) ?_) | simp (config := { maxSteps := 1000000 }) (disch := (first | omega | (simp only [go_sem]; try omega))) only [go_sem, Nat.reduceAdd, Nat.reduceEqDiff, Nat.reduceLeDiff, Nat.reduceMul, Nat.reduceLT, reduceIte, Int.reduceToNat, w64_id, cast_succ, d1])
    refine SW.condT rfl ?_
    repeat (first | (with_reducible first | refine SW.seq ?_ | refine SW.block ?_ | refine SW.rowC ?_ | refine SW.skip ?_ | refine SW.exit ?_ | intro _ | refine And.intro (by omega) ?_) | simp (config := { maxSteps := 1000000 }) (disch := (first | omega | (simp only [go_sem]; try omega))) only [go_sem, Nat.reduceAdd, Nat.reduceEqDiff, Nat.reduceLeDiff, Nat.reduceMul, Nat.reduceLT, reduceIte, Int.reduceToNat, w64_id, cast_succ])
    refine SW.ret ?_; (try simp only [go_sem]); (first | refine FunPost.one ?_ | refine FunPost.two ?_ | refine FunPost.three ?_); (try simp (config := { maxSteps := 1000000 }) (disch := (first | omega | (simp only [go_sem]; try omega))) only [go_sem, Nat.reduceAdd, Nat.reduceEqDiff, Nat.reduceLeDiff, Nat.reduceMul, Nat.reduceLT, reduceIte, Int.reduceToNat, w64_id, cast_succ])
    exact GR.of ⟨rfl, rfl⟩
  · have d1 : decide ((manyL nx : Int) = (manyL out : Int)) = false := decide_eq_false (by omega)
    obtain ⟨g, rfl⟩ : ∃ g, m = g + 1 := ⟨m - 1, by omega⟩
    rw [refGo, if_pos (by omega)] at hgo
    repeat (first | (with_reducible first | refine SW.seq ?_ | refine SW.block ?_ | refine SW.rowC ?_ | refine SW.skip ?_ | refine SW.exit ?_ | refine PFn.use (k2.pfn) ?_ | refine PFn.useq (k2.pfn) ?_ | refine PFn.use (k5) ?_ | refine PFn.useq (k5) ?_ | refine PFn.use (k1) ?_ | refine PFn.useq (k1) ?_ | intro _ | refine And.intro (by omega) ?_) | simp (config := { maxSteps := 1000000 }) (disch := (first | omega | (simp only [go_sem]; try omega))) only [go_sem, Nat.reduceAdd, Nat.reduceEqDiff, Nat.reduceLeDiff, Nat.reduceMul, Nat.reduceLT, reduceIte, Int.reduceToNat, w64_id, cast_succ, d1])
    refine SW.condF rfl ?_
    repeat (first | (with_reducible first | refine SW.seq ?_ | refine SW.block ?_ | refine SW.rowC ?_ | refine SW.skip ?_ | refine SW.exit ?_ | intro _ | refine And.intro (by omega) ?_) | simp (config := { maxSteps := 1000000 }) (disch := (first | omega | (simp only [go_sem]; try omega))) only [go_sem, Nat.reduceAdd, Nat.reduceEqDiff, Nat.reduceLeDiff, Nat.reduceMul, Nat.reduceLT, reduceIte, Int.reduceToNat, w64_id, cast_succ])
    exact SLoop.next g (by omega) ⟨nx, hgo, by omega, ho2, rfl, rfl⟩
theorem implRefine_fs (cols : List Int) (es : List (Int × Int)) (cells : List Int) : FS Try.prog f_impl_RefineColors [.agg [ilS cols, ilE es], ilS cells] (rfV cols es cells) (rfA cols es cells) := by
  have hv := ValidGraph_fn cols es
  have ha := areCells_fn cols es cells
  intro H
  unfold rfV rfA
  cases hg : grB cols es
  · rw [hg] at hv
    refine ACalls.introB s_impl_RefineColors (by simp) ?_; intro hB hA; unfold c_impl_RefineColors; simp (config := { maxSteps := 1000000 }) (disch := (first | omega | (simp only [go_sem]; try omega))) only [go_sem, Nat.reduceAdd, Nat.reduceEqDiff, Nat.reduceLeDiff, Nat.reduceMul, Nat.reduceLT, reduceIte, Int.reduceToNat, w64_id, cast_succ]
    repeat (first | (with_reducible first | refine SW.seq ?_ | refine SW.block ?_ | refine SW.rowC ?_ | refine SW.skip ?_ | refine SW.exit ?_ | refine PFn.use (hv) ?_ | refine PFn.useq (hv) ?_ | intro _ | refine And.intro (by omega) ?_) | simp (config := { maxSteps := 1000000 }) (disch := (first | omega | (simp only [go_sem]; try omega))) only [go_sem, Nat.reduceAdd, Nat.reduceEqDiff, Nat.reduceLeDiff, Nat.reduceMul, Nat.reduceLT, reduceIte, Int.reduceToNat, w64_id, cast_succ])
    refine SW.condT rfl ?_
    repeat (first | (with_reducible first | refine SW.seq ?_ | refine SW.block ?_ | refine SW.rowC ?_ | refine SW.skip ?_ | refine SW.exit ?_ | intro _ | refine And.intro (by omega) ?_) | simp (config := { maxSteps := 1000000 }) (disch := (first | omega | (simp only [go_sem]; try omega))) only [go_sem, Nat.reduceAdd, Nat.reduceEqDiff, Nat.reduceLeDiff, Nat.reduceMul, Nat.reduceLT, reduceIte, Int.reduceToNat, w64_id, cast_succ])
    refine SW.ret ?_; (try simp only [go_sem]); (first | refine FunPost.one ?_ | refine FunPost.two ?_ | refine FunPost.three ?_); (try simp (config := { maxSteps := 1000000 }) (disch := (first | omega | (simp only [go_sem]; try omega))) only [go_sem, Nat.reduceAdd, Nat.reduceEqDiff, Nat.reduceLeDiff, Nat.reduceMul, Nat.reduceLT, reduceIte, Int.reduceToNat, w64_id, cast_succ])
    exact GR.of nilFS1
  rw [hg] at hv
  obtain ⟨f1, f2, f3, f4⟩ := grB_facts hg
  cases hb : rfB cols cells
  · rw [hb] at ha
    refine ACalls.introB s_impl_RefineColors (by simp) ?_; intro hB hA; unfold c_impl_RefineColors; simp (config := { maxSteps := 1000000 }) (disch := (first | omega | (simp only [go_sem]; try omega))) only [go_sem, Nat.reduceAdd, Nat.reduceEqDiff, Nat.reduceLeDiff, Nat.reduceMul, Nat.reduceLT, reduceIte, Int.reduceToNat, w64_id, cast_succ]
    repeat (first | (with_reducible first | refine SW.seq ?_ | refine SW.block ?_ | refine SW.rowC ?_ | refine SW.skip ?_ | refine SW.exit ?_ | refine PFn.use (hv) ?_ | refine PFn.useq (hv) ?_ | intro _ | refine And.intro (by omega) ?_) | simp (config := { maxSteps := 1000000 }) (disch := (first | omega | (simp only [go_sem]; try omega))) only [go_sem, Nat.reduceAdd, Nat.reduceEqDiff, Nat.reduceLeDiff, Nat.reduceMul, Nat.reduceLT, reduceIte, Int.reduceToNat, w64_id, cast_succ])
    refine SW.condF rfl ?_
    repeat (first | (with_reducible first | refine SW.seq ?_ | refine SW.block ?_ | refine SW.rowC ?_ | refine SW.skip ?_ | refine SW.exit ?_ | refine PFn.use (ha) ?_ | refine PFn.useq (ha) ?_ | intro _ | refine And.intro (by omega) ?_) | simp (config := { maxSteps := 1000000 }) (disch := (first | omega | (simp only [go_sem]; try omega))) only [go_sem, Nat.reduceAdd, Nat.reduceEqDiff, Nat.reduceLeDiff, Nat.reduceMul, Nat.reduceLT, reduceIte, Int.reduceToNat, w64_id, cast_succ])
    refine SW.condT rfl ?_
    repeat (first | (with_reducible first | refine SW.seq ?_ | refine SW.block ?_ | refine SW.rowC ?_ | refine SW.skip ?_ | refine SW.exit ?_ | intro _ | refine And.intro (by omega) ?_) | simp (config := { maxSteps := 1000000 }) (disch := (first | omega | (simp only [go_sem]; try omega))) only [go_sem, Nat.reduceAdd, Nat.reduceEqDiff, Nat.reduceLeDiff, Nat.reduceMul, Nat.reduceLT, reduceIte, Int.reduceToNat, w64_id, cast_succ])
    refine SW.ret ?_; (try simp only [go_sem]); (first | refine FunPost.one ?_ | refine FunPost.two ?_ | refine FunPost.three ?_); (try simp (config := { maxSteps := 1000000 }) (disch := (first | omega | (simp only [go_sem]; try omega))) only [go_sem, Nat.reduceAdd, Nat.reduceEqDiff, Nat.reduceLeDiff, Nat.reduceMul, Nat.reduceLT, reduceIte, Int.reduceToNat, w64_id, cast_succ])
    exact GR.of nilFS1
  rw [hb] at ha
  have hl : cells.length = cols.length := by
    unfold rfB at hb
    simp only [Bool.and_eq_true, decide_eq_true_eq] at hb
    exact hb.1
  have hnl := neighborLists_fn cols es (by omega) (by omega) (fun e he => by obtain ⟨q1, q2, q3⟩ := f3 e he; omega)
  have hs : es.Pairwise fun a b => cmpE a b < 0 := by
    unfold grB edsB at hg
    simp only [Bool.and_eq_true, decide_eq_true_eq] at hg
    exact hg.1.2
  have hnt : (nbrT cols.length es).map isort = nearT cols.length es cols.length := by
    unfold nbrT nearT
    rw [List.map_map]
    exact List.map_congr_left fun v _ => nearL_is f3 hs v
  rw [hnt] at hnl
  have hre := impl_refine_new (nearT cols.length es cols.length) cells (by rw [nearT_len]; omega) (by rw [nearT_len]; omega) (fun r hr => by obtain ⟨q1, q2⟩ := nearT_in r hr; exact ⟨by omega, fun w hw => by have := q2 w hw; omega⟩)
  rw [nearT_len] at hre
  change NewS _ _ _ (rfL cols es cells) at hre
  generalize rfL cols es cells = R at *
  refine ACalls.introB s_impl_RefineColors (by simp) ?_; intro hB hA; unfold c_impl_RefineColors; simp (config := { maxSteps := 1000000 }) (disch := (first | omega | (simp only [go_sem]; try omega))) only [go_sem, Nat.reduceAdd, Nat.reduceEqDiff, Nat.reduceLeDiff, Nat.reduceMul, Nat.reduceLT, reduceIte, Int.reduceToNat, w64_id, cast_succ]
  repeat (first | (with_reducible first | refine SW.seq ?_ | refine SW.block ?_ | refine SW.rowC ?_ | refine SW.skip ?_ | refine SW.exit ?_ | refine PFn.use (hv) ?_ | refine PFn.useq (hv) ?_ | intro _ | refine And.intro (by omega) ?_) | simp (config := { maxSteps := 1000000 }) (disch := (first | omega | (simp only [go_sem]; try omega))) only [go_sem, Nat.reduceAdd, Nat.reduceEqDiff, Nat.reduceLeDiff, Nat.reduceMul, Nat.reduceLT, reduceIte, Int.reduceToNat, w64_id, cast_succ])
  refine SW.condF rfl ?_
  repeat (first | (with_reducible first | refine SW.seq ?_ | refine SW.block ?_ | refine SW.rowC ?_ | refine SW.skip ?_ | refine SW.exit ?_ | refine PFn.use (ha) ?_ | refine PFn.useq (ha) ?_ | intro _ | refine And.intro (by omega) ?_) | simp (config := { maxSteps := 1000000 }) (disch := (first | omega | (simp only [go_sem]; try omega))) only [go_sem, Nat.reduceAdd, Nat.reduceEqDiff, Nat.reduceLeDiff, Nat.reduceMul, Nat.reduceLT, reduceIte, Int.reduceToNat, w64_id, cast_succ])
  refine SW.condF rfl ?_
  repeat (first | (with_reducible first | refine SW.seq ?_ | refine SW.block ?_ | refine SW.rowC ?_ | refine SW.skip ?_ | refine SW.exit ?_ | refine PFn.use (hnl) ?_ | refine PFn.useq (hnl) ?_ | intro _ | refine And.intro (by omega) ?_) | simp (config := { maxSteps := 1000000 }) (disch := (first | omega | (simp only [go_sem]; try omega))) only [go_sem, Nat.reduceAdd, Nat.reduceEqDiff, Nat.reduceLeDiff, Nat.reduceMul, Nat.reduceLT, reduceIte, Int.reduceToNat, w64_id, cast_succ])
  refine (hre _).mono ?_
  rintro r X ⟨rfl, rfl⟩
  repeat (first | (with_reducible first | refine SW.seq ?_ | refine SW.block ?_ | refine SW.rowC ?_ | refine SW.skip ?_ | refine SW.exit ?_ | intro _ | refine And.intro (by omega) ?_) | simp (config := { maxSteps := 1000000 }) (disch := (first | omega | (simp only [go_sem]; try omega))) only [go_sem, Nat.reduceAdd, Nat.reduceEqDiff, Nat.reduceLeDiff, Nat.reduceMul, Nat.reduceLT, reduceIte, Int.reduceToNat, w64_id, cast_succ])
  refine SW.ret ?_; (try simp only [go_sem]); (first | refine FunPost.one ?_ | refine FunPost.two ?_ | refine FunPost.three ?_); (try simp (config := { maxSteps := 1000000 }) (disch := (first | omega | (simp only [go_sem]; try omega))) only [go_sem, Nat.reduceAdd, Nat.reduceEqDiff, Nat.reduceLeDiff, Nat.reduceMul, Nat.reduceLT, reduceIte, Int.reduceToNat, w64_id, cast_succ])
  exact GR.of ⟨_, _, _, rfl, rfl, .inl ⟨H.length + 1, 0, 2, rfl, ⟨by omega, by simp⟩, by simp, by simp⟩, rfl⟩
end Go.Proofs.Ytmdeibdplpodpaa
