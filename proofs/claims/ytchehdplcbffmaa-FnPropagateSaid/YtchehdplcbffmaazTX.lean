/- Drawn squares. -/
import Derived.Test.YtchehdplcbffmaaProg
import Derived.KernelRfl
import Derived.Test.YtchehdplcbffmaazQZ
import Derived.Test.YtchehdplcbffmaazOW
import Derived.Test.YtchehdplcbffmaazT0
set_option linter.unusedSimpArgs false
set_option linter.unusedVariables false
set_option maxHeartbeats 4000000
set_option maxRecDepth 100000
namespace Go.Proofs.Ytchehdplcbffmaa
open Go.Av
abbrev f_spec_l06Cyclic : Nat := 81
def c_spec_l06Cyclic : SC :=
 .seq (.reg [
     ⟨(some 2), .mv (.const (.slice none 0 0)), none⟩] [0])
 (.seq (.reg [
     ⟨(some 6), .mv (.tmp 0), none⟩,
     ⟨(some 7), .mv (.tmp 0), none⟩,
     ⟨(some 8), .call 71 [(.tmp 6), (.tmp 7)], none⟩,
     ⟨(some 3), .mv (.tmp 8), none⟩] [0, 3])
 (.seq (.seq (.reg [
     ⟨(some 4), .mv (.const (.int .i64 0)), none⟩] [0, 3, 4])
 (.block 0 (.loop [0, 3, 4]
   (.seq (.seq (.reg [
       ⟨(some 9), .mv (.tmp 4), none⟩,
       ⟨(some 10), .mv (.tmp 0), none⟩,
       ⟨(some 11), .bin .lss (.tmp 9) (.tmp 10), none⟩] [0, 3, 4, 11])
   (.cond (.tmp 11)
    (.skip)
    (.exit 0)))
   (.seq (.block 1 (.seq (.reg [
        ⟨(some 5), .mv (.const (.int .i64 0)), none⟩] [0, 3, 4, 5])
    (.block 2 (.loop [0, 3, 4, 5]
      (.seq (.seq (.reg [
          ⟨(some 14), .mv (.tmp 5), none⟩,
          ⟨(some 15), .mv (.tmp 0), none⟩,
          ⟨(some 16), .bin .lss (.tmp 14) (.tmp 15), none⟩] [0, 3, 4, 5, 16])
      (.cond (.tmp 16)
       (.skip)
       (.exit 2)))
      (.seq (.block 3 (.reg [
           ⟨(some 19), .mv (.tmp 3), none⟩,
           ⟨(some 20), .mv (.tmp 4), none⟩,
           ⟨(some 21), .iaddr 1 (.tmp 19) (.tmp 20), none⟩,
           ⟨(some 22), .load 1 false (.tmp 21), none⟩,
           ⟨(some 23), .mv (.tmp 5), none⟩,
           ⟨(some 24), .mv (.tmp 4), none⟩,
           ⟨(some 25), .mv (.tmp 5), none⟩,
           ⟨(some 26), .bin .add (.tmp 24) (.tmp 25), none⟩,
           ⟨(some 27), .mv (.tmp 0), none⟩,
           ⟨(some 28), .bin .rem (.tmp 26) (.tmp 27), none⟩,
           ⟨(some 29), .iaddr 1 (.tmp 22) (.tmp 23), none⟩,
           ⟨none, .store 1 (.tmp 29) (.tmp 28), none⟩] [0, 3, 4, 5]))
      (.reg [
          ⟨(some 17), .mv (.tmp 5), none⟩,
          ⟨(some 18), .bin .add (.tmp 17) (.const (.int .i64 1)), none⟩,
          ⟨(some 5), .mv (.tmp 18), none⟩] [0, 3, 4, 5])))))))
   (.reg [
       ⟨(some 12), .mv (.tmp 4), none⟩,
       ⟨(some 13), .bin .add (.tmp 12) (.const (.int .i64 1)), none⟩,
       ⟨(some 4), .mv (.tmp 13), none⟩] [0, 3, 4]))))))
 (.seq (.reg [
     ⟨(some 30), .mv (.tmp 3), none⟩,
     ⟨(some 2), .mv (.tmp 30), none⟩] [2])
 (.ret))))
theorem s_spec_l06Cyclic : stripF Try.prog 81 [[0], [0, 3], [0, 3, 4], [0, 3, 4], [0, 3, 4, 11], [0, 3, 4, 5], [0, 3, 4, 5], [0, 3, 4, 5, 16], [0, 3, 4, 5], [0, 3, 4, 5], [0, 3, 4], [2]] = some (c_spec_l06Cyclic, [.tmp 2], 31) := by kernel_rfl
abbrev f_spec_l06Product : Nat := 82
def c_spec_l06Product : SC :=
 .seq (.reg [
     ⟨(some 4), .mv (.const (.slice none 0 0)), none⟩] [0, 1])
 (.seq (.reg [
     ⟨(some 10), .mv (.tmp 0), none⟩,
     ⟨(some 11), .len (.tmp 10), none⟩,
     ⟨(some 5), .mv (.tmp 11), none⟩] [0, 1, 5])
 (.seq (.reg [
     ⟨(some 12), .mv (.tmp 1), none⟩,
     ⟨(some 13), .len (.tmp 12), none⟩,
     ⟨(some 6), .mv (.tmp 13), none⟩] [0, 1, 5, 6])
 (.seq (.reg [
     ⟨(some 14), .mv (.tmp 5), none⟩,
     ⟨(some 15), .mv (.tmp 6), none⟩,
     ⟨(some 16), .bin .mul (.tmp 14) (.tmp 15), none⟩,
     ⟨(some 17), .mv (.tmp 5), none⟩,
     ⟨(some 18), .mv (.tmp 6), none⟩,
     ⟨(some 19), .bin .mul (.tmp 17) (.tmp 18), none⟩,
     ⟨(some 20), .call 71 [(.tmp 16), (.tmp 19)], none⟩,
     ⟨(some 7), .mv (.tmp 20), none⟩] [0, 1, 5, 6, 7])
 (.seq (.seq (.reg [
     ⟨(some 8), .mv (.const (.int .i64 0)), none⟩] [0, 1, 5, 6, 7, 8])
 (.block 0 (.loop [0, 1, 5, 6, 7, 8]
   (.seq (.seq (.reg [
       ⟨(some 21), .mv (.tmp 8), none⟩,
       ⟨(some 22), .mv (.tmp 5), none⟩,
       ⟨(some 23), .mv (.tmp 6), none⟩,
       ⟨(some 24), .bin .mul (.tmp 22) (.tmp 23), none⟩,
       ⟨(some 25), .bin .lss (.tmp 21) (.tmp 24), none⟩] [0, 1, 5, 6, 7, 8, 25])
   (.cond (.tmp 25)
    (.skip)
    (.exit 0)))
   (.seq (.block 1 (.seq (.reg [
        ⟨(some 9), .mv (.const (.int .i64 0)), none⟩] [0, 1, 5, 6, 7, 8, 9])
    (.block 2 (.loop [0, 1, 5, 6, 7, 8, 9]
      (.seq (.seq (.reg [
          ⟨(some 28), .mv (.tmp 9), none⟩,
          ⟨(some 29), .mv (.tmp 5), none⟩,
          ⟨(some 30), .mv (.tmp 6), none⟩,
          ⟨(some 31), .bin .mul (.tmp 29) (.tmp 30), none⟩,
          ⟨(some 32), .bin .lss (.tmp 28) (.tmp 31), none⟩] [0, 1, 5, 6, 7, 8, 9, 32])
      (.cond (.tmp 32)
       (.skip)
       (.exit 2)))
      (.seq (.block 3 (.reg [
           ⟨(some 35), .mv (.tmp 7), none⟩,
           ⟨(some 36), .mv (.tmp 8), none⟩,
           ⟨(some 37), .iaddr 1 (.tmp 35) (.tmp 36), none⟩,
           ⟨(some 38), .load 1 false (.tmp 37), none⟩,
           ⟨(some 39), .mv (.tmp 9), none⟩,
           ⟨(some 40), .mv (.tmp 6), none⟩,
           ⟨(some 41), .mv (.tmp 0), none⟩,
           ⟨(some 42), .mv (.tmp 8), none⟩,
           ⟨(some 43), .mv (.tmp 6), none⟩,
           ⟨(some 44), .bin .quo (.tmp 42) (.tmp 43), none⟩,
           ⟨(some 45), .iaddr 1 (.tmp 41) (.tmp 44), none⟩,
           ⟨(some 46), .load 1 false (.tmp 45), none⟩,
           ⟨(some 47), .mv (.tmp 9), none⟩,
           ⟨(some 48), .mv (.tmp 6), none⟩,
           ⟨(some 49), .bin .quo (.tmp 47) (.tmp 48), none⟩,
           ⟨(some 50), .iaddr 1 (.tmp 46) (.tmp 49), none⟩,
           ⟨(some 51), .load 1 false (.tmp 50), none⟩,
           ⟨(some 52), .bin .mul (.tmp 40) (.tmp 51), none⟩,
           ⟨(some 53), .mv (.tmp 1), none⟩,
           ⟨(some 54), .mv (.tmp 8), none⟩,
           ⟨(some 55), .mv (.tmp 6), none⟩,
           ⟨(some 56), .bin .rem (.tmp 54) (.tmp 55), none⟩,
           ⟨(some 57), .iaddr 1 (.tmp 53) (.tmp 56), none⟩,
           ⟨(some 58), .load 1 false (.tmp 57), none⟩,
           ⟨(some 59), .mv (.tmp 9), none⟩,
           ⟨(some 60), .mv (.tmp 6), none⟩,
           ⟨(some 61), .bin .rem (.tmp 59) (.tmp 60), none⟩,
           ⟨(some 62), .iaddr 1 (.tmp 58) (.tmp 61), none⟩,
           ⟨(some 63), .load 1 false (.tmp 62), none⟩,
           ⟨(some 64), .bin .add (.tmp 52) (.tmp 63), none⟩,
           ⟨(some 65), .iaddr 1 (.tmp 38) (.tmp 39), none⟩,
           ⟨none, .store 1 (.tmp 65) (.tmp 64), none⟩] [0, 1, 5, 6, 7, 8, 9]))
      (.reg [
          ⟨(some 33), .mv (.tmp 9), none⟩,
          ⟨(some 34), .bin .add (.tmp 33) (.const (.int .i64 1)), none⟩,
          ⟨(some 9), .mv (.tmp 34), none⟩] [0, 1, 5, 6, 7, 8, 9])))))))
   (.reg [
       ⟨(some 26), .mv (.tmp 8), none⟩,
       ⟨(some 27), .bin .add (.tmp 26) (.const (.int .i64 1)), none⟩,
       ⟨(some 8), .mv (.tmp 27), none⟩] [0, 1, 5, 6, 7, 8]))))))
 (.seq (.reg [
     ⟨(some 66), .mv (.tmp 7), none⟩,
     ⟨(some 4), .mv (.tmp 66), none⟩] [4])
 (.ret))))))
theorem s_spec_l06Product : stripF Try.prog 82 [[0, 1], [0, 1, 5], [0, 1, 5, 6], [0, 1, 5, 6, 7], [0, 1, 5, 6, 7, 8], [0, 1, 5, 6, 7, 8], [0, 1, 5, 6, 7, 8, 25], [0, 1, 5, 6, 7, 8, 9], [0, 1, 5, 6, 7, 8, 9], [0, 1, 5, 6, 7, 8, 9, 32], [0, 1, 5, 6, 7, 8, 9], [0, 1, 5, 6, 7, 8, 9], [0, 1, 5, 6, 7, 8], [4]] = some (c_spec_l06Product, [.tmp 4], 67) := by kernel_rfl
abbrev f_spec_l06Isotope : Nat := 85
def c_spec_l06Isotope : SC :=
 .seq (.reg [
     ⟨(some 8), .mv (.const (.slice none 0 0)), none⟩] [0, 1, 2, 3])
 (.seq (.reg [
     ⟨(some 13), .mv (.tmp 0), none⟩,
     ⟨(some 14), .len (.tmp 13), none⟩,
     ⟨(some 9), .mv (.tmp 14), none⟩] [0, 1, 2, 3, 9])
 (.seq (.reg [
     ⟨(some 15), .mv (.tmp 9), none⟩,
     ⟨(some 16), .mv (.tmp 9), none⟩,
     ⟨(some 17), .call 71 [(.tmp 15), (.tmp 16)], none⟩,
     ⟨(some 10), .mv (.tmp 17), none⟩] [0, 1, 2, 3, 9, 10])
 (.seq (.seq (.reg [
     ⟨(some 11), .mv (.const (.int .i64 0)), none⟩] [0, 1, 2, 3, 9, 10, 11])
 (.block 0 (.loop [0, 1, 2, 3, 9, 10, 11]
   (.seq (.seq (.reg [
       ⟨(some 18), .mv (.tmp 11), none⟩,
       ⟨(some 19), .mv (.tmp 9), none⟩,
       ⟨(some 20), .bin .lss (.tmp 18) (.tmp 19), none⟩] [0, 1, 2, 3, 9, 10, 11, 20])
   (.cond (.tmp 20)
    (.skip)
    (.exit 0)))
   (.seq (.block 1 (.seq (.reg [
        ⟨(some 12), .mv (.const (.int .i64 0)), none⟩] [0, 1, 2, 3, 9, 10, 11, 12])
    (.block 2 (.loop [0, 1, 2, 3, 9, 10, 11, 12]
      (.seq (.seq (.reg [
          ⟨(some 23), .mv (.tmp 12), none⟩,
          ⟨(some 24), .mv (.tmp 9), none⟩,
          ⟨(some 25), .bin .lss (.tmp 23) (.tmp 24), none⟩] [0, 1, 2, 3, 9, 10, 11, 12, 25])
      (.cond (.tmp 25)
       (.skip)
       (.exit 2)))
      (.seq (.block 3 (.reg [
           ⟨(some 28), .mv (.tmp 10), none⟩,
           ⟨(some 29), .mv (.tmp 1), none⟩,
           ⟨(some 30), .mv (.tmp 11), none⟩,
           ⟨(some 31), .iaddr 1 (.tmp 29) (.tmp 30), none⟩,
           ⟨(some 32), .load 1 false (.tmp 31), none⟩,
           ⟨(some 33), .iaddr 1 (.tmp 28) (.tmp 32), none⟩,
           ⟨(some 34), .load 1 false (.tmp 33), none⟩,
           ⟨(some 35), .mv (.tmp 2), none⟩,
           ⟨(some 36), .mv (.tmp 12), none⟩,
           ⟨(some 37), .iaddr 1 (.tmp 35) (.tmp 36), none⟩,
           ⟨(some 38), .load 1 false (.tmp 37), none⟩,
           ⟨(some 39), .mv (.tmp 3), none⟩,
           ⟨(some 40), .mv (.tmp 0), none⟩,
           ⟨(some 41), .mv (.tmp 11), none⟩,
           ⟨(some 42), .iaddr 1 (.tmp 40) (.tmp 41), none⟩,
           ⟨(some 43), .load 1 false (.tmp 42), none⟩,
           ⟨(some 44), .mv (.tmp 12), none⟩,
           ⟨(some 45), .iaddr 1 (.tmp 43) (.tmp 44), none⟩,
           ⟨(some 46), .load 1 false (.tmp 45), none⟩,
           ⟨(some 47), .iaddr 1 (.tmp 39) (.tmp 46), none⟩,
           ⟨(some 48), .load 1 false (.tmp 47), none⟩,
           ⟨(some 49), .iaddr 1 (.tmp 34) (.tmp 38), none⟩,
           ⟨none, .store 1 (.tmp 49) (.tmp 48), none⟩] [0, 1, 2, 3, 9, 10, 11, 12]))
      (.reg [
          ⟨(some 26), .mv (.tmp 12), none⟩,
          ⟨(some 27), .bin .add (.tmp 26) (.const (.int .i64 1)), none⟩,
          ⟨(some 12), .mv (.tmp 27), none⟩] [0, 1, 2, 3, 9, 10, 11, 12])))))))
   (.reg [
       ⟨(some 21), .mv (.tmp 11), none⟩,
       ⟨(some 22), .bin .add (.tmp 21) (.const (.int .i64 1)), none⟩,
       ⟨(some 11), .mv (.tmp 22), none⟩] [0, 1, 2, 3, 9, 10, 11]))))))
 (.seq (.reg [
     ⟨(some 50), .mv (.tmp 10), none⟩,
     ⟨(some 8), .mv (.tmp 50), none⟩] [8])
 (.ret)))))
theorem s_spec_l06Isotope : stripF Try.prog 85 [[0, 1, 2, 3], [0, 1, 2, 3, 9], [0, 1, 2, 3, 9, 10], [0, 1, 2, 3, 9, 10, 11], [0, 1, 2, 3, 9, 10, 11], [0, 1, 2, 3, 9, 10, 11, 20], [0, 1, 2, 3, 9, 10, 11, 12], [0, 1, 2, 3, 9, 10, 11, 12], [0, 1, 2, 3, 9, 10, 11, 12, 25], [0, 1, 2, 3, 9, 10, 11, 12], [0, 1, 2, 3, 9, 10, 11, 12], [0, 1, 2, 3, 9, 10, 11], [8]] = some (c_spec_l06Isotope, [.tmp 8], 51) := by kernel_rfl
def sqIn (n : Nat) (sq : List (List Int)) : Prop := (sq.length = n ∧ ∀ r ∈ sq, r.length = n) ∧ ∀ r ∈ sq, ∀ z ∈ r, 0 ≤ z ∧ z < (n : Int)
theorem sqIn_zero {n : Nat} (hn : 1 ≤ n) : sqIn n (List.replicate n (List.replicate n 0)) := by
  refine ⟨⟨by simp, fun r hr => by rw [List.eq_of_mem_replicate hr]; simp⟩, fun r hr z hz => ?_⟩
  rw [List.eq_of_mem_replicate hr] at hz
  rw [List.eq_of_mem_replicate hz]; omega
theorem sqIn_get {n x y : Nat} {sq : List (List Int)} (h : sqIn n sq) (hx : x < n) (hy : y < n) : 0 ≤ (sq.getD x []).getD y 0 ∧ (sq.getD x []).getD y 0 < n := by
  obtain ⟨⟨h1, h2⟩, h3⟩ := h
  have hm : sq.getD x [] ∈ sq := by rw [getD_get (by omega)]; exact List.getElem_mem _
  have hl := h2 _ hm
  have e : (sq.getD x []).getD y 0 = (sq.getD x [])[y] := getD_get (by omega)
  exact h3 _ hm _ (by rw [e]; exact List.getElem_mem _)
theorem sqIn_set {n x y : Nat} {v : Int} {sq : List (List Int)} (h : sqIn n sq) (hv : 0 ≤ v ∧ v < n) : sqIn n (setC sq x y v) := by
  refine ⟨setC_ok h.1, fun r hr z hz => ?_⟩
  unfold setC at hr
  rcases List.mem_or_eq_of_mem_set hr with hr | rfl
  · exact h.2 r hr z hz
  · rcases List.mem_or_eq_of_mem_set hz with hz | rfl
    · by_cases hx : x < sq.length
      · exact h.2 _ (by rw [getD_get hx]; exact List.getElem_mem _) z hz
      · rw [List.getD_eq_getElem?_getD, List.getElem?_eq_none (by omega)] at hz; simp at hz
    · exact hv
theorem froz_sqB {Hb : List Blk} {v w b : Nat} {xss : List (List Int)} {ext : List Blk} (hb : b ≤ Hb.length) : Froz (Hb ++ (sqB v w Hb.length xss ++ ext)) b (.nm Hb.length v 0 xss.length) (ilSS xss) := by
  refine .nm Hb.length v 0 xss.length _ (xss.map ilS) hb sq_get0 rfl (by simp [nmsV_length]) ?_
  simp only [List.drop_zero, Nat.mul_one]
  rw [List.take_of_length_le (by rw [nmsV_length]; exact Nat.le_refl _)]
  intro j c c' hc hc'
  rw [List.getElem?_map] at hc'
  have hl : j < xss.length := by
    have := (List.getElem?_eq_some_iff.1 hc).1
    rw [nmsV_length] at this; exact this
  rw [sq_cell hl] at hc
  rw [List.getElem?_eq_getElem hl] at hc'
  cases hc
  simp only [Option.map_some, Option.some.injEq] at hc'
  subst hc'
  have e : xss.getD j [] = xss[j] := by simp [hl]
  have := sq_get (Hb := Hb) (v := v) (w := w) (ext := ext) hl
  rw [e] at this ⊢
  exact froz_rowI (by omega) this
theorem l06Cyclic_ok (H : List Blk) (n : Nat) (h1 : 1 ≤ n) (hn : n ≤ 32) : ACalls Try.prog f_spec_l06Cyclic [I n] H (fun r H' => H' = H ∧ ∃ sq, sqIn n sq ∧ r = ilSS sq) := by
  refine ACalls.introB s_spec_l06Cyclic (by simp) ?_; intro hB hA; unfold c_spec_l06Cyclic; simp (config := { maxSteps := 1000000 }) (disch := (first | omega | (simp only [go_sem]; try omega))) only [go_sem, Nat.reduceAdd, Nat.reduceEqDiff, Nat.reduceLeDiff, Nat.reduceMul, Nat.reduceLT, reduceIte, Int.reduceToNat, w64_id, cast_succ]
  repeat (first | (with_reducible first | refine SW.seq ?_ | refine SW.block ?_ | refine SW.rowC ?_ | refine SW.skip ?_ | refine SW.exit ?_ | intro _ | refine And.intro (by omega) ?_) | simp (config := { maxSteps := 1000000 }) (disch := (first | omega | (simp only [go_sem]; try omega))) only [go_sem, Nat.reduceAdd, Nat.reduceEqDiff, Nat.reduceLeDiff, Nat.reduceMul, Nat.reduceLT, reduceIte, Int.reduceToNat, w64_id, cast_succ])
  refine (l06Zero_sq H n n (by omega)).mono ?_
  rintro r H1 ⟨rfl, rfl⟩
  repeat (first | (with_reducible first | refine SW.seq ?_ | refine SW.block ?_ | refine SW.rowC ?_ | refine SW.skip ?_ | refine SW.exit ?_ | intro _ | refine And.intro (by omega) ?_) | simp (config := { maxSteps := 1000000 }) (disch := (first | omega | (simp only [go_sem]; try omega))) only [go_sem, Nat.reduceAdd, Nat.reduceEqDiff, Nat.reduceLeDiff, Nat.reduceMul, Nat.reduceLT, reduceIte, Int.reduceToNat, w64_id, cast_succ])
  refine SW.loopE (fun E0 H0 q E' H' => ∃ (x : Nat) (sq : List (List Int)), x ≤ n ∧ q = n - x ∧ sqIn n sq ∧ E' = aput E0 4 (I x) ∧ H' = H ++ sqB n 0 H.length sq) n ⟨0, _, by omega, by omega, sqIn_zero h1, rfl, rfl⟩ ?_
  rintro q E' H' ⟨x, sq, hx, rfl, hs, rfl, rfl⟩
  simp (config := { maxSteps := 1000000 }) (disch := (first | omega | (simp only [go_sem]; try omega))) only [go_sem, Nat.reduceAdd, Nat.reduceEqDiff, Nat.reduceLeDiff, Nat.reduceMul, Nat.reduceLT, reduceIte, Int.reduceToNat, w64_id, cast_succ]
  repeat (first | (with_reducible first | refine SW.seq ?_ | refine SW.block ?_ | refine SW.rowC ?_ | refine SW.skip ?_ | refine SW.exit ?_ | intro _ | refine And.intro (by omega) ?_) | simp (config := { maxSteps := 1000000 }) (disch := (first | omega | (simp only [go_sem]; try omega))) only [go_sem, Nat.reduceAdd, Nat.reduceEqDiff, Nat.reduceLeDiff, Nat.reduceMul, Nat.reduceLT, reduceIte, Int.reduceToNat, w64_id, cast_succ])
  (first | refine SW.condD rfl (fun h => ?_) (fun h => ?_) | refine SW.condN rfl (fun h => ?_) (fun h => ?_) | refine SW.condNB rfl (fun h => ?_) (fun h => ?_) | refine SW.condB rfl (fun h => ?_) (fun h => ?_))
  · repeat (first | (with_reducible first | refine SW.seq ?_ | refine SW.block ?_ | refine SW.rowC ?_ | refine SW.skip ?_ | refine SW.exit ?_ | intro _ | refine And.intro (by omega) ?_) | simp (config := { maxSteps := 1000000 }) (disch := (first | omega | (simp only [go_sem]; try omega))) only [go_sem, Nat.reduceAdd, Nat.reduceEqDiff, Nat.reduceLeDiff, Nat.reduceMul, Nat.reduceLT, reduceIte, Int.reduceToNat, w64_id, cast_succ])
    have hxn : x < n := by omega
    refine SW.loopE (fun E0 H0 q E' H' => ∃ (y : Nat) (sq : List (List Int)), y ≤ n ∧ q = n - y ∧ sqIn n sq ∧ E' = aput E0 5 (I y) ∧ H' = H ++ sqB n 0 H.length sq) n ⟨0, sq, by omega, by omega, hs, rfl, rfl⟩ ?_
    clear hs
    rintro q E' H' ⟨y, sq, hy, rfl, hs, rfl, rfl⟩
    simp (config := { maxSteps := 1000000 }) (disch := (first | omega | (simp only [go_sem]; try omega))) only [go_sem, Nat.reduceAdd, Nat.reduceEqDiff, Nat.reduceLeDiff, Nat.reduceMul, Nat.reduceLT, reduceIte, Int.reduceToNat, w64_id, cast_succ]
    repeat (first | (with_reducible first | refine SW.seq ?_ | refine SW.block ?_ | refine SW.rowC ?_ | refine SW.skip ?_ | refine SW.exit ?_ | intro _ | refine And.intro (by omega) ?_) | simp (config := { maxSteps := 1000000 }) (disch := (first | omega | (simp only [go_sem]; try omega))) only [go_sem, Nat.reduceAdd, Nat.reduceEqDiff, Nat.reduceLeDiff, Nat.reduceMul, Nat.reduceLT, reduceIte, Int.reduceToNat, w64_id, cast_succ])
    (first | refine SW.condD rfl (fun h3 => ?_) (fun h3 => ?_) | refine SW.condN rfl (fun h3 => ?_) (fun h3 => ?_) | refine SW.condNB rfl (fun h3 => ?_) (fun h3 => ?_) | refine SW.condB rfl (fun h3 => ?_) (fun h3 => ?_))
    · have hyn : y < n := by omega
      have hsq := hs.1
      have hr1 : (sq.getD x []).length = n := hsq.2 _ (by rw [getD_get (show x < sq.length by omega)]; exact List.getElem_mem _)
      have c0 := fun s => q0w (H := H) (n := n) (w := 0) (sq := s) (ext := [])
      have c1 := qcellw (H := H) (w := 0) hsq hxn
      have c2 := qtakew (H := H) (w := 0) hsq.1
      have c3 := qroww (H := H) (w := 0) (ext := []) hsq.1 hxn
      have c4 := fun v => qsetw (H := H) (w := 0) (y := y) (ext := []) hsq.1 hxn v
      simp only [List.append_nil] at c0 c3 c4
      have hn0 : ¬ (n : Int) = 0 := by omega
      have exy : ((x : Int) + (y : Int)) = ((x + y : Nat) : Int) := by simp
      repeat (first | (with_reducible first | refine SW.seq ?_ | refine SW.block ?_ | refine SW.rowC ?_ | refine SW.skip ?_ | refine SW.exit ?_ | intro _ | refine And.intro (by omega) ?_) | simp (config := { maxSteps := 1000000 }) (disch := (first | omega | (simp only [go_sem]; try omega))) only [go_sem, Nat.reduceAdd, Nat.reduceEqDiff, Nat.reduceLeDiff, Nat.reduceMul, Nat.reduceLT, reduceIte, Int.reduceToNat, w64_id, cast_succ, c0, c1, c2, c3, c4, hr1, exy, tmodN, hn0])
      exact SLoop.next (n - (y + 1)) (by omega) ⟨y + 1, _, by omega, rfl, sqIn_set hs ⟨by omega, by have := Nat.mod_lt (x + y) (show 0 < n by omega); omega⟩, rfl, rfl⟩
    · have : y = n := by omega
      subst this
      repeat (first | (with_reducible first | refine SW.seq ?_ | refine SW.block ?_ | refine SW.rowC ?_ | refine SW.skip ?_ | refine SW.exit ?_ | intro _ | refine And.intro (by omega) ?_) | simp (config := { maxSteps := 1000000 }) (disch := (first | omega | (simp only [go_sem]; try omega))) only [go_sem, Nat.reduceAdd, Nat.reduceEqDiff, Nat.reduceLeDiff, Nat.reduceMul, Nat.reduceLT, reduceIte, Int.reduceToNat, w64_id, cast_succ])
      exact SLoop.next (y - (x + 1)) (by omega) ⟨x + 1, sq, by omega, rfl, hs, rfl, rfl⟩
  · have : x = n := by omega
    subst this
    repeat (first | (with_reducible first | refine SW.seq ?_ | refine SW.block ?_ | refine SW.rowC ?_ | refine SW.skip ?_ | refine SW.exit ?_ | intro _ | refine And.intro (by omega) ?_) | simp (config := { maxSteps := 1000000 }) (disch := (first | omega | (simp only [go_sem]; try omega))) only [go_sem, Nat.reduceAdd, Nat.reduceEqDiff, Nat.reduceLeDiff, Nat.reduceMul, Nat.reduceLT, reduceIte, Int.reduceToNat, w64_id, cast_succ])
    refine SW.ret ?_; (try simp only [go_sem]); (first | refine FunPost.one ?_ | refine FunPost.two ?_ | refine FunPost.three ?_); (try simp (config := { maxSteps := 1000000 }) (disch := (first | omega | (simp only [go_sem]; try omega))) only [go_sem, Nat.reduceAdd, Nat.reduceEqDiff, Nat.reduceLeDiff, Nat.reduceMul, Nat.reduceLT, reduceIte, Int.reduceToNat, w64_id, cast_succ])
    have hfz := froz_sqB (Hb := H) (v := x) (w := 0) (xss := sq) (ext := []) (Nat.le_refl H.length)
    rw [List.append_nil, hs.1.1] at hfz
    exact GR.froz hfz ⟨rfl, sq, hs, rfl⟩
theorem l06Product_ok (H : List Blk) (n m : Nat) (a b : List (List Int)) (ha : sqIn n a) (hb : sqIn m b) (n1 : 1 ≤ n) (m1 : 1 ≤ m) (hnm : n * m ≤ 32) : ACalls Try.prog f_spec_l06Product [ilSS a, ilSS b] H (fun r H' => H' = H ∧ ∃ sq, sqIn (n * m) sq ∧ r = ilSS sq) := by
  have hal := ha.1.1
  have hbl := hb.1.1
  have hk1 : 1 ≤ n * m := Nat.mul_le_mul n1 m1
  have enm : ((n : Int) * (m : Int)) = ((n * m : Nat) : Int) := by simp
  have hm0 : ¬ (m : Int) = 0 := by omega
  have hmle : m ≤ 32 := Nat.le_trans (Nat.le_mul_of_pos_left m (by omega)) hnm
  have hnle : n ≤ 32 := Nat.le_trans (Nat.le_mul_of_pos_right n (by omega)) hnm
  refine ACalls.introB s_spec_l06Product (by simp) ?_; intro hB hA; unfold c_spec_l06Product; simp (config := { maxSteps := 1000000 }) (disch := (first | omega | (simp only [go_sem]; try omega))) only [go_sem, Nat.reduceAdd, Nat.reduceEqDiff, Nat.reduceLeDiff, Nat.reduceMul, Nat.reduceLT, reduceIte, Int.reduceToNat, w64_id, cast_succ]
  repeat (first | (with_reducible first | refine SW.seq ?_ | refine SW.block ?_ | refine SW.rowC ?_ | refine SW.skip ?_ | refine SW.exit ?_ | intro _ | refine And.intro (by omega) ?_) | simp (config := { maxSteps := 1000000 }) (disch := (first | omega | (simp only [go_sem]; try omega))) only [go_sem, Nat.reduceAdd, Nat.reduceEqDiff, Nat.reduceLeDiff, Nat.reduceMul, Nat.reduceLT, reduceIte, Int.reduceToNat, w64_id, cast_succ, hal, hbl, enm])
  refine (l06Zero_sq H (n * m) (n * m) (by omega)).mono ?_
  rintro r H1 ⟨rfl, rfl⟩
  have hdv : ∀ x, x < n * m → x / m < n := fun x h => Nat.div_lt_of_lt_mul (by rw [Nat.mul_comm]; exact h)
  have hval : ∀ u v : Int, 0 ≤ u → u < n → 0 ≤ v → v < m → 0 ≤ (m : Int) * u ∧ (m : Int) * u ≤ 1024 ∧ 0 ≤ (m : Int) * u + v ∧ (m : Int) * u + v < ((n * m : Nat) : Int) := fun u v h1 h2 h3 h4 => by
    have g1 : (m : Int) * u ≤ (m : Int) * ((n : Int) - 1) := Int.mul_le_mul_of_nonneg_left (by omega) (by omega)
    have g2 : 0 ≤ (m : Int) * u := Int.mul_nonneg (by omega) h1
    have g3 : (m : Int) * ((n : Int) - 1) = ((n * m : Nat) : Int) - m := by rw [Int.mul_sub, Int.mul_one, Int.natCast_mul, Int.mul_comm]
    omega
  generalize hN : n * m = N at *
  repeat (first | (with_reducible first | refine SW.seq ?_ | refine SW.block ?_ | refine SW.rowC ?_ | refine SW.skip ?_ | refine SW.exit ?_ | intro _ | refine And.intro (by omega) ?_) | simp (config := { maxSteps := 1000000 }) (disch := (first | omega | (simp only [go_sem]; try omega))) only [go_sem, Nat.reduceAdd, Nat.reduceEqDiff, Nat.reduceLeDiff, Nat.reduceMul, Nat.reduceLT, reduceIte, Int.reduceToNat, w64_id, cast_succ])
  refine SW.loopE (fun E0 H0 q E' H' => ∃ (x : Nat) (sq : List (List Int)), x ≤ N ∧ q = N - x ∧ sqIn N sq ∧ E' = aput E0 8 (I x) ∧ H' = H ++ sqB N 0 H.length sq) N ⟨0, _, by omega, by omega, sqIn_zero hk1, rfl, rfl⟩ ?_
  rintro q E' H' ⟨x, sq, hx, rfl, hs, rfl, rfl⟩
  simp (config := { maxSteps := 1000000 }) (disch := (first | omega | (simp only [go_sem]; try omega))) only [go_sem, Nat.reduceAdd, Nat.reduceEqDiff, Nat.reduceLeDiff, Nat.reduceMul, Nat.reduceLT, reduceIte, Int.reduceToNat, w64_id, cast_succ]
  repeat (first | (with_reducible first | refine SW.seq ?_ | refine SW.block ?_ | refine SW.rowC ?_ | refine SW.skip ?_ | refine SW.exit ?_ | intro _ | refine And.intro (by omega) ?_) | simp (config := { maxSteps := 1000000 }) (disch := (first | omega | (simp only [go_sem]; try omega))) only [go_sem, Nat.reduceAdd, Nat.reduceEqDiff, Nat.reduceLeDiff, Nat.reduceMul, Nat.reduceLT, reduceIte, Int.reduceToNat, w64_id, cast_succ, enm])
  (first | refine SW.condD rfl (fun h => ?_) (fun h => ?_) | refine SW.condN rfl (fun h => ?_) (fun h => ?_) | refine SW.condNB rfl (fun h => ?_) (fun h => ?_) | refine SW.condB rfl (fun h => ?_) (fun h => ?_))
  · repeat (first | (with_reducible first | refine SW.seq ?_ | refine SW.block ?_ | refine SW.rowC ?_ | refine SW.skip ?_ | refine SW.exit ?_ | intro _ | refine And.intro (by omega) ?_) | simp (config := { maxSteps := 1000000 }) (disch := (first | omega | (simp only [go_sem]; try omega))) only [go_sem, Nat.reduceAdd, Nat.reduceEqDiff, Nat.reduceLeDiff, Nat.reduceMul, Nat.reduceLT, reduceIte, Int.reduceToNat, w64_id, cast_succ])
    have hxn : x < N := by omega
    refine SW.loopE (fun E0 H0 q E' H' => ∃ (y : Nat) (sq : List (List Int)), y ≤ N ∧ q = N - y ∧ sqIn N sq ∧ E' = aput E0 9 (I y) ∧ H' = H ++ sqB N 0 H.length sq) N ⟨0, sq, by omega, by omega, hs, rfl, rfl⟩ ?_
    clear hs
    rintro q E' H' ⟨y, sq, hy, rfl, hs, rfl, rfl⟩
    simp (config := { maxSteps := 1000000 }) (disch := (first | omega | (simp only [go_sem]; try omega))) only [go_sem, Nat.reduceAdd, Nat.reduceEqDiff, Nat.reduceLeDiff, Nat.reduceMul, Nat.reduceLT, reduceIte, Int.reduceToNat, w64_id, cast_succ]
    repeat (first | (with_reducible first | refine SW.seq ?_ | refine SW.block ?_ | refine SW.rowC ?_ | refine SW.skip ?_ | refine SW.exit ?_ | intro _ | refine And.intro (by omega) ?_) | simp (config := { maxSteps := 1000000 }) (disch := (first | omega | (simp only [go_sem]; try omega))) only [go_sem, Nat.reduceAdd, Nat.reduceEqDiff, Nat.reduceLeDiff, Nat.reduceMul, Nat.reduceLT, reduceIte, Int.reduceToNat, w64_id, cast_succ, enm])
    (first | refine SW.condD rfl (fun h3 => ?_) (fun h3 => ?_) | refine SW.condN rfl (fun h3 => ?_) (fun h3 => ?_) | refine SW.condNB rfl (fun h3 => ?_) (fun h3 => ?_) | refine SW.condB rfl (fun h3 => ?_) (fun h3 => ?_))
    · have hyn : y < N := by omega
      have hsq := hs.1
      have hr1 : (sq.getD x []).length = N := hsq.2 _ (by rw [getD_get (show x < sq.length by omega)]; exact List.getElem_mem _)
      have c0 := fun s => q0w (H := H) (n := N) (w := 0) (sq := s) (ext := [])
      have c1 := qcellw (H := H) (w := 0) hsq hxn
      have c2 := qtakew (H := H) (w := 0) hsq.1
      have c3 := qroww (H := H) (w := 0) (ext := []) hsq.1 hxn
      have c4 := fun v => qsetw (H := H) (w := 0) (y := y) (ext := []) hsq.1 hxn v
      simp only [List.append_nil] at c0 c3 c4
      have x1 := hdv x hxn
      have y1 := hdv y hyn
      have x2 := Nat.mod_lt x (show 0 < m by omega)
      have y2 := Nat.mod_lt y (show 0 < m by omega)
      generalize hxd : x / m = xd at *
      generalize hyd : y / m = yd at *
      generalize hxm : x % m = xm at *
      generalize hym : y % m = ym at *
      have ga := sqIn_get ha x1 y1
      have gb := sqIn_get hb x2 y2
      have gv := hval _ _ ga.1 ga.2 gb.1 gb.2
      have la : (a.getD xd []).length = n := ha.1.2 _ (by rw [getD_get (show xd < a.length by omega)]; exact List.getElem_mem _)
      have lb : (b.getD xm []).length = m := hb.1.2 _ (by rw [getD_get (show xm < b.length by omega)]; exact List.getElem_mem _)
      repeat (first | (with_reducible first | refine SW.seq ?_ | refine SW.block ?_ | refine SW.rowC ?_ | refine SW.skip ?_ | refine SW.exit ?_ | intro _ | refine And.intro (by omega) ?_) | simp (config := { maxSteps := 1000000 }) (disch := (first | omega | (simp only [go_sem]; try omega))) only [go_sem, Nat.reduceAdd, Nat.reduceEqDiff, Nat.reduceLeDiff, Nat.reduceMul, Nat.reduceLT, reduceIte, Int.reduceToNat, w64_id, cast_succ, c0, c1, c2, c3, c4, hr1, tmodN, tdivN, hm0, hxd, hyd, hxm, hym, la, lb, hal, hbl])
      exact SLoop.next (N - (y + 1)) (by omega) ⟨y + 1, _, by omega, rfl, sqIn_set hs ⟨gv.2.2.1, gv.2.2.2⟩, rfl, rfl⟩
    · have : y = N := by omega
      subst this
      repeat (first | (with_reducible first | refine SW.seq ?_ | refine SW.block ?_ | refine SW.rowC ?_ | refine SW.skip ?_ | refine SW.exit ?_ | intro _ | refine And.intro (by omega) ?_) | simp (config := { maxSteps := 1000000 }) (disch := (first | omega | (simp only [go_sem]; try omega))) only [go_sem, Nat.reduceAdd, Nat.reduceEqDiff, Nat.reduceLeDiff, Nat.reduceMul, Nat.reduceLT, reduceIte, Int.reduceToNat, w64_id, cast_succ])
      exact SLoop.next (y - (x + 1)) (by omega) ⟨x + 1, sq, by omega, rfl, hs, rfl, rfl⟩
  · have : x = N := by omega
    subst this
    repeat (first | (with_reducible first | refine SW.seq ?_ | refine SW.block ?_ | refine SW.rowC ?_ | refine SW.skip ?_ | refine SW.exit ?_ | intro _ | refine And.intro (by omega) ?_) | simp (config := { maxSteps := 1000000 }) (disch := (first | omega | (simp only [go_sem]; try omega))) only [go_sem, Nat.reduceAdd, Nat.reduceEqDiff, Nat.reduceLeDiff, Nat.reduceMul, Nat.reduceLT, reduceIte, Int.reduceToNat, w64_id, cast_succ])
    refine SW.ret ?_; (try simp only [go_sem]); (first | refine FunPost.one ?_ | refine FunPost.two ?_ | refine FunPost.three ?_); (try simp (config := { maxSteps := 1000000 }) (disch := (first | omega | (simp only [go_sem]; try omega))) only [go_sem, Nat.reduceAdd, Nat.reduceEqDiff, Nat.reduceLeDiff, Nat.reduceMul, Nat.reduceLT, reduceIte, Int.reduceToNat, w64_id, cast_succ])
    have hfz := froz_sqB (Hb := H) (v := x) (w := 0) (xss := sq) (ext := []) (Nat.le_refl H.length)
    rw [List.append_nil, hs.1.1] at hfz
    exact GR.froz hfz ⟨rfl, sq, hs, rfl⟩
def lisIn (n : Nat) (p : List Int) : Prop := p.length = n ∧ ∀ z ∈ p, 0 ≤ z ∧ z < (n : Int)
theorem lisIn_get {n : Nat} {p : List Int} (h : lisIn n p) {i : Nat} (hi : i < n) : ∃ k : Nat, p.getD i 0 = k ∧ k < n := by
  have hm : p.getD i 0 ∈ p := by rw [getD_get (by have := h.1; omega)]; exact List.getElem_mem _
  have := h.2 _ hm
  exact ⟨(p.getD i 0).toNat, by omega, by omega⟩
theorem l06Isotope_ok (H : List Blk) (n : Nat) (a : List (List Int)) (rows cols syms : List Int) (ha : sqIn n a) (hr : lisIn n rows) (hc : lisIn n cols) (hsy : lisIn n syms) (n1 : 1 ≤ n) (hn : n ≤ 32) : ACalls Try.prog f_spec_l06Isotope [ilSS a, ilS rows, ilS cols, ilS syms] H (fun r H' => H' = H ∧ ∃ sq, sqIn n sq ∧ r = ilSS sq) := by
  have hal := ha.1.1
  have hrl := hr.1
  have hcl := hc.1
  have hyl := hsy.1
  refine ACalls.introB s_spec_l06Isotope (by simp) ?_; intro hB hA; unfold c_spec_l06Isotope; simp (config := { maxSteps := 1000000 }) (disch := (first | omega | (simp only [go_sem]; try omega))) only [go_sem, Nat.reduceAdd, Nat.reduceEqDiff, Nat.reduceLeDiff, Nat.reduceMul, Nat.reduceLT, reduceIte, Int.reduceToNat, w64_id, cast_succ]
  repeat (first | (with_reducible first | refine SW.seq ?_ | refine SW.block ?_ | refine SW.rowC ?_ | refine SW.skip ?_ | refine SW.exit ?_ | intro _ | refine And.intro (by omega) ?_) | simp (config := { maxSteps := 1000000 }) (disch := (first | omega | (simp only [go_sem]; try omega))) only [go_sem, Nat.reduceAdd, Nat.reduceEqDiff, Nat.reduceLeDiff, Nat.reduceMul, Nat.reduceLT, reduceIte, Int.reduceToNat, w64_id, cast_succ, hal])
  refine (l06Zero_sq H n n (by omega)).mono ?_
  rintro r H1 ⟨rfl, rfl⟩
  repeat (first | (with_reducible first | refine SW.seq ?_ | refine SW.block ?_ | refine SW.rowC ?_ | refine SW.skip ?_ | refine SW.exit ?_ | intro _ | refine And.intro (by omega) ?_) | simp (config := { maxSteps := 1000000 }) (disch := (first | omega | (simp only [go_sem]; try omega))) only [go_sem, Nat.reduceAdd, Nat.reduceEqDiff, Nat.reduceLeDiff, Nat.reduceMul, Nat.reduceLT, reduceIte, Int.reduceToNat, w64_id, cast_succ])
  refine SW.loopE (fun E0 H0 q E' H' => ∃ (x : Nat) (sq : List (List Int)), x ≤ n ∧ q = n - x ∧ sqIn n sq ∧ E' = aput E0 11 (I x) ∧ H' = H ++ sqB n 0 H.length sq) n ⟨0, _, by omega, by omega, sqIn_zero n1, rfl, rfl⟩ ?_
  rintro q E' H' ⟨x, sq, hx, rfl, hs, rfl, rfl⟩
  simp (config := { maxSteps := 1000000 }) (disch := (first | omega | (simp only [go_sem]; try omega))) only [go_sem, Nat.reduceAdd, Nat.reduceEqDiff, Nat.reduceLeDiff, Nat.reduceMul, Nat.reduceLT, reduceIte, Int.reduceToNat, w64_id, cast_succ]
  repeat (first | (with_reducible first | refine SW.seq ?_ | refine SW.block ?_ | refine SW.rowC ?_ | refine SW.skip ?_ | refine SW.exit ?_ | intro _ | refine And.intro (by omega) ?_) | simp (config := { maxSteps := 1000000 }) (disch := (first | omega | (simp only [go_sem]; try omega))) only [go_sem, Nat.reduceAdd, Nat.reduceEqDiff, Nat.reduceLeDiff, Nat.reduceMul, Nat.reduceLT, reduceIte, Int.reduceToNat, w64_id, cast_succ])
  (first | refine SW.condD rfl (fun h => ?_) (fun h => ?_) | refine SW.condN rfl (fun h => ?_) (fun h => ?_) | refine SW.condNB rfl (fun h => ?_) (fun h => ?_) | refine SW.condB rfl (fun h => ?_) (fun h => ?_))
  · repeat (first | (with_reducible first | refine SW.seq ?_ | refine SW.block ?_ | refine SW.rowC ?_ | refine SW.skip ?_ | refine SW.exit ?_ | intro _ | refine And.intro (by omega) ?_) | simp (config := { maxSteps := 1000000 }) (disch := (first | omega | (simp only [go_sem]; try omega))) only [go_sem, Nat.reduceAdd, Nat.reduceEqDiff, Nat.reduceLeDiff, Nat.reduceMul, Nat.reduceLT, reduceIte, Int.reduceToNat, w64_id, cast_succ])
    have hxn : x < n := by omega
    refine SW.loopE (fun E0 H0 q E' H' => ∃ (y : Nat) (sq : List (List Int)), y ≤ n ∧ q = n - y ∧ sqIn n sq ∧ E' = aput E0 12 (I y) ∧ H' = H ++ sqB n 0 H.length sq) n ⟨0, sq, by omega, by omega, hs, rfl, rfl⟩ ?_
    clear hs
    rintro q E' H' ⟨y, sq, hy, rfl, hs, rfl, rfl⟩
    simp (config := { maxSteps := 1000000 }) (disch := (first | omega | (simp only [go_sem]; try omega))) only [go_sem, Nat.reduceAdd, Nat.reduceEqDiff, Nat.reduceLeDiff, Nat.reduceMul, Nat.reduceLT, reduceIte, Int.reduceToNat, w64_id, cast_succ]
    repeat (first | (with_reducible first | refine SW.seq ?_ | refine SW.block ?_ | refine SW.rowC ?_ | refine SW.skip ?_ | refine SW.exit ?_ | intro _ | refine And.intro (by omega) ?_) | simp (config := { maxSteps := 1000000 }) (disch := (first | omega | (simp only [go_sem]; try omega))) only [go_sem, Nat.reduceAdd, Nat.reduceEqDiff, Nat.reduceLeDiff, Nat.reduceMul, Nat.reduceLT, reduceIte, Int.reduceToNat, w64_id, cast_succ])
    (first | refine SW.condD rfl (fun h3 => ?_) (fun h3 => ?_) | refine SW.condN rfl (fun h3 => ?_) (fun h3 => ?_) | refine SW.condNB rfl (fun h3 => ?_) (fun h3 => ?_) | refine SW.condB rfl (fun h3 => ?_) (fun h3 => ?_))
    · have hyn : y < n := by omega
      obtain ⟨i, hi, hin⟩ := lisIn_get hr hxn
      obtain ⟨j, hj, hjn⟩ := lisIn_get hc hyn
      have ga := sqIn_get ha hxn hyn
      have la : (a.getD x []).length = n := ha.1.2 _ (by rw [getD_get (show x < a.length by omega)]; exact List.getElem_mem _)
      obtain ⟨u, hu⟩ := Int.eq_ofNat_of_zero_le ga.1
      have hun : u < n := by omega
      obtain ⟨w, hw, hwn⟩ := lisIn_get hsy hun
      have hsq := hs.1
      have hr1 : (sq.getD i []).length = n := hsq.2 _ (by rw [getD_get (show i < sq.length by omega)]; exact List.getElem_mem _)
      have c0 := fun s => q0w (H := H) (n := n) (w := 0) (sq := s) (ext := [])
      have c1 := qcellw (H := H) (w := 0) hsq hin
      have c2 := qtakew (H := H) (w := 0) hsq.1
      have c3 := qroww (H := H) (w := 0) (ext := []) hsq.1 hin
      have c4 := fun v => qsetw (H := H) (w := 0) (y := j) (ext := []) hsq.1 hin v
      simp only [List.append_nil] at c0 c3 c4
      repeat (first | (with_reducible first | refine SW.seq ?_ | refine SW.block ?_ | refine SW.rowC ?_ | refine SW.skip ?_ | refine SW.exit ?_ | intro _ | refine And.intro (by omega) ?_) | simp (config := { maxSteps := 1000000 }) (disch := (first | omega | (simp only [go_sem]; try omega))) only [go_sem, Nat.reduceAdd, Nat.reduceEqDiff, Nat.reduceLeDiff, Nat.reduceMul, Nat.reduceLT, reduceIte, Int.reduceToNat, w64_id, cast_succ, c0, c1, c2, c3, c4, hr1, hi, hj, hu, hw, la, hal, hrl, hcl, hyl])
      exact SLoop.next (n - (y + 1)) (by omega) ⟨y + 1, _, by omega, rfl, sqIn_set hs ⟨by omega, by omega⟩, rfl, rfl⟩
    · have : y = n := by omega
      subst this
      repeat (first | (with_reducible first | refine SW.seq ?_ | refine SW.block ?_ | refine SW.rowC ?_ | refine SW.skip ?_ | refine SW.exit ?_ | intro _ | refine And.intro (by omega) ?_) | simp (config := { maxSteps := 1000000 }) (disch := (first | omega | (simp only [go_sem]; try omega))) only [go_sem, Nat.reduceAdd, Nat.reduceEqDiff, Nat.reduceLeDiff, Nat.reduceMul, Nat.reduceLT, reduceIte, Int.reduceToNat, w64_id, cast_succ])
      exact SLoop.next (y - (x + 1)) (by omega) ⟨x + 1, sq, by omega, rfl, hs, rfl, rfl⟩
  · have : x = n := by omega
    subst this
    repeat (first | (with_reducible first | refine SW.seq ?_ | refine SW.block ?_ | refine SW.rowC ?_ | refine SW.skip ?_ | refine SW.exit ?_ | intro _ | refine And.intro (by omega) ?_) | simp (config := { maxSteps := 1000000 }) (disch := (first | omega | (simp only [go_sem]; try omega))) only [go_sem, Nat.reduceAdd, Nat.reduceEqDiff, Nat.reduceLeDiff, Nat.reduceMul, Nat.reduceLT, reduceIte, Int.reduceToNat, w64_id, cast_succ])
    refine SW.ret ?_; (try simp only [go_sem]); (first | refine FunPost.one ?_ | refine FunPost.two ?_ | refine FunPost.three ?_); (try simp (config := { maxSteps := 1000000 }) (disch := (first | omega | (simp only [go_sem]; try omega))) only [go_sem, Nat.reduceAdd, Nat.reduceEqDiff, Nat.reduceLeDiff, Nat.reduceMul, Nat.reduceLT, reduceIte, Int.reduceToNat, w64_id, cast_succ])
    have hfz := froz_sqB (Hb := H) (v := x) (w := 0) (xss := sq) (ext := []) (Nat.le_refl H.length)
    rw [List.append_nil, hs.1.1] at hfz
    exact GR.froz hfz ⟨rfl, sq, hs, rfl⟩
end Go.Proofs.Ytchehdplcbffmaa
