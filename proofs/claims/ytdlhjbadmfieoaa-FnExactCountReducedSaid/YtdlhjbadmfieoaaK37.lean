/- Reduced squares, counted. -/
import Derived.Test.YtdlhjbadmfieoaaProg
import Derived.KernelRfl
import Derived.Test.YtdlhjbadmfieoaaK34
set_option linter.unusedSimpArgs false
set_option linter.unusedVariables false
set_option maxHeartbeats 4000000
set_option maxRecDepth 100000
namespace Go.Proofs.Ytdlhjbadmfieoaa
open Go.Av

/-! The abstract code of functions, printed by program and tied to the program by the kernel. -/
/-- loop.example/g00920/laws.FnExactCountReduced -/
abbrev f_laws_FnExactCountReduced : Nat := 4
def c_laws_FnExactCountReduced : SC :=
 .seq (.reg [
     ⟨(some 4), .mv (.const (.bool false)), none⟩] [0, 1])
 (.seq (.reg [
     ⟨(some 10), .mv (.tmp 0), none⟩,
     ⟨(some 11), .mv (.tmp 1), none⟩,
     ⟨(some 12), .call 20 [(.tmp 10), (.tmp 11)], none⟩,
     ⟨(some 9), .mv (.tmp 12), none⟩,
     ⟨(some 13), .ext (.tmp 9) 0, none⟩,
     ⟨(some 14), .ext (.tmp 9) 1, none⟩,
     ⟨(some 5), .mv (.tmp 13), none⟩,
     ⟨(some 6), .mv (.tmp 14), none⟩] [0, 1, 5, 6])
 (.seq (.reg [
     ⟨(some 16), .mv (.tmp 0), none⟩,
     ⟨(some 17), .mv (.tmp 1), none⟩,
     ⟨(some 18), .call 21 [(.tmp 16), (.tmp 17)], none⟩,
     ⟨(some 15), .mv (.tmp 18), none⟩,
     ⟨(some 19), .ext (.tmp 15) 0, none⟩,
     ⟨(some 20), .ext (.tmp 15) 1, none⟩,
     ⟨(some 7), .mv (.tmp 19), none⟩,
     ⟨(some 8), .mv (.tmp 20), none⟩] [5, 6, 7, 8])
 (.seq (.seq (.reg [
     ⟨(some 21), .mv (.tmp 7), none⟩,
     ⟨(some 22), .mv (.tmp 5), none⟩,
     ⟨(some 23), .bin .neq (.tmp 21) (.tmp 22), none⟩,
     ⟨(some 24), .mv (.tmp 23), none⟩,
     ⟨(some 25), .mv (.tmp 8), (some (24, false))⟩,
     ⟨(some 26), .mv (.tmp 6), (some (24, false))⟩,
     ⟨(some 27), .bin .neq (.tmp 25) (.tmp 26), (some (24, false))⟩,
     ⟨(some 28), .pick (.tmp 24) (.const (.bool true)) (.tmp 27), none⟩] [28])
 (.cond (.tmp 28)
  (.seq (.reg [
      ⟨(some 4), .mv (.const (.bool false)), none⟩] [4])
  (.ret))
  (.skip)))
 (.seq (.reg [
     ⟨(some 4), .mv (.const (.bool true)), none⟩] [4])
 (.ret)))))
theorem s_laws_FnExactCountReduced : stripF Try.prog 4 [[0, 1], [0, 1, 5, 6], [5, 6, 7, 8], [28], [4], [4]] = some (c_laws_FnExactCountReduced, [.tmp 4], 29) := by kernel_rfl

/-- loop.example/g00920/spec.CountReduced -/
abbrev f_spec_CountReduced : Nat := 20
def c_spec_CountReduced : SC :=
 .seq (.reg [
     ⟨(some 4), .mv (.const (.int .i64 0)), none⟩,
     ⟨(some 5), .mv (.const (.int .i64 0)), none⟩] [0, 1])
 (.seq (.seq (.reg [
     ⟨(some 9), .mv (.tmp 1), none⟩,
     ⟨(some 10), .call 87 [(.tmp 9)], none⟩,
     ⟨(some 11), .un .not (.tmp 10), none⟩,
     ⟨(some 12), .mv (.tmp 11), none⟩,
     ⟨(some 13), .mv (.tmp 0), (some (12, false))⟩,
     ⟨(some 14), .call 88 [(.tmp 13), (.const (.int .i64 1)), (.const (.int .i64 5))], (some (12, false))⟩,
     ⟨(some 15), .un .not (.tmp 14), (some (12, false))⟩,
     ⟨(some 16), .pick (.tmp 12) (.const (.bool true)) (.tmp 15), none⟩] [0, 1, 16])
 (.cond (.tmp 16)
  (.seq (.reg [
      ⟨(some 4), .mv (.const (.int .i64 0)), none⟩,
      ⟨(some 5), .mv (.const (.int .i64 2)), none⟩] [4, 5])
  (.ret))
  (.skip)))
 (.seq (.reg [
     ⟨(some 17), .mv (.tmp 0), none⟩,
     ⟨(some 18), .mv (.tmp 0), none⟩,
     ⟨(some 19), .call 89 [(.tmp 17), (.tmp 18)], none⟩,
     ⟨(some 6), .mv (.tmp 19), none⟩] [0, 1, 6])
 (.seq (.seq (.reg [
     ⟨(some 7), .mv (.const (.int .i64 0)), none⟩] [0, 1, 6, 7])
 (.block 0 (.loop [0, 1, 6, 7]
   (.seq (.seq (.reg [
       ⟨(some 20), .mv (.tmp 7), none⟩,
       ⟨(some 21), .mv (.tmp 0), none⟩,
       ⟨(some 22), .bin .lss (.tmp 20) (.tmp 21), none⟩] [0, 1, 6, 7, 22])
   (.cond (.tmp 22)
    (.skip)
    (.exit 0)))
   (.seq (.block 1 (.seq (.reg [
        ⟨(some 8), .mv (.const (.int .i64 0)), none⟩] [0, 1, 6, 7, 8])
    (.block 2 (.loop [0, 1, 6, 7, 8]
      (.seq (.seq (.reg [
          ⟨(some 25), .mv (.tmp 8), none⟩,
          ⟨(some 26), .mv (.tmp 0), none⟩,
          ⟨(some 27), .bin .lss (.tmp 25) (.tmp 26), none⟩] [0, 1, 6, 7, 8, 27])
      (.cond (.tmp 27)
       (.skip)
       (.exit 2)))
      (.seq (.block 3 (.seq (.reg [
           ⟨(some 30), .mv (.tmp 6), none⟩,
           ⟨(some 31), .mv (.tmp 7), none⟩,
           ⟨(some 32), .iaddr 1 (.tmp 30) (.tmp 31), none⟩,
           ⟨(some 33), .load 1 false (.tmp 32), none⟩,
           ⟨(some 34), .mv (.tmp 8), none⟩,
           ⟨(some 35), .iaddr 1 (.tmp 33) (.tmp 34), none⟩,
           ⟨none, .store 1 (.tmp 35) (.const (.int .i64 (-1))), none⟩] [0, 1, 6, 7, 8])
       (.seq (.reg [
           ⟨(some 36), .mv (.tmp 7), none⟩,
           ⟨(some 37), .bin .eql (.tmp 36) (.const (.int .i64 0)), none⟩,
           ⟨(some 38), .mv (.tmp 37), none⟩,
           ⟨(some 39), .mv (.tmp 8), (some (38, false))⟩,
           ⟨(some 40), .bin .eql (.tmp 39) (.const (.int .i64 0)), (some (38, false))⟩,
           ⟨(some 41), .pick (.tmp 38) (.const (.bool true)) (.tmp 40), none⟩] [0, 1, 6, 7, 8, 41])
       (.cond (.tmp 41)
        (.reg [
            ⟨(some 42), .mv (.tmp 6), none⟩,
            ⟨(some 43), .mv (.tmp 7), none⟩,
            ⟨(some 44), .iaddr 1 (.tmp 42) (.tmp 43), none⟩,
            ⟨(some 45), .load 1 false (.tmp 44), none⟩,
            ⟨(some 46), .mv (.tmp 8), none⟩,
            ⟨(some 47), .mv (.tmp 7), none⟩,
            ⟨(some 48), .mv (.tmp 8), none⟩,
            ⟨(some 49), .bin .add (.tmp 47) (.tmp 48), none⟩,
            ⟨(some 50), .iaddr 1 (.tmp 45) (.tmp 46), none⟩,
            ⟨none, .store 1 (.tmp 50) (.tmp 49), none⟩] [0, 1, 6, 7, 8])
        (.skip)))))
      (.reg [
          ⟨(some 28), .mv (.tmp 8), none⟩,
          ⟨(some 29), .bin .add (.tmp 28) (.const (.int .i64 1)), none⟩,
          ⟨(some 8), .mv (.tmp 29), none⟩] [0, 1, 6, 7, 8])))))))
   (.reg [
       ⟨(some 23), .mv (.tmp 7), none⟩,
       ⟨(some 24), .bin .add (.tmp 23) (.const (.int .i64 1)), none⟩,
       ⟨(some 7), .mv (.tmp 24), none⟩] [0, 1, 6, 7]))))))
 (.seq (.reg [
     ⟨(some 51), .mv (.tmp 6), none⟩,
     ⟨(some 52), .mv (.tmp 1), none⟩,
     ⟨(some 53), .call 90 [(.tmp 51), (.const (.int .i64 1000)), (.tmp 52)], none⟩,
     ⟨(some 54), .ext (.tmp 53) 0, none⟩,
     ⟨(some 55), .ext (.tmp 53) 1, none⟩,
     ⟨(some 4), .mv (.tmp 54), none⟩,
     ⟨(some 5), .mv (.tmp 55), none⟩] [4, 5])
 (.ret)))))
theorem s_spec_CountReduced : stripF Try.prog 20 [[0, 1], [0, 1, 16], [4, 5], [0, 1, 6], [0, 1, 6, 7], [0, 1, 6, 7], [0, 1, 6, 7, 22], [0, 1, 6, 7, 8], [0, 1, 6, 7, 8], [0, 1, 6, 7, 8, 27], [0, 1, 6, 7, 8], [0, 1, 6, 7, 8, 41], [0, 1, 6, 7, 8], [0, 1, 6, 7, 8], [0, 1, 6, 7], [4, 5]] = some (c_spec_CountReduced, [.tmp 4, .tmp 5], 56) := by kernel_rfl

/-- loop.example/g00920/impl.CountReduced -/
abbrev f_impl_CountReduced : Nat := 21
def c_impl_CountReduced : SC :=
 .seq (.reg [
     ⟨(some 4), .mv (.const (.int .i64 0)), none⟩,
     ⟨(some 5), .mv (.const (.int .i64 0)), none⟩] [0, 1])
 (.seq (.seq (.reg [
     ⟨(some 7), .mv (.tmp 1), none⟩,
     ⟨(some 8), .call 91 [(.tmp 7)], none⟩,
     ⟨(some 9), .un .not (.tmp 8), none⟩,
     ⟨(some 10), .mv (.tmp 9), none⟩,
     ⟨(some 11), .mv (.tmp 0), (some (10, false))⟩,
     ⟨(some 12), .call 92 [(.tmp 11), (.const (.int .i64 1)), (.const (.int .i64 5))], (some (10, false))⟩,
     ⟨(some 13), .un .not (.tmp 12), (some (10, false))⟩,
     ⟨(some 14), .pick (.tmp 10) (.const (.bool true)) (.tmp 13), none⟩] [0, 1, 14])
 (.cond (.tmp 14)
  (.seq (.reg [
      ⟨(some 4), .mv (.const (.int .i64 0)), none⟩,
      ⟨(some 5), .mv (.const (.int .i64 2)), none⟩] [4, 5])
  (.ret))
  (.skip)))
 (.seq (.reg [
     ⟨(some 15), .mv (.tmp 0), none⟩,
     ⟨(some 16), .call 93 [(.tmp 15), (.func 94)], none⟩,
     ⟨(some 6), .mv (.tmp 16), none⟩] [1, 6])
 (.seq (.reg [
     ⟨(some 17), .mv (.tmp 6), none⟩,
     ⟨(some 18), .mv (.tmp 1), none⟩,
     ⟨(some 19), .call 33 [(.tmp 17), (.const (.int .i64 1000)), (.tmp 18)], none⟩,
     ⟨(some 20), .ext (.tmp 19) 0, none⟩,
     ⟨(some 21), .ext (.tmp 19) 1, none⟩,
     ⟨(some 4), .mv (.tmp 20), none⟩,
     ⟨(some 5), .mv (.tmp 21), none⟩] [4, 5])
 (.ret))))
theorem s_impl_CountReduced : stripF Try.prog 21 [[0, 1], [0, 1, 14], [4, 5], [1, 6], [4, 5]] = some (c_impl_CountReduced, [.tmp 4, .tmp 5], 22) := by kernel_rfl

/-- loop.example/g00920/spec.l06Zero -/
abbrev f_spec_l06Zero : Nat := 89
def c_spec_l06Zero : SC :=
 .seq (.reg [
     ⟨(some 4), .mv (.const (.slice none 0 0)), none⟩] [0, 1])
 (.seq (.reg [
     ⟨(some 7), .bslice 47 1 0 [] [], none⟩,
     ⟨(some 5), .mv (.tmp 7), none⟩] [0, 1, 5])
 (.seq (.seq (.reg [
     ⟨(some 6), .mv (.const (.int .i64 0)), none⟩] [0, 1, 5, 6])
 (.block 0 (.loop [0, 1, 5, 6]
   (.seq (.seq (.reg [
       ⟨(some 8), .mv (.tmp 6), none⟩,
       ⟨(some 9), .mv (.tmp 0), none⟩,
       ⟨(some 10), .bin .lss (.tmp 8) (.tmp 9), none⟩] [0, 1, 5, 6, 10])
   (.cond (.tmp 10)
    (.skip)
    (.exit 0)))
   (.seq (.block 1 (.reg [
        ⟨(some 13), .mv (.tmp 5), none⟩,
        ⟨(some 14), .mv (.tmp 1), none⟩,
        ⟨(some 15), .mslice 2 8 (.int .i64 0) (.tmp 14) (.tmp 14), none⟩,
        ⟨(some 16), .bslice 47 1 1 [(.slice none 0 0)] [(0, (.tmp 15))], none⟩,
        ⟨(some 17), .app 47 1 24 (.tmp 13) (.tmp 16), none⟩,
        ⟨(some 5), .mv (.tmp 17), none⟩] [0, 1, 5, 6]))
   (.reg [
       ⟨(some 11), .mv (.tmp 6), none⟩,
       ⟨(some 12), .bin .add (.tmp 11) (.const (.int .i64 1)), none⟩,
       ⟨(some 6), .mv (.tmp 12), none⟩] [0, 1, 5, 6]))))))
 (.seq (.reg [
     ⟨(some 18), .mv (.tmp 5), none⟩,
     ⟨(some 4), .mv (.tmp 18), none⟩] [4])
 (.ret))))
theorem s_spec_l06Zero : stripF Try.prog 89 [[0, 1], [0, 1, 5], [0, 1, 5, 6], [0, 1, 5, 6], [0, 1, 5, 6, 10], [0, 1, 5, 6], [0, 1, 5, 6], [4]] = some (c_spec_l06Zero, [.tmp 4], 19) := by kernel_rfl

/-- loop.example/g00920/impl.CountReduced$1 -/
abbrev f_impl_CountReduced_c1 : Nat := 94
def c_impl_CountReduced_c1 : SC :=
 .seq (.reg [
     ⟨(some 4), .mv (.const (.int .i64 0)), none⟩] [0, 1])
 (.seq (.seq (.reg [
     ⟨(some 5), .mv (.tmp 0), none⟩,
     ⟨(some 6), .bin .eql (.tmp 5) (.const (.int .i64 0)), none⟩,
     ⟨(some 7), .mv (.tmp 6), none⟩,
     ⟨(some 8), .mv (.tmp 1), (some (7, false))⟩,
     ⟨(some 9), .bin .eql (.tmp 8) (.const (.int .i64 0)), (some (7, false))⟩,
     ⟨(some 10), .pick (.tmp 7) (.const (.bool true)) (.tmp 9), none⟩] [0, 1, 10])
 (.cond (.tmp 10)
  (.seq (.reg [
      ⟨(some 11), .mv (.tmp 0), none⟩,
      ⟨(some 12), .mv (.tmp 1), none⟩,
      ⟨(some 13), .bin .add (.tmp 11) (.tmp 12), none⟩,
      ⟨(some 4), .mv (.tmp 13), none⟩] [4])
  (.ret))
  (.skip)))
 (.seq (.reg [
     ⟨(some 4), .mv (.const (.int .i64 (-1))), none⟩] [4])
 (.ret)))
theorem s_impl_CountReduced_c1 : stripF Try.prog 94 [[0, 1], [0, 1, 10], [4], [4]] = some (c_impl_CountReduced_c1, [.tmp 4], 14) := by kernel_rfl


def redF (x y : Nat) : Int := if x = 0 ∨ y = 0 then (x : Int) + y else -1
/-- The square while it is filled: y cells of row x are done. -/
def redC (n x y : Nat) : List (List Int) := (List.range n).map fun a => tab n fun b => if a < x ∨ (a = x ∧ b < y) then redF a b else 0
theorem redC_length (n x y : Nat) : (redC n x y).length = n := by simp [redC]
theorem redC_ok (n x y : Nat) : (redC n x y).length = n ∧ ∀ r ∈ redC n x y, r.length = n := by
  refine ⟨redC_length _ _ _, fun r hr => ?_⟩
  obtain ⟨a, _, rfl⟩ := List.mem_map.1 hr
  exact tab_length _ _
theorem redC_ext {n x y x' y' : Nat} (h : ∀ a b, a < n → b < n → ((a < x ∨ (a = x ∧ b < y)) ↔ (a < x' ∨ (a = x' ∧ b < y')))) : redC n x y = redC n x' y' := by
  unfold redC
  refine List.map_congr_left fun a ha => ?_
  unfold tab
  refine List.map_congr_left fun b hb => ?_
  have := h a b (List.mem_range.1 ha) (List.mem_range.1 hb)
  simp only [this]
theorem redC_next (n x : Nat) : redC n x n = redC n (x + 1) 0 := redC_ext fun a b ha hb => by omega
theorem redC_done (n : Nat) : redC n n 0 = sqF n redF n := by
  unfold redC sqF
  refine List.map_congr_left fun a ha => ?_
  unfold tab
  refine List.map_congr_left fun b hb => ?_
  have := List.mem_range.1 ha
  simp [this]
theorem redC_zero (n : Nat) : redC n 0 0 = List.replicate n (List.replicate n 0) := by
  unfold redC tab
  simp [List.map_const']
theorem redC_set {n x y : Nat} (hx : x < n) (hy : y < n) : setC (redC n x y) x y (redF x y) = redC n x (y + 1) := by
  apply List.ext_getElem
  · simp [setC, redC_length]
  · intro a h1 h2
    have ha : a < n := by rw [redC_length] at h2; exact h2
    simp only [setC, List.getElem_set]
    by_cases hax : x = a
    · subst hax
      simp only [if_true]
      apply List.ext_getElem
      · simp [redC, tab, List.getD_eq_getElem?_getD, hx]
      · intro b h3 h4
        have hb : b < n := by simpa [redC, tab, List.getD_eq_getElem?_getD, hx] using h3
        by_cases hby : y = b
        · subst hby; simp [redC, tab]
        · have e : (b < y) ↔ (b < y + 1) := by omega
          simp [redC, tab, hby, List.getD_eq_getElem?_getD, hx, e]
    · rw [if_neg hax]
      have e1 : ¬ a = x := fun h => hax h.symm
      simp [redC, tab, e1]
theorem setC_twice {sq : List (List Int)} {x y : Nat} {u v : Int} (hx : x < sq.length) : setC (setC sq x y u) x y v = setC sq x y v := by
  unfold setC
  have e : (sq.set x ((sq.getD x []).set y u)).getD x [] = (sq.getD x []).set y u := by simp [List.getD_eq_getElem?_getD, hx]
  rw [e, List.set_set, List.set_set]

section
variable {H : List Blk} {n w x y : Nat} {sq : List (List Int)} {ext : List Blk}
theorem q0w : (sqB n w H.length sq ++ ext)[0]? = some ⟨n, 47, 1, nmsV w (H.length + 1) sq⟩ := rfl
theorem qtakew (hs : sq.length = n) : (nmsV w (H.length + 1) sq).take n = nmsV w (H.length + 1) sq := List.take_of_length_le (by rw [nmsV_length]; omega)
theorem qcellw (hs : sq.length = n ∧ ∀ r ∈ sq, r.length = n) (hx : x < n) : (nmsV w (H.length + 1) sq)[x]? = some (.nm (H.length + (x + 1)) w 0 n) := by
  have hx' : x < sq.length := by omega
  have := sq_cell (Hb := H) (w := w) hx'
  rw [this, hs.2 (sq.getD x []) (by rw [getD_get hx']; exact List.getElem_mem _), show H.length + 1 + x = H.length + (x + 1) by omega]
theorem qroww (hs : sq.length = n) (hx : x < n) : (sqB n w H.length sq ++ ext)[x + 1]? = some ⟨w, 2, 1, (sq.getD x []).map I⟩ := by
  rw [List.getElem?_append_left (by rw [sqB_length]; omega)]
  simp [sqB, rowsV, List.getElem?_eq_getElem (show x < sq.length by omega)]
theorem qsetw (hs : sq.length = n) (hx : x < n) (v : Int) : (sqB n w H.length sq ++ ext).set (x + 1) ⟨w, 2, 1, ((sq.getD x []).set y v).map I⟩ = sqB n w H.length (setC sq x y v) ++ ext := by
  rw [List.set_append_left _ _ (by rw [sqB_length]; omega)]
  congr 1
  unfold sqB setC
  rw [List.set_cons_succ]
  congr 1
  · congr 1
    refine nmsV_congr _ _ ?_
    apply List.ext_getElem?
    intro i
    rw [List.getElem?_map, List.getElem?_map, List.getElem?_set]
    have hxl : x < sq.length := by omega
    by_cases hi : x = i
    · subst hi; simp [hxl]
    · simp [hi]
  · unfold rowsV
    simp only [List.map_set]
end

theorem l06Zero_sq (H : List Blk) (n m : Nat) (hn : n ≤ 1000 ∧ m ≤ 1000) :
    ACalls Try.prog f_spec_l06Zero [I n, I m] H (fun r H' => r = .nm H.length n 0 n ∧ H' = H ++ sqB n 0 H.length (List.replicate n (List.replicate m 0))) := by
  refine ACalls.introB s_spec_l06Zero (by simp) ?_; intro hB hA; unfold c_spec_l06Zero; simp (config := { maxSteps := 1000000 }) (disch := (first | omega | (simp only [go_sem]; try omega))) only [go_sem, Nat.reduceAdd, Nat.reduceEqDiff, Nat.reduceLeDiff, Nat.reduceMul, Nat.reduceLT, reduceIte, Int.reduceToNat, w64_id, cast_succ]
  repeat (first | (with_reducible first | refine SW.seq ?_ | refine SW.block ?_ | refine SW.rowC ?_ | refine SW.skip ?_ | refine SW.exit ?_ | intro _ | refine And.intro (by omega) ?_) | simp (config := { maxSteps := 1000000 }) (disch := (first | omega | (simp only [go_sem]; try omega))) only [go_sem, Nat.reduceAdd, Nat.reduceEqDiff, Nat.reduceLeDiff, Nat.reduceMul, Nat.reduceLT, reduceIte, Int.reduceToNat, w64_id, cast_succ])
  refine SW.loopE (fun E0 H0 q E' H' => ∃ i : Nat, i ≤ n ∧ q = n - i ∧ E' = aput (aput E0 6 (I i)) 5 (.nm H.length i 0 i) ∧ H' = H ++ sqB i 0 H.length (List.replicate i (List.replicate m 0))) n ⟨0, by omega, by omega, rfl, rfl⟩ ?_
  rintro q E' H' ⟨i, hi, rfl, rfl, rfl⟩
  have htl : (List.replicate i (List.replicate m (0 : Int))).length = i := by simp
  have hts : List.replicate (i + 1) (List.replicate m (0 : Int)) = List.replicate i (List.replicate m (0 : Int)) ++ [List.replicate m 0] := List.replicate_succ'
  have hrp : List.replicate m (AV.lit (Value.int .i64 0)) = (List.replicate m (0 : Int)).map I := by rw [List.map_replicate]; rfl
  have hrl : (List.replicate m (0 : Int)).length = m := by simp
  generalize hT : List.replicate i (List.replicate m (0 : Int)) = T at *
  have hL := sqB_length i 0 H.length T
  rw [htl] at hL
  simp (config := { maxSteps := 1000000 }) (disch := (first | omega | (simp only [go_sem]; try omega))) only [go_sem, Nat.reduceAdd, Nat.reduceEqDiff, Nat.reduceLeDiff, Nat.reduceMul, Nat.reduceLT, reduceIte, Int.reduceToNat, w64_id, cast_succ]
  repeat (first | (with_reducible first | refine SW.seq ?_ | refine SW.block ?_ | refine SW.rowC ?_ | refine SW.skip ?_ | refine SW.exit ?_ | intro _ | refine And.intro (by omega) ?_) | simp (config := { maxSteps := 1000000 }) (disch := (first | omega | (simp only [go_sem]; try omega))) only [go_sem, Nat.reduceAdd, Nat.reduceEqDiff, Nat.reduceLeDiff, Nat.reduceMul, Nat.reduceLT, reduceIte, Int.reduceToNat, w64_id, cast_succ])
  (first | refine SW.condD rfl (fun h => ?_) (fun h => ?_) | refine SW.condN rfl (fun h => ?_) (fun h => ?_) | refine SW.condNB rfl (fun h => ?_) (fun h => ?_) | refine SW.condB rfl (fun h => ?_) (fun h => ?_))
  · have hlt : i < n := by omega
    have hg2 : ∀ a b : Blk, (sqB i 0 H.length T ++ [a, b])[i + 2]? = some b := by
      intro a b
      rw [List.getElem?_append_right (by omega), hL, show i + 2 - (i + 1) = 1 by omega]; rfl
    have hg2' : ∀ a b : Blk, (sqB i 0 H.length T ++ [a, b])[i + 1 + 1]? = some b := hg2
    have hSq : sqB i 0 H.length T = ⟨i, 47, 1, nmsV 0 (H.length + 1) T⟩ :: rowsV 0 T := rfl
    have hnt : (nmsV 0 (H.length + 1) T).take i = nmsV 0 (H.length + 1) T := List.take_of_length_le (by rw [nmsV_length]; omega)
    have hnl := nmsV_length 0 (H.length + 1) T
    repeat (first | (with_reducible first | refine SW.seq ?_ | refine SW.block ?_ | refine SW.rowC ?_ | refine SW.skip ?_ | refine SW.exit ?_ | intro _ | refine And.intro (by omega) ?_) | simp (config := { maxSteps := 1000000 }) (disch := (first | omega | (simp only [go_sem]; try omega))) only [go_sem, Nat.reduceAdd, Nat.reduceEqDiff, Nat.reduceLeDiff, Nat.reduceMul, Nat.reduceLT, reduceIte, Int.reduceToNat, w64_id, cast_succ, hL, hg2, hg2', hrp])
    repeat (first | (with_reducible first | refine SW.seq ?_ | refine SW.block ?_ | refine SW.rowC ?_ | refine SW.skip ?_ | refine SW.exit ?_ | intro _ | refine And.intro (by omega) ?_) | simp (config := { maxSteps := 1000000 }) (disch := (first | omega | (simp only [go_sem]; try omega))) only [go_sem, Nat.reduceAdd, Nat.reduceEqDiff, Nat.reduceLeDiff, Nat.reduceMul, Nat.reduceLT, reduceIte, Int.reduceToNat, w64_id, cast_succ, hSq, hnt, hnl, htl, hrp])
    have hL1 : (sqB (i + 1) 0 H.length (T ++ [List.replicate m (0 : Int)])).length = i + 2 := by rw [sqB_length]; simp; omega
    refine SLoop.nextE (L := sqB (i + 1) 0 H.length (T ++ [List.replicate m (0 : Int)])) (n - (i + 1)) ⟨_, by rw [sqB_snoc, List.cons_append, List.append_assoc, show H.length + 1 + T.length = H.length + (i + 1) by omega, hrl]; rfl⟩ hB (by omega) (by omega) ?_ ?_ ⟨i + 1, by omega, rfl, ?_, by rw [hts]⟩
    · rw [hL1]
      (simp only [go_sem, Nat.reduceAdd, Nat.reduceEqDiff, reduceIte, go_sem, and_self, and_true, true_and, implies_true, List.take_succ_cons, List.take_zero, and_true, true_and]; try omega)
    · rw [hL1]; exact sqB_BB (by simp; omega)
    · simp [go_sem]
  · have : i = n := by omega
    subst this
    repeat (first | (with_reducible first | refine SW.seq ?_ | refine SW.block ?_ | refine SW.rowC ?_ | refine SW.skip ?_ | refine SW.exit ?_ | intro _ | refine And.intro (by omega) ?_) | simp (config := { maxSteps := 1000000 }) (disch := (first | omega | (simp only [go_sem]; try omega))) only [go_sem, Nat.reduceAdd, Nat.reduceEqDiff, Nat.reduceLeDiff, Nat.reduceMul, Nat.reduceLT, reduceIte, Int.reduceToNat, w64_id, cast_succ])
    refine SW.ret ?_; (try simp only [go_sem]); (first | refine FunPost.one ?_ | refine FunPost.two ?_ | refine FunPost.three ?_); (try simp (config := { maxSteps := 1000000 }) (disch := (first | omega | (simp only [go_sem]; try omega))) only [go_sem, Nat.reduceAdd, Nat.reduceEqDiff, Nat.reduceLeDiff, Nat.reduceMul, Nat.reduceLT, reduceIte, Int.reduceToNat, w64_id, cast_succ])
    exact GR.of ⟨rfl, by rw [hT]⟩

def crV (n b : Int) : Int × Int := if !(decide (1 ≤ b) && decide (b ≤ 20000)) || !(decide (1 ≤ n) && decide (n ≤ 5)) then (0, 2) else ccV (sqF n.toNat redF n.toNat) 1000 b
theorem red_part {n : Nat} (h1 : 1 ≤ n) (h5 : n ≤ 5) : partB (sqF n redF n) = true := by
  match n with
  | 0 => omega
  | 1 => decide
  | 2 => decide
  | 3 => decide
  | 4 => decide
  | 5 => decide
  | k + 6 => omega
theorem ccV_red {n : Nat} {b : Nat} (h1 : 1 ≤ n) (h5 : n ≤ 5) (hb : 1 ≤ b) (hb2 : b ≤ 20000) : ccV (sqF n redF n) 1000 b = (if (outS (sqF n redF n).length 1000 (sqF n redF n) b).spent then (0, 5) else (((outS (sqF n redF n).length 1000 (sqF n redF n) b).count : Int), 0)) := by
  have e1 : (1 : Int) ≤ b := by omega
  have e2 : (b : Int) ≤ 20000 := by omega
  rw [ccV, red_part h1 h5]
  simp [e1, e2]

theorem red_c1 (H : List Blk) (x y : Nat) (hx : x ≤ 10 ∧ y ≤ 10) : ACalls Try.prog f_impl_CountReduced_c1 [I x, I y] H (fun r H' => r = I (redF x y) ∧ H' = H) := by
  revert H
  intro H; refine ACalls.introB s_impl_CountReduced_c1 (by simp) ?_; intro hB hA; unfold c_impl_CountReduced_c1; simp (config := { maxSteps := 1000000 }) (disch := (first | omega | (simp only [go_sem]; try omega))) only [go_sem, Nat.reduceAdd, Nat.reduceEqDiff, Nat.reduceLeDiff, Nat.reduceMul, Nat.reduceLT, reduceIte, Int.reduceToNat, w64_id, cast_succ]
  unfold redF
  have e0 : ((0 : Nat) : Int) = 0 := rfl
  by_cases h1 : x = 0
  · subst h1
    repeat (first | (with_reducible first | refine SW.seq ?_ | refine SW.block ?_ | refine SW.rowC ?_ | refine SW.skip ?_ | refine SW.exit ?_ | intro _ | refine And.intro (by omega) ?_) | simp (config := { maxSteps := 1000000 }) (disch := (first | omega | (simp only [go_sem]; try omega))) only [go_sem, Nat.reduceAdd, Nat.reduceEqDiff, Nat.reduceLeDiff, Nat.reduceMul, Nat.reduceLT, reduceIte, Int.reduceToNat, w64_id, cast_succ, e0])
    refine SW.condT rfl ?_
    repeat (first | (with_reducible first | refine SW.seq ?_ | refine SW.block ?_ | refine SW.rowC ?_ | refine SW.skip ?_ | refine SW.exit ?_ | intro _ | refine And.intro (by omega) ?_) | simp (config := { maxSteps := 1000000 }) (disch := (first | omega | (simp only [go_sem]; try omega))) only [go_sem, Nat.reduceAdd, Nat.reduceEqDiff, Nat.reduceLeDiff, Nat.reduceMul, Nat.reduceLT, reduceIte, Int.reduceToNat, w64_id, cast_succ])
    refine SW.ret ?_; (try simp only [go_sem]); (first | refine FunPost.one ?_ | refine FunPost.two ?_ | refine FunPost.three ?_); (try simp (config := { maxSteps := 1000000 }) (disch := (first | omega | (simp only [go_sem]; try omega))) only [go_sem, Nat.reduceAdd, Nat.reduceEqDiff, Nat.reduceLeDiff, Nat.reduceMul, Nat.reduceLT, reduceIte, Int.reduceToNat, w64_id, cast_succ]); (first | (with_reducible refine GR.drop ?_ ?_; (simp only [go_sem, and_self, and_true, true_and, implies_true, List.take_succ_cons, List.take_zero])) | refine GR.of ?_); refine ⟨?_, rfl⟩; (try with_reducible rfl)
    simp
  · have e1 : ¬ ((x : Int) = 0) := by omega
    by_cases h2 : y = 0
    · subst h2
      repeat (first | (with_reducible first | refine SW.seq ?_ | refine SW.block ?_ | refine SW.rowC ?_ | refine SW.skip ?_ | refine SW.exit ?_ | intro _ | refine And.intro (by omega) ?_) | simp (config := { maxSteps := 1000000 }) (disch := (first | omega | (simp only [go_sem]; try omega))) only [go_sem, Nat.reduceAdd, Nat.reduceEqDiff, Nat.reduceLeDiff, Nat.reduceMul, Nat.reduceLT, reduceIte, Int.reduceToNat, w64_id, cast_succ, e0, e1])
      refine SW.condT rfl ?_
      repeat (first | (with_reducible first | refine SW.seq ?_ | refine SW.block ?_ | refine SW.rowC ?_ | refine SW.skip ?_ | refine SW.exit ?_ | intro _ | refine And.intro (by omega) ?_) | simp (config := { maxSteps := 1000000 }) (disch := (first | omega | (simp only [go_sem]; try omega))) only [go_sem, Nat.reduceAdd, Nat.reduceEqDiff, Nat.reduceLeDiff, Nat.reduceMul, Nat.reduceLT, reduceIte, Int.reduceToNat, w64_id, cast_succ])
      refine SW.ret ?_; (try simp only [go_sem]); (first | refine FunPost.one ?_ | refine FunPost.two ?_ | refine FunPost.three ?_); (try simp (config := { maxSteps := 1000000 }) (disch := (first | omega | (simp only [go_sem]; try omega))) only [go_sem, Nat.reduceAdd, Nat.reduceEqDiff, Nat.reduceLeDiff, Nat.reduceMul, Nat.reduceLT, reduceIte, Int.reduceToNat, w64_id, cast_succ]); (first | (with_reducible refine GR.drop ?_ ?_; (simp only [go_sem, and_self, and_true, true_and, implies_true, List.take_succ_cons, List.take_zero])) | refine GR.of ?_); refine ⟨?_, rfl⟩; (try with_reducible rfl)
      simp
    · have e2 : ¬ ((y : Int) = 0) := by omega
      repeat (first | (with_reducible first | refine SW.seq ?_ | refine SW.block ?_ | refine SW.rowC ?_ | refine SW.skip ?_ | refine SW.exit ?_ | intro _ | refine And.intro (by omega) ?_) | simp (config := { maxSteps := 1000000 }) (disch := (first | omega | (simp only [go_sem]; try omega))) only [go_sem, Nat.reduceAdd, Nat.reduceEqDiff, Nat.reduceLeDiff, Nat.reduceMul, Nat.reduceLT, reduceIte, Int.reduceToNat, w64_id, cast_succ, e1, e2])
      refine SW.condF (by first | rfl | simp [e1, e2]) ?_
      repeat (first | (with_reducible first | refine SW.seq ?_ | refine SW.block ?_ | refine SW.rowC ?_ | refine SW.skip ?_ | refine SW.exit ?_ | intro _ | refine And.intro (by omega) ?_) | simp (config := { maxSteps := 1000000 }) (disch := (first | omega | (simp only [go_sem]; try omega))) only [go_sem, Nat.reduceAdd, Nat.reduceEqDiff, Nat.reduceLeDiff, Nat.reduceMul, Nat.reduceLT, reduceIte, Int.reduceToNat, w64_id, cast_succ])
      refine SW.ret ?_; (try simp only [go_sem]); (first | refine FunPost.one ?_ | refine FunPost.two ?_ | refine FunPost.three ?_); (try simp (config := { maxSteps := 1000000 }) (disch := (first | omega | (simp only [go_sem]; try omega))) only [go_sem, Nat.reduceAdd, Nat.reduceEqDiff, Nat.reduceLeDiff, Nat.reduceMul, Nat.reduceLT, reduceIte, Int.reduceToNat, w64_id, cast_succ]); (first | (with_reducible refine GR.drop ?_ ?_; (simp only [go_sem, and_self, and_true, true_and, implies_true, List.take_succ_cons, List.take_zero])) | refine GR.of ?_); refine ⟨?_, rfl⟩; (try with_reducible rfl)
      simp [h1, h2]

theorem implReduced_fn (n b : Int) : PFn Try.prog f_impl_CountReduced [I n, I b] (.tup [I (crV n b).1, I (crV n b).2]) := by
  have hcb : callable Try.prog f_impl_CountReduced_c1 = true := by kernel_rfl
  intro H; refine ACalls.introB s_impl_CountReduced (by simp) ?_; intro hB hA; unfold c_impl_CountReduced; simp (config := { maxSteps := 1000000 }) (disch := (first | omega | (simp only [go_sem]; try omega))) only [go_sem, Nat.reduceAdd, Nat.reduceEqDiff, Nat.reduceLeDiff, Nat.reduceMul, Nat.reduceLT, reduceIte, Int.reduceToNat, w64_id, cast_succ]
  unfold crV
  cases h1 : (decide (1 ≤ b) && decide (b ≤ 20000))
  · repeat (first | (with_reducible first | refine SW.seq ?_ | refine SW.block ?_ | refine SW.rowC ?_ | refine SW.skip ?_ | refine SW.exit ?_ | refine PFn.use (isBudget_fn _) ?_ | refine PFn.useq (isBudget_fn _) ?_ | refine PFn.use (within_fn _ _ _) ?_ | refine PFn.useq (within_fn _ _ _) ?_ | intro _ | refine And.intro (by omega) ?_) | simp (config := { maxSteps := 1000000 }) (disch := (first | omega | (simp only [go_sem]; try omega))) only [go_sem, Nat.reduceAdd, Nat.reduceEqDiff, Nat.reduceLeDiff, Nat.reduceMul, Nat.reduceLT, reduceIte, Int.reduceToNat, w64_id, cast_succ, h1])
    refine SW.condT rfl ?_
    repeat (first | (with_reducible first | refine SW.seq ?_ | refine SW.block ?_ | refine SW.rowC ?_ | refine SW.skip ?_ | refine SW.exit ?_ | intro _ | refine And.intro (by omega) ?_) | simp (config := { maxSteps := 1000000 }) (disch := (first | omega | (simp only [go_sem]; try omega))) only [go_sem, Nat.reduceAdd, Nat.reduceEqDiff, Nat.reduceLeDiff, Nat.reduceMul, Nat.reduceLT, reduceIte, Int.reduceToNat, w64_id, cast_succ])
    refine SW.ret ?_; (try simp only [go_sem]); (first | refine FunPost.one ?_ | refine FunPost.two ?_ | refine FunPost.three ?_); (try simp (config := { maxSteps := 1000000 }) (disch := (first | omega | (simp only [go_sem]; try omega))) only [go_sem, Nat.reduceAdd, Nat.reduceEqDiff, Nat.reduceLeDiff, Nat.reduceMul, Nat.reduceLT, reduceIte, Int.reduceToNat, w64_id, cast_succ]); (first | (with_reducible refine GR.drop ?_ ?_; (simp only [go_sem, and_self, and_true, true_and, implies_true, List.take_succ_cons, List.take_zero])) | refine GR.of ?_); refine ⟨?_, rfl⟩; (try with_reducible rfl)
    rfl
  · cases h2 : (decide (1 ≤ n) && decide (n ≤ 5))
    · repeat (first | (with_reducible first | refine SW.seq ?_ | refine SW.block ?_ | refine SW.rowC ?_ | refine SW.skip ?_ | refine SW.exit ?_ | refine PFn.use (isBudget_fn _) ?_ | refine PFn.useq (isBudget_fn _) ?_ | refine PFn.use (within_fn _ _ _) ?_ | refine PFn.useq (within_fn _ _ _) ?_ | intro _ | refine And.intro (by omega) ?_) | simp (config := { maxSteps := 1000000 }) (disch := (first | omega | (simp only [go_sem]; try omega))) only [go_sem, Nat.reduceAdd, Nat.reduceEqDiff, Nat.reduceLeDiff, Nat.reduceMul, Nat.reduceLT, reduceIte, Int.reduceToNat, w64_id, cast_succ, h1, h2])
      refine SW.condT rfl ?_
      repeat (first | (with_reducible first | refine SW.seq ?_ | refine SW.block ?_ | refine SW.rowC ?_ | refine SW.skip ?_ | refine SW.exit ?_ | intro _ | refine And.intro (by omega) ?_) | simp (config := { maxSteps := 1000000 }) (disch := (first | omega | (simp only [go_sem]; try omega))) only [go_sem, Nat.reduceAdd, Nat.reduceEqDiff, Nat.reduceLeDiff, Nat.reduceMul, Nat.reduceLT, reduceIte, Int.reduceToNat, w64_id, cast_succ])
      refine SW.ret ?_; (try simp only [go_sem]); (first | refine FunPost.one ?_ | refine FunPost.two ?_ | refine FunPost.three ?_); (try simp (config := { maxSteps := 1000000 }) (disch := (first | omega | (simp only [go_sem]; try omega))) only [go_sem, Nat.reduceAdd, Nat.reduceEqDiff, Nat.reduceLeDiff, Nat.reduceMul, Nat.reduceLT, reduceIte, Int.reduceToNat, w64_id, cast_succ]); (first | (with_reducible refine GR.drop ?_ ?_; (simp only [go_sem, and_self, and_true, true_and, implies_true, List.take_succ_cons, List.take_zero])) | refine GR.of ?_); refine ⟨?_, rfl⟩; (try with_reducible rfl)
      rfl
    · have hb := h1
      have hl := h2
      simp only [Bool.and_eq_true, decide_eq_true_eq] at hb hl
      obtain ⟨b, rfl⟩ := Int.eq_ofNat_of_zero_le (show 0 ≤ b by omega)
      obtain ⟨n, rfl⟩ := Int.eq_ofNat_of_zero_le (show 0 ≤ n by omega)
      repeat (first | (with_reducible first | refine SW.seq ?_ | refine SW.block ?_ | refine SW.rowC ?_ | refine SW.skip ?_ | refine SW.exit ?_ | refine PFn.use (isBudget_fn _) ?_ | refine PFn.useq (isBudget_fn _) ?_ | refine PFn.use (within_fn _ _ _) ?_ | refine PFn.useq (within_fn _ _ _) ?_ | intro _ | refine And.intro (by omega) ?_) | simp (config := { maxSteps := 1000000 }) (disch := (first | omega | (simp only [go_sem]; try omega))) only [go_sem, Nat.reduceAdd, Nat.reduceEqDiff, Nat.reduceLeDiff, Nat.reduceMul, Nat.reduceLT, reduceIte, Int.reduceToNat, w64_id, cast_succ, h1, h2])
      refine SW.condF rfl ?_
      repeat (first | (with_reducible first | refine SW.seq ?_ | refine SW.block ?_ | refine SW.rowC ?_ | refine SW.skip ?_ | refine SW.exit ?_ | intro _ | refine And.intro (by omega) ?_) | simp (config := { maxSteps := 1000000 }) (disch := (first | omega | (simp only [go_sem]; try omega))) only [go_sem, Nat.reduceAdd, Nat.reduceEqDiff, Nat.reduceLeDiff, Nat.reduceMul, Nat.reduceLT, reduceIte, Int.reduceToNat, w64_id, cast_succ])
      refine (filledSquare_ok H n (by omega) f_impl_CountReduced_c1 [] redF hcb (fun x y ext hx hy => red_c1 _ x y (by omega))).mono ?_
      rintro r H1 ⟨rfl, rfl⟩
      have hsl := sqF_length n redF n
      have hcq := implCount_fn (sqF n redF n) 1000 b
      have hfz := froz_sq (Hb := H) (v := n) (w := n) (xss := sqF n redF n) (ext := [])
      rw [List.append_nil, hsl] at hfz
      repeat (first | (with_reducible first | refine SW.seq ?_ | refine SW.block ?_ | refine SW.rowC ?_ | refine SW.skip ?_ | refine SW.exit ?_ | intro _ | refine And.intro (by omega) ?_) | simp (config := { maxSteps := 1000000 }) (disch := (first | omega | (simp only [go_sem]; try omega))) only [go_sem, Nat.reduceAdd, Nat.reduceEqDiff, Nat.reduceLeDiff, Nat.reduceMul, Nat.reduceLT, reduceIte, Int.reduceToNat, w64_id, cast_succ])
      refine ((hcq.lendv (.tup2 (.I _) (.I _)) (sh_II _ _ _) (.cons hfz (.cons (.I _) (.cons (.I _) .nil))))).mono ?_
      rintro r H1 ⟨rfl, rfl⟩
      repeat (first | (with_reducible first | refine SW.seq ?_ | refine SW.block ?_ | refine SW.rowC ?_ | refine SW.skip ?_ | refine SW.exit ?_ | intro _ | refine And.intro (by omega) ?_) | simp (config := { maxSteps := 1000000 }) (disch := (first | omega | (simp only [go_sem]; try omega))) only [go_sem, Nat.reduceAdd, Nat.reduceEqDiff, Nat.reduceLeDiff, Nat.reduceMul, Nat.reduceLT, reduceIte, Int.reduceToNat, w64_id, cast_succ])
      refine SW.ret ?_; (try simp only [go_sem]); (first | refine FunPost.one ?_ | refine FunPost.two ?_ | refine FunPost.three ?_); (try simp (config := { maxSteps := 1000000 }) (disch := (first | omega | (simp only [go_sem]; try omega))) only [go_sem, Nat.reduceAdd, Nat.reduceEqDiff, Nat.reduceLeDiff, Nat.reduceMul, Nat.reduceLT, reduceIte, Int.reduceToNat, w64_id, cast_succ]); (first | (with_reducible refine GR.drop ?_ ?_; (simp only [go_sem, and_self, and_true, true_and, implies_true, List.take_succ_cons, List.take_zero])) | refine GR.of ?_); refine ⟨?_, rfl⟩; (try with_reducible rfl)
      rfl

theorem specReduced_fn (n b : Int) : PFn Try.prog f_spec_CountReduced [I n, I b] (.tup [I (crV n b).1, I (crV n b).2]) := by
  intro H; refine ACalls.introB s_spec_CountReduced (by simp) ?_; intro hB hA; unfold c_spec_CountReduced; simp (config := { maxSteps := 1000000 }) (disch := (first | omega | (simp only [go_sem]; try omega))) only [go_sem, Nat.reduceAdd, Nat.reduceEqDiff, Nat.reduceLeDiff, Nat.reduceMul, Nat.reduceLT, reduceIte, Int.reduceToNat, w64_id, cast_succ]
  unfold crV
  cases h1 : (decide (1 ≤ b) && decide (b ≤ 20000))
  · repeat (first | (with_reducible first | refine SW.seq ?_ | refine SW.block ?_ | refine SW.rowC ?_ | refine SW.skip ?_ | refine SW.exit ?_ | refine PFn.use (l09Budget_fn _) ?_ | refine PFn.useq (l09Budget_fn _) ?_ | refine PFn.use (l00In_fn _ _ _) ?_ | refine PFn.useq (l00In_fn _ _ _) ?_ | intro _ | refine And.intro (by omega) ?_) | simp (config := { maxSteps := 1000000 }) (disch := (first | omega | (simp only [go_sem]; try omega))) only [go_sem, Nat.reduceAdd, Nat.reduceEqDiff, Nat.reduceLeDiff, Nat.reduceMul, Nat.reduceLT, reduceIte, Int.reduceToNat, w64_id, cast_succ, h1])
    refine SW.condT rfl ?_
    repeat (first | (with_reducible first | refine SW.seq ?_ | refine SW.block ?_ | refine SW.rowC ?_ | refine SW.skip ?_ | refine SW.exit ?_ | intro _ | refine And.intro (by omega) ?_) | simp (config := { maxSteps := 1000000 }) (disch := (first | omega | (simp only [go_sem]; try omega))) only [go_sem, Nat.reduceAdd, Nat.reduceEqDiff, Nat.reduceLeDiff, Nat.reduceMul, Nat.reduceLT, reduceIte, Int.reduceToNat, w64_id, cast_succ])
    refine SW.ret ?_; (try simp only [go_sem]); (first | refine FunPost.one ?_ | refine FunPost.two ?_ | refine FunPost.three ?_); (try simp (config := { maxSteps := 1000000 }) (disch := (first | omega | (simp only [go_sem]; try omega))) only [go_sem, Nat.reduceAdd, Nat.reduceEqDiff, Nat.reduceLeDiff, Nat.reduceMul, Nat.reduceLT, reduceIte, Int.reduceToNat, w64_id, cast_succ]); (first | (with_reducible refine GR.drop ?_ ?_; (simp only [go_sem, and_self, and_true, true_and, implies_true, List.take_succ_cons, List.take_zero])) | refine GR.of ?_); refine ⟨?_, rfl⟩; (try with_reducible rfl)
    rfl
  · cases h2 : (decide (1 ≤ n) && decide (n ≤ 5))
    · repeat (first | (with_reducible first | refine SW.seq ?_ | refine SW.block ?_ | refine SW.rowC ?_ | refine SW.skip ?_ | refine SW.exit ?_ | refine PFn.use (l09Budget_fn _) ?_ | refine PFn.useq (l09Budget_fn _) ?_ | refine PFn.use (l00In_fn _ _ _) ?_ | refine PFn.useq (l00In_fn _ _ _) ?_ | intro _ | refine And.intro (by omega) ?_) | simp (config := { maxSteps := 1000000 }) (disch := (first | omega | (simp only [go_sem]; try omega))) only [go_sem, Nat.reduceAdd, Nat.reduceEqDiff, Nat.reduceLeDiff, Nat.reduceMul, Nat.reduceLT, reduceIte, Int.reduceToNat, w64_id, cast_succ, h1, h2])
      refine SW.condT rfl ?_
      repeat (first | (with_reducible first | refine SW.seq ?_ | refine SW.block ?_ | refine SW.rowC ?_ | refine SW.skip ?_ | refine SW.exit ?_ | intro _ | refine And.intro (by omega) ?_) | simp (config := { maxSteps := 1000000 }) (disch := (first | omega | (simp only [go_sem]; try omega))) only [go_sem, Nat.reduceAdd, Nat.reduceEqDiff, Nat.reduceLeDiff, Nat.reduceMul, Nat.reduceLT, reduceIte, Int.reduceToNat, w64_id, cast_succ])
      refine SW.ret ?_; (try simp only [go_sem]); (first | refine FunPost.one ?_ | refine FunPost.two ?_ | refine FunPost.three ?_); (try simp (config := { maxSteps := 1000000 }) (disch := (first | omega | (simp only [go_sem]; try omega))) only [go_sem, Nat.reduceAdd, Nat.reduceEqDiff, Nat.reduceLeDiff, Nat.reduceMul, Nat.reduceLT, reduceIte, Int.reduceToNat, w64_id, cast_succ]); (first | (with_reducible refine GR.drop ?_ ?_; (simp only [go_sem, and_self, and_true, true_and, implies_true, List.take_succ_cons, List.take_zero])) | refine GR.of ?_); refine ⟨?_, rfl⟩; (try with_reducible rfl)
      rfl
    · have hb := h1
      have hl := h2
      simp only [Bool.and_eq_true, decide_eq_true_eq] at hb hl
      obtain ⟨b, rfl⟩ := Int.eq_ofNat_of_zero_le (show 0 ≤ b by omega)
      obtain ⟨n, rfl⟩ := Int.eq_ofNat_of_zero_le (show 0 ≤ n by omega)
      have hcc := ccV_red (n := n) (b := b) (by omega) (by omega) (by omega) (by omega)
      have hl9 := l09Count_fn (sqF n redF n) 1000 b (red_part (by omega) (by omega)) (by omega) (by omega)
      rw [show (n : Int).toNat = n from rfl]
      simp only [Bool.not_true, Bool.or_self, Bool.false_eq_true, if_false]
      rw [hcc]
      generalize outS (sqF n redF n).length 1000 (sqF n redF n) b = st at *
      repeat (first | (with_reducible first | refine SW.seq ?_ | refine SW.block ?_ | refine SW.rowC ?_ | refine SW.skip ?_ | refine SW.exit ?_ | refine PFn.use (l09Budget_fn _) ?_ | refine PFn.useq (l09Budget_fn _) ?_ | refine PFn.use (l00In_fn _ _ _) ?_ | refine PFn.useq (l00In_fn _ _ _) ?_ | intro _ | refine And.intro (by omega) ?_) | simp (config := { maxSteps := 1000000 }) (disch := (first | omega | (simp only [go_sem]; try omega))) only [go_sem, Nat.reduceAdd, Nat.reduceEqDiff, Nat.reduceLeDiff, Nat.reduceMul, Nat.reduceLT, reduceIte, Int.reduceToNat, w64_id, cast_succ, h1, h2])
      refine SW.condF rfl ?_
      repeat (first | (with_reducible first | refine SW.seq ?_ | refine SW.block ?_ | refine SW.rowC ?_ | refine SW.skip ?_ | refine SW.exit ?_ | intro _ | refine And.intro (by omega) ?_) | simp (config := { maxSteps := 1000000 }) (disch := (first | omega | (simp only [go_sem]; try omega))) only [go_sem, Nat.reduceAdd, Nat.reduceEqDiff, Nat.reduceLeDiff, Nat.reduceMul, Nat.reduceLT, reduceIte, Int.reduceToNat, w64_id, cast_succ])
      refine (l06Zero_sq H n n (by omega)).mono ?_
      rintro r H1 ⟨rfl, rfl⟩
      rw [← redC_zero]
      repeat (first | (with_reducible first | refine SW.seq ?_ | refine SW.block ?_ | refine SW.rowC ?_ | refine SW.skip ?_ | refine SW.exit ?_ | intro _ | refine And.intro (by omega) ?_) | simp (config := { maxSteps := 1000000 }) (disch := (first | omega | (simp only [go_sem]; try omega))) only [go_sem, Nat.reduceAdd, Nat.reduceEqDiff, Nat.reduceLeDiff, Nat.reduceMul, Nat.reduceLT, reduceIte, Int.reduceToNat, w64_id, cast_succ])
      refine SW.loopE (fun E0 H0 q E' H' => ∃ x : Nat, x ≤ n ∧ q = n - x ∧ E' = aput E0 7 (I x) ∧ H' = H ++ sqB n 0 H.length (redC n x 0)) n ⟨0, by omega, by omega, rfl, rfl⟩ ?_
      rintro q E' H' ⟨x, hx, rfl, rfl, rfl⟩
      simp (config := { maxSteps := 1000000 }) (disch := (first | omega | (simp only [go_sem]; try omega))) only [go_sem, Nat.reduceAdd, Nat.reduceEqDiff, Nat.reduceLeDiff, Nat.reduceMul, Nat.reduceLT, reduceIte, Int.reduceToNat, w64_id, cast_succ]
      repeat (first | (with_reducible first | refine SW.seq ?_ | refine SW.block ?_ | refine SW.rowC ?_ | refine SW.skip ?_ | refine SW.exit ?_ | intro _ | refine And.intro (by omega) ?_) | simp (config := { maxSteps := 1000000 }) (disch := (first | omega | (simp only [go_sem]; try omega))) only [go_sem, Nat.reduceAdd, Nat.reduceEqDiff, Nat.reduceLeDiff, Nat.reduceMul, Nat.reduceLT, reduceIte, Int.reduceToNat, w64_id, cast_succ])
      (first | refine SW.condD rfl (fun h => ?_) (fun h => ?_) | refine SW.condN rfl (fun h => ?_) (fun h => ?_) | refine SW.condNB rfl (fun h => ?_) (fun h => ?_) | refine SW.condB rfl (fun h => ?_) (fun h => ?_))
      · repeat (first | (with_reducible first | refine SW.seq ?_ | refine SW.block ?_ | refine SW.rowC ?_ | refine SW.skip ?_ | refine SW.exit ?_ | intro _ | refine And.intro (by omega) ?_) | simp (config := { maxSteps := 1000000 }) (disch := (first | omega | (simp only [go_sem]; try omega))) only [go_sem, Nat.reduceAdd, Nat.reduceEqDiff, Nat.reduceLeDiff, Nat.reduceMul, Nat.reduceLT, reduceIte, Int.reduceToNat, w64_id, cast_succ])
        refine SW.loopE (fun E0 H0 q E' H' => ∃ y : Nat, y ≤ n ∧ q = n - y ∧ E' = aput E0 8 (I y) ∧ H' = H ++ sqB n 0 H.length (redC n x y)) n ⟨0, by omega, by omega, rfl, rfl⟩ ?_
        rintro q E' H' ⟨y, hy, rfl, rfl, rfl⟩
        simp (config := { maxSteps := 1000000 }) (disch := (first | omega | (simp only [go_sem]; try omega))) only [go_sem, Nat.reduceAdd, Nat.reduceEqDiff, Nat.reduceLeDiff, Nat.reduceMul, Nat.reduceLT, reduceIte, Int.reduceToNat, w64_id, cast_succ]
        repeat (first | (with_reducible first | refine SW.seq ?_ | refine SW.block ?_ | refine SW.rowC ?_ | refine SW.skip ?_ | refine SW.exit ?_ | intro _ | refine And.intro (by omega) ?_) | simp (config := { maxSteps := 1000000 }) (disch := (first | omega | (simp only [go_sem]; try omega))) only [go_sem, Nat.reduceAdd, Nat.reduceEqDiff, Nat.reduceLeDiff, Nat.reduceMul, Nat.reduceLT, reduceIte, Int.reduceToNat, w64_id, cast_succ])
        (first | refine SW.condD rfl (fun h3 => ?_) (fun h3 => ?_) | refine SW.condN rfl (fun h3 => ?_) (fun h3 => ?_) | refine SW.condNB rfl (fun h3 => ?_) (fun h3 => ?_) | refine SW.condB rfl (fun h3 => ?_) (fun h3 => ?_))
        · have hxn : x < n := by omega
          have hyn : y < n := by omega
          have hst := redC_set hxn hyn
          have hsq := redC_ok n x y
          generalize redC n x y = sq at *
          have hsq2 : (setC sq x y (-1)).length = n ∧ ∀ r ∈ setC sq x y (-1), r.length = n := setC_ok hsq
          have htw := fun v => setC_twice (sq := sq) (x := x) (y := y) (u := -1) (v := v) (by omega)
          have hr1 : (sq.getD x []).length = n := hsq.2 _ (by rw [getD_get (show x < sq.length by omega)]; exact List.getElem_mem _)
          have hr2 : ((setC sq x y (-1)).getD x []).length = n := hsq2.2 _ (by rw [getD_get (show x < (setC sq x y (-1)).length by omega)]; exact List.getElem_mem _)
          have c0 := fun s => q0w (H := H) (n := n) (w := 0) (sq := s) (ext := [])
          have c1 := qcellw (H := H) (w := 0) hsq hxn
          have c1' := qcellw (H := H) (w := 0) hsq2 hxn
          have c2 := qtakew (H := H) (w := 0) hsq.1
          have c2' := qtakew (H := H) (w := 0) hsq2.1
          have c3 := qroww (H := H) (w := 0) (ext := []) hsq.1 hxn
          have c3' := qroww (H := H) (w := 0) (ext := []) hsq2.1 hxn
          have c4 := fun v => qsetw (H := H) (w := 0) (y := y) (ext := []) hsq.1 hxn v
          have c4' := fun v => qsetw (H := H) (w := 0) (y := y) (ext := []) hsq2.1 hxn v
          simp only [List.append_nil] at c0 c3 c3' c4 c4'
          have e1 : (x : Int).toNat = x := rfl
          have dn : ∀ z : Nat, z ≠ 0 → decide ((z : Int) = 0) = false := fun z hz => by simp [hz]
          by_cases hz : x = 0 ∨ y = 0
          · have hrf : redF x y = (x : Int) + y := if_pos hz
            have d1 : (decide ((x : Int) = 0)) = true ∨ (decide ((x : Int) = 0) = false ∧ decide ((y : Int) = 0) = true) := by
              by_cases h0 : x = 0
              · exact .inl (by simp [h0])
              · exact .inr ⟨by simp [h0], by rcases hz with h | h; exact absurd h h0; simp [h]⟩
            rcases d1 with d1 | ⟨d1, d2⟩
            · repeat (first | (with_reducible first | refine SW.seq ?_ | refine SW.block ?_ | refine SW.rowC ?_ | refine SW.skip ?_ | refine SW.exit ?_ | intro _ | refine And.intro (by omega) ?_) | simp (config := { maxSteps := 1000000 }) (disch := (first | omega | (simp only [go_sem]; try omega))) only [go_sem, Nat.reduceAdd, Nat.reduceEqDiff, Nat.reduceLeDiff, Nat.reduceMul, Nat.reduceLT, reduceIte, Int.reduceToNat, w64_id, cast_succ, c0, c1, c2, c3, c4, hr1, d1])
              refine SW.condT rfl ?_
              repeat (first | (with_reducible first | refine SW.seq ?_ | refine SW.block ?_ | refine SW.rowC ?_ | refine SW.skip ?_ | refine SW.exit ?_ | intro _ | refine And.intro (by omega) ?_) | simp (config := { maxSteps := 1000000 }) (disch := (first | omega | (simp only [go_sem]; try omega))) only [go_sem, Nat.reduceAdd, Nat.reduceEqDiff, Nat.reduceLeDiff, Nat.reduceMul, Nat.reduceLT, reduceIte, Int.reduceToNat, w64_id, cast_succ, c0, c1', c2', c3', c4', hr2, htw])
              refine SLoop.next (n - (y + 1)) (by omega) ⟨y + 1, by omega, rfl, rfl, by rw [← hrf, hst]⟩
            · repeat (first | (with_reducible first | refine SW.seq ?_ | refine SW.block ?_ | refine SW.rowC ?_ | refine SW.skip ?_ | refine SW.exit ?_ | intro _ | refine And.intro (by omega) ?_) | simp (config := { maxSteps := 1000000 }) (disch := (first | omega | (simp only [go_sem]; try omega))) only [go_sem, Nat.reduceAdd, Nat.reduceEqDiff, Nat.reduceLeDiff, Nat.reduceMul, Nat.reduceLT, reduceIte, Int.reduceToNat, w64_id, cast_succ, c0, c1, c2, c3, c4, hr1, d1, d2])
              refine SW.condT rfl ?_
              repeat (first | (with_reducible first | refine SW.seq ?_ | refine SW.block ?_ | refine SW.rowC ?_ | refine SW.skip ?_ | refine SW.exit ?_ | intro _ | refine And.intro (by omega) ?_) | simp (config := { maxSteps := 1000000 }) (disch := (first | omega | (simp only [go_sem]; try omega))) only [go_sem, Nat.reduceAdd, Nat.reduceEqDiff, Nat.reduceLeDiff, Nat.reduceMul, Nat.reduceLT, reduceIte, Int.reduceToNat, w64_id, cast_succ, c0, c1', c2', c3', c4', hr2, htw])
              refine SLoop.next (n - (y + 1)) (by omega) ⟨y + 1, by omega, rfl, rfl, by rw [← hrf, hst]⟩
          · have hrf : redF x y = -1 := if_neg hz
            have d1 := dn x (fun h => hz (.inl h))
            have d2 := dn y (fun h => hz (.inr h))
            repeat (first | (with_reducible first | refine SW.seq ?_ | refine SW.block ?_ | refine SW.rowC ?_ | refine SW.skip ?_ | refine SW.exit ?_ | intro _ | refine And.intro (by omega) ?_) | simp (config := { maxSteps := 1000000 }) (disch := (first | omega | (simp only [go_sem]; try omega))) only [go_sem, Nat.reduceAdd, Nat.reduceEqDiff, Nat.reduceLeDiff, Nat.reduceMul, Nat.reduceLT, reduceIte, Int.reduceToNat, w64_id, cast_succ, c0, c1, c2, c3, c4, hr1, d1, d2])
            refine SW.condF rfl ?_
            repeat (first | (with_reducible first | refine SW.seq ?_ | refine SW.block ?_ | refine SW.rowC ?_ | refine SW.skip ?_ | refine SW.exit ?_ | intro _ | refine And.intro (by omega) ?_) | simp (config := { maxSteps := 1000000 }) (disch := (first | omega | (simp only [go_sem]; try omega))) only [go_sem, Nat.reduceAdd, Nat.reduceEqDiff, Nat.reduceLeDiff, Nat.reduceMul, Nat.reduceLT, reduceIte, Int.reduceToNat, w64_id, cast_succ])
            refine SLoop.next (n - (y + 1)) (by omega) ⟨y + 1, by omega, rfl, rfl, by rw [← hrf, hst]⟩
        · have : y = n := by omega
          subst this
          repeat (first | (with_reducible first | refine SW.seq ?_ | refine SW.block ?_ | refine SW.rowC ?_ | refine SW.skip ?_ | refine SW.exit ?_ | intro _ | refine And.intro (by omega) ?_) | simp (config := { maxSteps := 1000000 }) (disch := (first | omega | (simp only [go_sem]; try omega))) only [go_sem, Nat.reduceAdd, Nat.reduceEqDiff, Nat.reduceLeDiff, Nat.reduceMul, Nat.reduceLT, reduceIte, Int.reduceToNat, w64_id, cast_succ])
          refine SLoop.next (y - (x + 1)) (by omega) ⟨x + 1, by omega, rfl, rfl, by rw [redC_next]⟩
      · have : x = n := by omega
        subst this
        have hsl := sqF_length x redF x
        have hfz := froz_sq (Hb := H) (v := x) (w := 0) (xss := sqF x redF x) (ext := [])
        rw [List.append_nil, hsl] at hfz
        rw [redC_done]
        repeat (first | (with_reducible first | refine SW.seq ?_ | refine SW.block ?_ | refine SW.rowC ?_ | refine SW.skip ?_ | refine SW.exit ?_ | intro _ | refine And.intro (by omega) ?_) | simp (config := { maxSteps := 1000000 }) (disch := (first | omega | (simp only [go_sem]; try omega))) only [go_sem, Nat.reduceAdd, Nat.reduceEqDiff, Nat.reduceLeDiff, Nat.reduceMul, Nat.reduceLT, reduceIte, Int.reduceToNat, w64_id, cast_succ])
        refine ((hl9.lendv (.tup2 (.I _) (.I _)) (sh_II _ _ _) (.cons hfz (.cons (.I _) (.cons (.I _) .nil))))).mono ?_
        rintro r H1 ⟨rfl, rfl⟩
        repeat (first | (with_reducible first | refine SW.seq ?_ | refine SW.block ?_ | refine SW.rowC ?_ | refine SW.skip ?_ | refine SW.exit ?_ | intro _ | refine And.intro (by omega) ?_) | simp (config := { maxSteps := 1000000 }) (disch := (first | omega | (simp only [go_sem]; try omega))) only [go_sem, Nat.reduceAdd, Nat.reduceEqDiff, Nat.reduceLeDiff, Nat.reduceMul, Nat.reduceLT, reduceIte, Int.reduceToNat, w64_id, cast_succ])
        refine SW.ret ?_; (try simp only [go_sem]); (first | refine FunPost.one ?_ | refine FunPost.two ?_ | refine FunPost.three ?_); (try simp (config := { maxSteps := 1000000 }) (disch := (first | omega | (simp only [go_sem]; try omega))) only [go_sem, Nat.reduceAdd, Nat.reduceEqDiff, Nat.reduceLeDiff, Nat.reduceMul, Nat.reduceLT, reduceIte, Int.reduceToNat, w64_id, cast_succ]); (first | (with_reducible refine GR.drop ?_ ?_; (simp only [go_sem, and_self, and_true, true_and, implies_true, List.take_succ_cons, List.take_zero])) | refine GR.of ?_); refine ⟨?_, rfl⟩; (try with_reducible rfl)
        show AV.tup _ = AV.tup [I (if st.spent = true then (0, 5) else ((st.count : Int), (0 : Int))).1, I (if st.spent = true then (0, 5) else ((st.count : Int), (0 : Int))).2]
        split <;> rfl

theorem lawCountReduced_ok (H : List Blk) (n b : Int) : ACalls Try.prog f_laws_FnExactCountReduced [I n, I b] H (fun r _ => r = Bv true) := by
  have t2 := specReduced_fn n b
  have t3 := implReduced_fn n b
  generalize (crV n b).1 = a at *
  generalize (crV n b).2 = c at *
  refine ACalls.introB s_laws_FnExactCountReduced (by simp) ?_; intro hB hA; unfold c_laws_FnExactCountReduced; simp (config := { maxSteps := 1000000 }) (disch := (first | omega | (simp only [go_sem]; try omega))) only [go_sem, Nat.reduceAdd, Nat.reduceEqDiff, Nat.reduceLeDiff, Nat.reduceMul, Nat.reduceLT, reduceIte, Int.reduceToNat, w64_id, cast_succ]
  repeat (first | (with_reducible first | refine SW.seq ?_ | refine SW.block ?_ | refine SW.rowC ?_ | refine SW.skip ?_ | refine SW.exit ?_ | refine PFn.use (t2) ?_ | refine PFn.useq (t2) ?_ | refine PFn.use (t3) ?_ | refine PFn.useq (t3) ?_ | intro _ | refine And.intro (by omega) ?_) | simp (config := { maxSteps := 1000000 }) (disch := (first | omega | (simp only [go_sem]; try omega))) only [go_sem, Nat.reduceAdd, Nat.reduceEqDiff, Nat.reduceLeDiff, Nat.reduceMul, Nat.reduceLT, reduceIte, Int.reduceToNat, w64_id, cast_succ])
  refine SW.condF (by simp [go_sem]) ?_
  repeat (first | (with_reducible first | refine SW.seq ?_ | refine SW.block ?_ | refine SW.rowC ?_ | refine SW.skip ?_ | refine SW.exit ?_ | intro _ | refine And.intro (by omega) ?_) | simp (config := { maxSteps := 1000000 }) (disch := (first | omega | (simp only [go_sem]; try omega))) only [go_sem, Nat.reduceAdd, Nat.reduceEqDiff, Nat.reduceLeDiff, Nat.reduceMul, Nat.reduceLT, reduceIte, Int.reduceToNat, w64_id, cast_succ])
  refine SW.ret ?_; (try simp only [go_sem]); (first | refine FunPost.one ?_ | refine FunPost.two ?_ | refine FunPost.three ?_); (try simp (config := { maxSteps := 1000000 }) (disch := (first | omega | (simp only [go_sem]; try omega))) only [go_sem, Nat.reduceAdd, Nat.reduceEqDiff, Nat.reduceLeDiff, Nat.reduceMul, Nat.reduceLT, reduceIte, Int.reduceToNat, w64_id, cast_succ])
  exact GR.of rfl
end Go.Proofs.Ytdlhjbadmfieoaa
