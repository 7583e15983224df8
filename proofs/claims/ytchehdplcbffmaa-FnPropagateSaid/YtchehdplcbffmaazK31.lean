/- The search that completes a partial square: the program. -/
import Derived.Test.YtchehdplcbffmaaProg
import Derived.KernelRfl
import Derived.Test.YtchehdplcbffmaazQZ
import Derived.Test.YtchehdplcbffmaazK30
set_option linter.unusedSimpArgs false
set_option linter.unusedVariables false
set_option maxHeartbeats 4000000
set_option maxRecDepth 100000
namespace Go.Proofs.Ytchehdplcbffmaa
open Go.Av
abbrev f_impl_completer_search : Nat := 87
def c_impl_completer_search : SC :=
 .seq (.seq (.reg [
     ⟨(some 9), .mv (.tmp 1), none⟩,
     ⟨(some 10), .mv (.tmp 0), none⟩,
     ⟨(some 11), .nilc (.tmp 10), none⟩,
     ⟨(some 12), .faddr 3 (.tmp 11), none⟩,
     ⟨(some 13), .load 1 false (.tmp 12), none⟩,
     ⟨(some 14), .len (.tmp 13), none⟩,
     ⟨(some 15), .bin .eql (.tmp 9) (.tmp 14), none⟩] [0, 1, 15])
 (.cond (.tmp 15)
  (.seq (.seq (.reg [
      ⟨(some 16), .mv (.tmp 0), none⟩,
      ⟨(some 17), .nilc (.tmp 16), none⟩,
      ⟨(some 18), .faddr 5 (.tmp 17), none⟩,
      ⟨(some 19), .load 1 false (.tmp 18), none⟩,
      ⟨(some 20), .bin .eql (.tmp 19) (.const (.int .i64 0)), none⟩] [0, 20])
  (.cond (.tmp 20)
   (.reg [
       ⟨(some 21), .mv (.tmp 0), none⟩,
       ⟨(some 22), .mv (.tmp 0), none⟩,
       ⟨(some 23), .nilc (.tmp 22), none⟩,
       ⟨(some 24), .faddr 2 (.tmp 23), none⟩,
       ⟨(some 25), .load 1 false (.tmp 24), none⟩,
       ⟨(some 26), .call 47 [(.tmp 25)], none⟩,
       ⟨(some 27), .nilc (.tmp 21), none⟩,
       ⟨(some 28), .faddr 6 (.tmp 27), none⟩,
       ⟨none, .store 1 (.tmp 28) (.tmp 26), none⟩] [0])
   (.skip)))
  (.seq (.reg [
      ⟨(some 29), .mv (.tmp 0), none⟩,
      ⟨(some 30), .nilc (.tmp 29), none⟩,
      ⟨(some 31), .faddr 5 (.tmp 30), none⟩,
      ⟨(some 32), .load 1 false (.tmp 31), none⟩,
      ⟨(some 33), .bin .add (.tmp 32) (.const (.int .i64 1)), none⟩,
      ⟨(some 34), .nilc (.tmp 29), none⟩,
      ⟨(some 35), .faddr 5 (.tmp 34), none⟩,
      ⟨none, .store 1 (.tmp 35) (.tmp 33), none⟩] [])
  (.ret)))
  (.skip)))
 (.seq (.reg [
     ⟨(some 36), .mv (.tmp 0), none⟩,
     ⟨(some 37), .nilc (.tmp 36), none⟩,
     ⟨(some 38), .faddr 2 (.tmp 37), none⟩,
     ⟨(some 39), .load 1 false (.tmp 38), none⟩,
     ⟨(some 40), .call 42 [(.tmp 39)], none⟩,
     ⟨(some 4), .mv (.tmp 40), none⟩] [0, 1, 4])
 (.seq (.reg [
     ⟨(some 41), .mv (.tmp 0), none⟩,
     ⟨(some 42), .nilc (.tmp 41), none⟩,
     ⟨(some 43), .faddr 3 (.tmp 42), none⟩,
     ⟨(some 44), .load 1 false (.tmp 43), none⟩,
     ⟨(some 45), .mv (.tmp 1), none⟩,
     ⟨(some 46), .iaddr 1 (.tmp 44) (.tmp 45), none⟩,
     ⟨(some 47), .load 1 false (.tmp 46), none⟩,
     ⟨(some 48), .mv (.tmp 4), none⟩,
     ⟨(some 49), .bin .quo (.tmp 47) (.tmp 48), none⟩,
     ⟨(some 50), .mv (.tmp 0), none⟩,
     ⟨(some 51), .nilc (.tmp 50), none⟩,
     ⟨(some 52), .faddr 3 (.tmp 51), none⟩,
     ⟨(some 53), .load 1 false (.tmp 52), none⟩,
     ⟨(some 54), .mv (.tmp 1), none⟩,
     ⟨(some 55), .iaddr 1 (.tmp 53) (.tmp 54), none⟩,
     ⟨(some 56), .load 1 false (.tmp 55), none⟩,
     ⟨(some 57), .mv (.tmp 4), none⟩,
     ⟨(some 58), .bin .rem (.tmp 56) (.tmp 57), none⟩,
     ⟨(some 5), .mv (.tmp 49), none⟩,
     ⟨(some 6), .mv (.tmp 58), none⟩] [0, 1, 5, 6])
 (.seq (.reg [
     ⟨(some 59), .mv (.tmp 0), none⟩,
     ⟨(some 60), .nilc (.tmp 59), none⟩,
     ⟨(some 61), .faddr 2 (.tmp 60), none⟩,
     ⟨(some 62), .load 1 false (.tmp 61), none⟩,
     ⟨(some 63), .mv (.tmp 5), none⟩,
     ⟨(some 64), .mv (.tmp 6), none⟩,
     ⟨(some 65), .call 52 [(.tmp 62), (.tmp 63), (.tmp 64)], none⟩,
     ⟨(some 66), .len (.tmp 65), none⟩,
     ⟨(some 67), .mv (.const (.int .i64 0)), none⟩] [0, 1, 5, 6, 65, 66, 67])
 (.block 0 (.loop [0, 1, 5, 6, 65, 66, 67]
   (.seq (.reg [
       ⟨(some 68), .bin .lss (.tmp 67) (.tmp 66), none⟩] [0, 1, 5, 6, 65, 66, 67, 68])
   (.seq (.cond (.tmp 68)
    (.skip)
    (.exit 0))
   (.seq (.block 1 (.seq (.reg [
        ⟨(some 69), .iaddr 1 (.tmp 65) (.tmp 67), none⟩,
        ⟨(some 70), .load 1 false (.tmp 69), none⟩,
        ⟨(some 8), .mv (.tmp 70), none⟩] [0, 1, 5, 6, 8, 65, 66, 67])
    (.seq (.seq (.reg [
        ⟨(some 71), .mv (.tmp 0), none⟩,
        ⟨(some 72), .nilc (.tmp 71), none⟩,
        ⟨(some 73), .faddr 5 (.tmp 72), none⟩,
        ⟨(some 74), .load 1 false (.tmp 73), none⟩,
        ⟨(some 75), .mv (.tmp 0), none⟩,
        ⟨(some 76), .nilc (.tmp 75), none⟩,
        ⟨(some 77), .faddr 4 (.tmp 76), none⟩,
        ⟨(some 78), .load 1 false (.tmp 77), none⟩,
        ⟨(some 79), .bin .eql (.tmp 74) (.tmp 78), none⟩,
        ⟨(some 80), .mv (.tmp 79), none⟩,
        ⟨(some 81), .mv (.tmp 0), (some (80, false))⟩,
        ⟨(some 82), .nilc (.tmp 81), (some (80, false))⟩,
        ⟨(some 83), .faddr 0 (.tmp 82), (some (80, false))⟩,
        ⟨(some 84), .faddr 1 (.tmp 83), (some (80, false))⟩,
        ⟨(some 85), .load 1 false (.tmp 84), (some (80, false))⟩,
        ⟨(some 86), .pick (.tmp 80) (.const (.bool true)) (.tmp 85), none⟩,
        ⟨(some 87), .mv (.tmp 86), none⟩,
        ⟨(some 88), .mv (.tmp 0), (some (87, false))⟩,
        ⟨(some 89), .nilc (.tmp 88), (some (87, false))⟩,
        ⟨(some 90), .faddr 0 (.tmp 89), (some (87, false))⟩,
        ⟨(some 91), .call 104 [(.tmp 90)], (some (87, false))⟩,
        ⟨(some 92), .un .not (.tmp 91), (some (87, false))⟩,
        ⟨(some 93), .pick (.tmp 87) (.const (.bool true)) (.tmp 92), none⟩] [0, 1, 5, 6, 8, 65, 66, 67, 93])
    (.cond (.tmp 93)
     (.exit 0)
     (.skip)))
    (.seq (.reg [
        ⟨(some 94), .mv (.tmp 0), none⟩,
        ⟨(some 95), .nilc (.tmp 94), none⟩,
        ⟨(some 96), .faddr 2 (.tmp 95), none⟩,
        ⟨(some 97), .load 1 false (.tmp 96), none⟩,
        ⟨(some 98), .mv (.tmp 5), none⟩,
        ⟨(some 99), .iaddr 1 (.tmp 97) (.tmp 98), none⟩,
        ⟨(some 100), .load 1 false (.tmp 99), none⟩,
        ⟨(some 101), .mv (.tmp 6), none⟩,
        ⟨(some 102), .mv (.tmp 8), none⟩,
        ⟨(some 103), .iaddr 1 (.tmp 100) (.tmp 101), none⟩,
        ⟨none, .store 1 (.tmp 103) (.tmp 102), none⟩] [0, 1, 5, 6, 65, 66, 67])
    (.seq (.reg [
        ⟨(some 104), .mv (.tmp 0), none⟩,
        ⟨(some 105), .mv (.tmp 1), none⟩,
        ⟨(some 106), .bin .add (.tmp 105) (.const (.int .i64 1)), none⟩,
        ⟨(some 107), .call 87 [(.tmp 104), (.tmp 106)], none⟩] [0, 1, 5, 6, 65, 66, 67])
    (.reg [
        ⟨(some 108), .mv (.tmp 0), none⟩,
        ⟨(some 109), .nilc (.tmp 108), none⟩,
        ⟨(some 110), .faddr 2 (.tmp 109), none⟩,
        ⟨(some 111), .load 1 false (.tmp 110), none⟩,
        ⟨(some 112), .mv (.tmp 5), none⟩,
        ⟨(some 113), .iaddr 1 (.tmp 111) (.tmp 112), none⟩,
        ⟨(some 114), .load 1 false (.tmp 113), none⟩,
        ⟨(some 115), .mv (.tmp 6), none⟩,
        ⟨(some 116), .iaddr 1 (.tmp 114) (.tmp 115), none⟩,
        ⟨none, .store 1 (.tmp 116) (.const (.int .i64 (-1))), none⟩] [0, 1, 5, 6, 65, 66, 67]))))))
   (.reg [
       ⟨(some 117), .bin .add (.tmp 67) (.const (.int .i64 1)), none⟩,
       ⟨(some 67), .mv (.tmp 117), none⟩] [0, 1, 5, 6, 65, 66, 67])))))))))
theorem s_impl_completer_search : stripF Try.prog 87 [[0, 1, 15], [0, 20], [0], [], [0, 1, 4], [0, 1, 5, 6], [0, 1, 5, 6, 65, 66, 67], [0, 1, 5, 6, 65, 66, 67], [0, 1, 5, 6, 65, 66, 67, 68], [0, 1, 5, 6, 8, 65, 66, 67], [0, 1, 5, 6, 8, 65, 66, 67, 93, 1000020], [0, 1, 5, 6, 65, 66, 67], [0, 1, 5, 6, 65, 66, 67], [0, 1, 5, 6, 65, 66, 67], [0, 1, 5, 6, 65, 66, 67]] = some (c_impl_completer_search, [], 118) := by kernel_rfl
abbrev f_impl_counter_node : Nat := 104
def c_impl_counter_node : SC :=
 .seq (.reg [
     ⟨(some 2), .mv (.const (.bool false)), none⟩] [0])
 (.seq (.seq (.reg [
     ⟨(some 3), .mv (.tmp 0), none⟩,
     ⟨(some 4), .nilc (.tmp 3), none⟩,
     ⟨(some 5), .faddr 0 (.tmp 4), none⟩,
     ⟨(some 6), .load 1 false (.tmp 5), none⟩,
     ⟨(some 7), .bin .eql (.tmp 6) (.const (.int .i64 0)), none⟩] [0, 7])
 (.cond (.tmp 7)
  (.seq (.reg [
      ⟨(some 8), .mv (.tmp 0), none⟩,
      ⟨(some 9), .nilc (.tmp 8), none⟩,
      ⟨(some 10), .faddr 1 (.tmp 9), none⟩,
      ⟨none, .store 1 (.tmp 10) (.const (.bool true)), none⟩] [])
  (.seq (.reg [
      ⟨(some 2), .mv (.const (.bool false)), none⟩] [2])
  (.ret)))
  (.skip)))
 (.seq (.reg [
     ⟨(some 11), .mv (.tmp 0), none⟩,
     ⟨(some 12), .nilc (.tmp 11), none⟩,
     ⟨(some 13), .faddr 0 (.tmp 12), none⟩,
     ⟨(some 14), .load 1 false (.tmp 13), none⟩,
     ⟨(some 15), .bin .sub (.tmp 14) (.const (.int .i64 1)), none⟩,
     ⟨(some 16), .nilc (.tmp 11), none⟩,
     ⟨(some 17), .faddr 0 (.tmp 16), none⟩,
     ⟨none, .store 1 (.tmp 17) (.tmp 15), none⟩] [])
 (.seq (.reg [
     ⟨(some 2), .mv (.const (.bool true)), none⟩] [2])
 (.ret))))
theorem s_impl_counter_node : stripF Try.prog 104 [[0], [0, 7], [], [2], [], [2]] = some (c_impl_counter_node, [.tmp 2], 18) := by kernel_rfl
structure CS where
  left : Nat
  spent : Bool
  count : Nat
  first : Option (List (List Int))
def leafS (sq : List (List Int)) (st : CS) : CS := ⟨st.left, st.spent, st.count + 1, if st.count = 0 then some sq else st.first⟩
def stepS (lim : Nat) (rec : List (List Int) → CS → CS) (sq : List (List Int)) (x y : Nat) (st : CS) (v : Int) : CS :=
  if st.count = lim ∨ st.spent = true then st else if st.left = 0 then { st with spent := true } else rec (setC sq x y v) { st with left := st.left - 1 }
def srch (n lim : Nat) : List Nat → List (List Int) → CS → CS
  | [], sq, st => leafS sq st
  | c :: cs, sq, st => (cands sq (c / n) (c % n) n).foldl (stepS lim (srch n lim cs) sq (c / n) (c % n)) st
theorem fold_stop {lim : Nat} {rec : List (List Int) → CS → CS} {sq : List (List Int)} {x y : Nat} : ∀ (l : List Int) {st : CS}, (st.count = lim ∨ st.spent = true) → l.foldl (stepS lim rec sq x y) st = st
  | [], _, _ => rfl
  | v :: l, st, h => by
    rw [List.foldl_cons]
    have : stepS lim rec sq x y st v = st := by unfold stepS; rw [if_pos h]
    rw [this]; exact fold_stop l h
def Good (lim : Nat) (st : CS) : Prop := st.count ≤ lim ∧ (st.spent = true → st.count < lim) ∧ (st.first.isSome ↔ 0 < st.count)
theorem good_step {lim : Nat} {rec : List (List Int) → CS → CS} (hr : ∀ sq st, Good lim st → st.count < lim → st.spent = false → Good lim (rec sq st)) {sq : List (List Int)} {x y : Nat} {st : CS} {v : Int} (h : Good lim st) : Good lim (stepS lim rec sq x y st v) := by
  unfold stepS
  split
  · exact h
  · rename_i h1
    simp only [not_or, Bool.not_eq_true] at h1
    split
    · exact ⟨h.1, fun _ => Nat.lt_of_le_of_ne h.1 h1.1, h.2.2⟩
    · exact hr _ _ ⟨h.1, fun hs => h.2.1 hs, h.2.2⟩ (Nat.lt_of_le_of_ne h.1 h1.1) h1.2
theorem good_fold {lim : Nat} {rec : List (List Int) → CS → CS} (hr : ∀ sq st, Good lim st → st.count < lim → st.spent = false → Good lim (rec sq st)) {sq : List (List Int)} {x y : Nat} : ∀ (l : List Int) {st : CS}, Good lim st → Good lim (l.foldl (stepS lim rec sq x y) st)
  | [], _, h => h
  | v :: l, st, h => good_fold hr l (good_step hr h)
theorem good_srch (n lim : Nat) : ∀ (cs : List Nat) (sq : List (List Int)) (st : CS), Good lim st → st.count < lim → st.spent = false → Good lim (srch n lim cs sq st)
  | [], sq, st, h, hc, hs => by
    refine ⟨by show st.count + 1 ≤ lim; omega, fun h2 => ?_, ?_⟩
    · exfalso
      have : st.spent = true := h2
      rw [hs] at this; cases this
    · show (if st.count = 0 then some sq else st.first).isSome ↔ 0 < st.count + 1
      split
      · simp
      · rename_i h0; have := h.2.2.2 (by omega); simp [this]
  | c :: cs, sq, st, h, _, _ => good_fold (fun sq st h hc hs => good_srch n lim cs sq st h hc hs) _ h
theorem left_step {lim : Nat} {rec : List (List Int) → CS → CS} (hr : ∀ sq st, (rec sq st).left ≤ st.left) {sq : List (List Int)} {x y : Nat} {st : CS} {v : Int} : (stepS lim rec sq x y st v).left ≤ st.left := by
  unfold stepS
  split
  · exact Nat.le_refl _
  · split
    · exact Nat.le_refl _
    · have := hr (setC sq x y v) { st with left := st.left - 1 }
      have h2 : ({ st with left := st.left - 1 } : CS).left = st.left - 1 := rfl
      omega
theorem left_fold {lim : Nat} {rec : List (List Int) → CS → CS} (hr : ∀ sq st, (rec sq st).left ≤ st.left) {sq : List (List Int)} {x y : Nat} : ∀ (l : List Int) {st : CS}, (l.foldl (stepS lim rec sq x y) st).left ≤ st.left
  | [], _ => Nat.le_refl _
  | v :: l, st => Nat.le_trans (left_fold hr l) (left_step hr)
theorem left_srch (n lim : Nat) : ∀ (cs : List Nat) (sq : List (List Int)) (st : CS), (srch n lim cs sq st).left ≤ st.left
  | [], _, _ => Nat.le_refl _
  | c :: cs, sq, st => left_fold (fun sq st => left_srch n lim cs sq st) _
def FirstOk (n : Nat) (st : CS) : Prop := ∀ f, st.first = some f → f.length = n ∧ ∀ r ∈ f, r.length = n
theorem first_step {n lim : Nat} {rec : List (List Int) → CS → CS} {sq : List (List Int)} (hsq : sq.length = n ∧ ∀ r ∈ sq, r.length = n) (hr : ∀ sq st, (sq.length = n ∧ ∀ r ∈ sq, r.length = n) → FirstOk n st → FirstOk n (rec sq st)) {x y : Nat} {st : CS} {v : Int} (h : FirstOk n st) : FirstOk n (stepS lim rec sq x y st v) := by
  unfold stepS
  split
  · exact h
  · split
    · exact h
    · exact hr _ _ (setC_ok hsq) h
theorem first_fold {n lim : Nat} {rec : List (List Int) → CS → CS} {sq : List (List Int)} (hsq : sq.length = n ∧ ∀ r ∈ sq, r.length = n) (hr : ∀ sq st, (sq.length = n ∧ ∀ r ∈ sq, r.length = n) → FirstOk n st → FirstOk n (rec sq st)) {x y : Nat} : ∀ (l : List Int) {st : CS}, FirstOk n st → FirstOk n (l.foldl (stepS lim rec sq x y) st)
  | [], _, h => h
  | v :: l, st, h => first_fold hsq hr l (first_step hsq hr h)
theorem first_srch (n lim : Nat) : ∀ (cs : List Nat) (sq : List (List Int)) (st : CS), (sq.length = n ∧ ∀ r ∈ sq, r.length = n) → FirstOk n st → FirstOk n (srch n lim cs sq st)
  | [], sq, st, hsq, h => by
    intro f hf
    have hf' : (if st.count = 0 then some sq else st.first) = some f := hf
    split at hf'
    · cases hf'; exact hsq
    · exact h f hf'
  | c :: cs, sq, st, hsq, h => first_fold hsq (fun sq st hsq h => first_srch n lim cs sq st hsq h) _ h
theorem setC_get {sq : List (List Int)} {x y a b : Nat} {v : Int} (hne : ¬ (a = x ∧ b = y)) : cellAt (setC sq x y v) a b = cellAt sq a b := by
  unfold cellAt setC
  by_cases hax : x = a
  · subst hax
    by_cases hl : x < sq.length
    · have e : (sq.set x ((sq.getD x []).set y v)).getD x [] = (sq.getD x []).set y v := by simp [List.getD_eq_getElem?_getD, hl]
      rw [e]
      simp only [List.getD_eq_getElem?_getD]
      rw [List.getElem?_set_ne (fun h => hne ⟨rfl, h.symm⟩)]
    · rw [List.set_eq_of_length_le (by omega)]
  · simp only [List.getD_eq_getElem?_getD]
    rw [List.getElem?_set_ne hax]
theorem setC_back {sq : List (List Int)} {x y : Nat} {v : Int} (hx : x < sq.length) (hy : y < (sq.getD x []).length) (h : cellAt sq x y = -1) : setC (setC sq x y v) x y (-1) = sq := by
  unfold setC
  have e : (sq.set x ((sq.getD x []).set y v)).getD x [] = (sq.getD x []).set y v := by simp [List.getD_eq_getElem?_getD, hx]
  rw [e, List.set_set, List.set_set]
  have e2 : (sq.getD x []).set y (-1) = sq.getD x [] := by
    rw [← h]
    unfold cellAt
    rw [getD_get hy]; exact List.set_getElem_self hy
  rw [e2, getD_get hx]; exact List.set_getElem_self hx
abbrev tyCo : Nat := 64
theorem node_ok (H : List Blk) (p ty left : Nat) (spent : Bool) (rest : List AV) (hl : left ≤ 1000000000) (hp : H[p]? = some ⟨0, ty, 1, I left :: Bv spent :: rest⟩) :
    ACalls Try.prog f_impl_counter_node [.pc p 0 0] H (fun r H' => (left = 0 ∧ r = Bv false ∧ H' = H.set p ⟨0, ty, 1, I left :: Bv true :: rest⟩) ∨ (left ≠ 0 ∧ r = Bv true ∧ H' = H.set p ⟨0, ty, 1, I ((left - 1 : Nat) : Int) :: Bv spent :: rest⟩)) := by
  refine ACalls.introB s_impl_counter_node (by simp) ?_; intro hB hA; unfold c_impl_counter_node; simp (config := { maxSteps := 1000000 }) (disch := (first | omega | (simp only [go_sem]; try omega))) only [go_sem, Nat.reduceAdd, Nat.reduceEqDiff, Nat.reduceLeDiff, Nat.reduceMul, Nat.reduceLT, reduceIte, Int.reduceToNat, w64_id, cast_succ]
  repeat (first | (with_reducible first | refine SW.seq ?_ | refine SW.block ?_ | refine SW.rowC ?_ | refine SW.skip ?_ | refine SW.exit ?_ | intro _ | refine And.intro (by omega) ?_) | simp (config := { maxSteps := 1000000 }) (disch := (first | omega | (simp only [go_sem]; try omega))) only [go_sem, Nat.reduceAdd, Nat.reduceEqDiff, Nat.reduceLeDiff, Nat.reduceMul, Nat.reduceLT, reduceIte, Int.reduceToNat, w64_id, cast_succ, pc_ld hp, pc_alive hp])
  (first | refine SW.condD rfl (fun h => ?_) (fun h => ?_) | refine SW.condN rfl (fun h => ?_) (fun h => ?_) | refine SW.condNB rfl (fun h => ?_) (fun h => ?_) | refine SW.condB rfl (fun h => ?_) (fun h => ?_))
  · have h0 : left = 0 := by omega
    repeat (first | (with_reducible first | refine SW.seq ?_ | refine SW.block ?_ | refine SW.rowC ?_ | refine SW.skip ?_ | refine SW.exit ?_ | intro _ | refine And.intro (by omega) ?_) | simp (config := { maxSteps := 1000000 }) (disch := (first | omega | (simp only [go_sem]; try omega))) only [go_sem, Nat.reduceAdd, Nat.reduceEqDiff, Nat.reduceLeDiff, Nat.reduceMul, Nat.reduceLT, reduceIte, Int.reduceToNat, w64_id, cast_succ, pc_ld hp, pc_alive hp, pc_st hp])
    refine SW.ret ?_; (try simp only [go_sem]); (first | refine FunPost.one ?_ | refine FunPost.two ?_ | refine FunPost.three ?_); (try simp (config := { maxSteps := 1000000 }) (disch := (first | omega | (simp only [go_sem]; try omega))) only [go_sem, Nat.reduceAdd, Nat.reduceEqDiff, Nat.reduceLeDiff, Nat.reduceMul, Nat.reduceLT, reduceIte, Int.reduceToNat, w64_id, cast_succ])
    exact GR.of (.inl ⟨h0, rfl, rfl⟩)
  · have h0 : left ≠ 0 := by omega
    have e : (left : Int) - 1 = ((left - 1 : Nat) : Int) := by omega
    repeat (first | (with_reducible first | refine SW.seq ?_ | refine SW.block ?_ | refine SW.rowC ?_ | refine SW.skip ?_ | refine SW.exit ?_ | intro _ | refine And.intro (by omega) ?_) | simp (config := { maxSteps := 1000000 }) (disch := (first | omega | (simp only [go_sem]; try omega))) only [go_sem, Nat.reduceAdd, Nat.reduceEqDiff, Nat.reduceLeDiff, Nat.reduceMul, Nat.reduceLT, reduceIte, Int.reduceToNat, w64_id, cast_succ, pc_ld hp, pc_alive hp, pc_st hp, e])
    refine SW.ret ?_; (try simp only [go_sem]); (first | refine FunPost.one ?_ | refine FunPost.two ?_ | refine FunPost.three ?_); (try simp (config := { maxSteps := 1000000 }) (disch := (first | omega | (simp only [go_sem]; try omega))) only [go_sem, Nat.reduceAdd, Nat.reduceEqDiff, Nat.reduceLeDiff, Nat.reduceMul, Nat.reduceLT, reduceIte, Int.reduceToNat, w64_id, cast_succ])
    exact GR.of (.inr ⟨h0, rfl, rfl⟩)
theorem froz_sq {Hb : List Blk} {v w : Nat} {xss : List (List Int)} {ext : List Blk} : Froz (Hb ++ (sqB v w Hb.length xss ++ ext)) 0 (.nm Hb.length v 0 xss.length) (ilSS xss) := by
  refine .nm Hb.length v 0 xss.length _ (xss.map ilS) (Nat.zero_le _) sq_get0 rfl (by simp [nmsV_length]) ?_
  simp only [List.drop_zero, Nat.mul_one]
  rw [List.take_of_length_le (by rw [nmsV_length]; exact Nat.le_refl _)]
  intro j c c' hc hc'
  rw [List.getElem?_map] at hc'
  have hl : j < xss.length := by
    have := (List.getElem?_eq_some_iff.1 hc).1
    rw [nmsV_length] at this; exact this
  rw [sq_cell hl] at hc
  rw [List.getElem?_eq_getElem hl] at hc'
  cases hc
  simp only [Option.map_some, Option.some.injEq] at hc'
  subst hc'
  have e : xss.getD j [] = xss[j] := by simp [hl]
  have := sq_get (Hb := Hb) (v := v) (w := w) (ext := ext) hl
  rw [e] at this ⊢
  exact froz_rowI (Nat.zero_le _) this
def fAV (n k : Nat) : Option (List (List Int)) → AV
  | none => nilS
  | some _ => .nm (k + (n + 2)) n 0 n
def fB (n k : Nat) : Option (List (List Int)) → List Blk
  | none => []
  | some f => sqB n 1 (k + (n + 2)) f
def cB (n lim k : Nat) (cells : List Nat) (st : CS) : Blk := ⟨0, tyCo, 1, [I st.left, Bv st.spent, .nm k n 0 n, ilS (natL cells), I lim, I st.count, fAV n k st.first]⟩
def hpC (H : List Blk) (n lim : Nat) (cells : List Nat) (sq : List (List Int)) (st : CS) : List Blk := H ++ (sqB n 1 H.length sq ++ cB n lim H.length cells st :: fB n H.length st.first)
section
variable {H : List Blk} {n x y : Nat} {sq : List (List Int)} {ext : List Blk}
theorem q0 : (sqB n 1 H.length sq ++ ext)[0]? = some ⟨n, 33, 1, nmsV 1 (H.length + 1) sq⟩ := rfl
theorem qtake (hs : sq.length = n) : (nmsV 1 (H.length + 1) sq).take n = nmsV 1 (H.length + 1) sq := List.take_of_length_le (by rw [nmsV_length]; omega)
theorem qcell (hs : sq.length = n ∧ ∀ r ∈ sq, r.length = n) (hx : x < n) : (nmsV 1 (H.length + 1) sq)[x]? = some (.nm (H.length + (x + 1)) 1 0 n) := by
  have hx' : x < sq.length := by omega
  have := sq_cell (Hb := H) (w := 1) hx'
  rw [this, hs.2 (sq.getD x []) (by rw [getD_get hx']; exact List.getElem_mem _), show H.length + 1 + x = H.length + (x + 1) by omega]
theorem qrow (hs : sq.length = n) (hx : x < n) : (sqB n 1 H.length sq ++ ext)[x + 1]? = some ⟨1, 2, 1, (sq.getD x []).map I⟩ := by
  rw [List.getElem?_append_left (by rw [sqB_length]; omega)]
  simp [sqB, rowsV, List.getElem?_eq_getElem (show x < sq.length by omega)]
theorem qset (hs : sq.length = n) (hx : x < n) (v : Int) : (sqB n 1 H.length sq ++ ext).set (x + 1) ⟨1, 2, 1, ((sq.getD x []).set y v).map I⟩ = sqB n 1 H.length (setC sq x y v) ++ ext := by
  rw [List.set_append_left _ _ (by rw [sqB_length]; omega)]
  congr 1
  unfold sqB setC
  rw [List.set_cons_succ]
  congr 1
  · congr 1
    refine nmsV_congr _ _ ?_
    apply List.ext_getElem?
    intro i
    rw [List.getElem?_map, List.getElem?_map, List.getElem?_set]
    have hxl : x < sq.length := by omega
    by_cases hi : x = i
    · subst hi; simp [hxl]
    · simp [hi]
  · unfold rowsV
    simp only [List.map_set]
end
theorem search_ok (n lim : Nat) (hn : 1 ≤ n ∧ n ≤ 10) (hlim : lim ≤ 1000) (cells : List Nat) (hcl : ∀ c ∈ cells, c < n * n) : ∀ (cs dn : List Nat), cells = dn ++ cs → cs.Nodup → ∀ (H : List Blk) (sq : List (List Int)) (st : CS), (sq.length = n ∧ ∀ r ∈ sq, r.length = n) → (∀ c ∈ cs, cellAt sq (c / n) (c % n) = -1) →
    Good lim st → FirstOk n st → st.count < lim → st.spent = false → st.left ≤ 1000000 →
    ACalls Try.prog f_impl_completer_search [.pc (H.length + (n + 1)) 0 0, I dn.length] (hpC H n lim cells sq st) (fun r H' => H' = hpC H n lim cells sq (srch n lim cs sq st)) := by
  intro cs
  induction cs with
  | nil =>
    intro dn hdn _ H sq st hsq _ hgood _ hct hsp hleft
    rw [List.append_nil] at hdn
    subst hdn
    have hQ := sqB_length n 1 H.length sq
    rw [hsq.1] at hQ
    have hrd : RdSS (hpC H n lim cells sq st) (.nm H.length n 0 n) sq := by
      have := sq_rd (Hb := H) (v := n) (w := 1) (xss := sq) (ext := cB n lim H.length cells st :: fB n H.length st.first)
      rw [hsq.1] at this
      exact this
    have hnl : (natL cells).length = cells.length := by simp [natL]
    obtain ⟨left, spent, count, first⟩ := st
    simp only at hct hsp hleft
    subst hsp
    unfold hpC cB
    simp only [srch, leafS]
    have hg1 := fun (b : Blk) (r : List Blk) => getAt hQ b r
    have hs1 := fun (b c : Blk) (r : List Blk) => setAt hQ b c r
    refine ACalls.introB s_impl_completer_search (by simp) ?_; intro hB hA; unfold c_impl_completer_search; simp (config := { maxSteps := 1000000 }) (disch := (first | omega | (simp only [go_sem]; try omega))) only [go_sem, Nat.reduceAdd, Nat.reduceEqDiff, Nat.reduceLeDiff, Nat.reduceMul, Nat.reduceLT, reduceIte, Int.reduceToNat, w64_id, cast_succ]
    repeat (first | (with_reducible first | refine SW.seq ?_ | refine SW.block ?_ | refine SW.rowC ?_ | refine SW.skip ?_ | refine SW.exit ?_ | intro _ | refine And.intro (by omega) ?_) | simp (config := { maxSteps := 1000000 }) (disch := (first | omega | (simp only [go_sem]; try omega))) only [go_sem, Nat.reduceAdd, Nat.reduceEqDiff, Nat.reduceLeDiff, Nat.reduceMul, Nat.reduceLT, reduceIte, Int.reduceToNat, w64_id, cast_succ, hg1, hs1, hnl])
    refine SW.condT rfl ?_
    by_cases h0 : count = 0
    · subst h0
      have hf0 : first = none := by
        cases first with
        | none => rfl
        | some f => have := hgood.2.2.1 rfl; simp at this
      subst hf0
      repeat (first | (with_reducible first | refine SW.seq ?_ | refine SW.block ?_ | refine SW.rowC ?_ | refine SW.skip ?_ | refine SW.exit ?_ | intro _ | refine And.intro (by omega) ?_) | simp (config := { maxSteps := 1000000 }) (disch := (first | omega | (simp only [go_sem]; try omega))) only [go_sem, Nat.reduceAdd, Nat.reduceEqDiff, Nat.reduceLeDiff, Nat.reduceMul, Nat.reduceLT, reduceIte, Int.reduceToNat, w64_id, cast_succ, hg1, hs1])
      refine SW.condT rfl ?_
      repeat (first | (with_reducible first | refine SW.seq ?_ | refine SW.block ?_ | refine SW.rowC ?_ | refine SW.skip ?_ | refine SW.exit ?_ | intro _ | refine And.intro (by omega) ?_) | simp (config := { maxSteps := 1000000 }) (disch := (first | omega | (simp only [go_sem]; try omega))) only [go_sem, Nat.reduceAdd, Nat.reduceEqDiff, Nat.reduceLeDiff, Nat.reduceMul, Nat.reduceLT, reduceIte, Int.reduceToNat, w64_id, cast_succ, hg1, hs1])
      refine (copyLists_sq _ _ n sq hrd (by omega) (fun r hr => ⟨fun h => by have := hsq.2 r hr; rw [h] at this; simp at this; omega, by have := hsq.2 r hr; omega⟩)).mono ?_
      rintro r H1 ⟨rfl, rfl⟩
      unfold hpC cB
      rw [hsq.1]
      have e2 : n + 1 + 1 = n + 2 := rfl
      have e3 : n + 1 + (0 + 1) = n + 2 := rfl
      have f1 : fB n H.length none = [] := rfl
      have f2 : fAV n H.length none = nilS := rfl
      have f3 : fB n H.length (some sq) = sqB n 1 (H.length + (n + 2)) sq := rfl
      have f4 : fAV n H.length (some sq) = .nm (H.length + (n + 2)) n 0 n := rfl
      repeat (first | (with_reducible first | refine SW.seq ?_ | refine SW.block ?_ | refine SW.rowC ?_ | refine SW.skip ?_ | refine SW.exit ?_ | intro _ | refine And.intro (by omega) ?_) | simp (config := { maxSteps := 1000000 }) (disch := (first | omega | (simp only [go_sem]; try omega))) only [go_sem, Nat.reduceAdd, Nat.reduceEqDiff, Nat.reduceLeDiff, Nat.reduceMul, Nat.reduceLT, reduceIte, Int.reduceToNat, w64_id, cast_succ, hg1, hs1, hQ, f1, f2, f3, f4, e2, e3])
      refine SW.ret ?_
      exact ⟨_, rfl, GR.of rfl⟩
    · have h0' : ¬ (count : Int) = 0 := by omega
      repeat (first | (with_reducible first | refine SW.seq ?_ | refine SW.block ?_ | refine SW.rowC ?_ | refine SW.skip ?_ | refine SW.exit ?_ | intro _ | refine And.intro (by omega) ?_) | simp (config := { maxSteps := 1000000 }) (disch := (first | omega | (simp only [go_sem]; try omega))) only [go_sem, Nat.reduceAdd, Nat.reduceEqDiff, Nat.reduceLeDiff, Nat.reduceMul, Nat.reduceLT, reduceIte, Int.reduceToNat, w64_id, cast_succ, hg1, hs1, h0'])
      refine SW.condF rfl ?_
      repeat (first | (with_reducible first | refine SW.seq ?_ | refine SW.block ?_ | refine SW.rowC ?_ | refine SW.skip ?_ | refine SW.exit ?_ | intro _ | refine And.intro (by omega) ?_) | simp (config := { maxSteps := 1000000 }) (disch := (first | omega | (simp only [go_sem]; try omega))) only [go_sem, Nat.reduceAdd, Nat.reduceEqDiff, Nat.reduceLeDiff, Nat.reduceMul, Nat.reduceLT, reduceIte, Int.reduceToNat, w64_id, cast_succ, hg1, hs1])
      rw [if_neg h0]
      refine SW.ret ?_
      exact ⟨_, rfl, GR.of rfl⟩
  | cons c cs ih =>
    intro dn hdn hnd H sq st hsq hemp hgood hfirst hct hsp hleft
    have hc : c < n * n := hcl c (by rw [hdn]; simp)
    have hx : c / n < n := Nat.div_lt_of_lt_mul hc
    have hy : c % n < n := Nat.mod_lt _ (by omega)
    have hQ := sqB_length n 1 H.length sq
    rw [hsq.1] at hQ
    have hnl : (natL cells).length = cells.length := by simp [natL]
    have hlen : dn.length < cells.length := by rw [hdn]; simp
    have hcg : (natL cells).getD dn.length 0 = (c : Int) := by rw [hdn]; simp [natL]
    have hd1 : (c : Int).tdiv n = ((c / n : Nat) : Int) := (Int.ofNat_tdiv c n).symm
    have hd2 : (c : Int).tmod n = ((c % n : Nat) : Int) := (Int.ofNat_tmod c n).symm
    have hn0 : (n : Int) ≠ 0 := by omega
    have hxb : c / n ≤ 10 := by omega
    have hg1 := fun (b : Blk) (r : List Blk) => getAt hQ b r
    have hs1 := fun (b c : Blk) (r : List Blk) => setAt hQ b c r
    have hfz : ∀ ext, Froz (H ++ (sqB n 1 H.length sq ++ ext)) 0 (.nm H.length n 0 n) (ilSS sq) := fun ext => by
      have := froz_sq (Hb := H) (v := n) (w := 1) (xss := sq) (ext := ext)
      rw [hsq.1] at this
      exact this
    have hcan := candidates_new sq (c / n) (c % n) (by omega) (by omega) (fun r hr => by rw [hsq.2 r hr]; exact hy)
    rw [hsq.1] at hcan
    have hcm : ∀ v ∈ cands sq (c / n) (c % n) n, 0 ≤ v ∧ v < n := fun v hv => cands_mem hv
    have hsr : srch n lim (c :: cs) sq st = (cands sq (c / n) (c % n) n).foldl (stepS lim (srch n lim cs) sq (c / n) (c % n)) st := rfl
    rw [hsr]
    clear hsr
    have hll := cands_len sq (c / n) (c % n) n
    have hcell := hemp c (by simp)
    have hemp2 : ∀ v, ∀ c' ∈ cs, cellAt (setC sq (c / n) (c % n) v) (c' / n) (c' % n) = -1 := by
      intro v c' hc'
      rw [setC_get, hemp c' (by simp [hc'])]
      rintro ⟨h1, h2⟩
      have : c' = c := by rw [← Nat.div_add_mod c' n, ← Nat.div_add_mod c n, h1, h2]
      subst this
      exact (List.nodup_cons.1 hnd).1 hc'
    have ih2 := fun (sq' : List (List Int)) (st' : CS) => ih (dn ++ [c]) (by rw [hdn]; simp) (List.nodup_cons.1 hnd).2 H sq' st'
    simp only [List.length_append, List.length_singleton] at ih2
    clear ih
    generalize hLd : cands sq (c / n) (c % n) n = L at *
    generalize hxd : c / n = x at *
    generalize hyd : c % n = y at *
    have e0 : hpC H n lim cells sq st = H ++ (sqB n 1 H.length sq ++ cB n lim H.length cells st :: fB n H.length st.first) := rfl
    rw [e0]
    have hst0 : st.left ≤ 1000000 := hleft
    have hw1 : w64 (x : Int) = x := w64_id (by omega) (by omega)
    unfold cB
    have hll0 := hgood.1
    refine ACalls.introB s_impl_completer_search (by simp) ?_; intro hB hA; unfold c_impl_completer_search; simp (config := { maxSteps := 1000000 }) (disch := (first | omega | (simp only [go_sem]; try omega))) only [go_sem, Nat.reduceAdd, Nat.reduceEqDiff, Nat.reduceLeDiff, Nat.reduceMul, Nat.reduceLT, reduceIte, Int.reduceToNat, w64_id, cast_succ]
    repeat (first | (with_reducible first | refine SW.seq ?_ | refine SW.block ?_ | refine SW.rowC ?_ | refine SW.skip ?_ | refine SW.exit ?_ | intro _ | refine And.intro (by omega) ?_) | simp (config := { maxSteps := 1000000 }) (disch := (first | omega | (simp only [go_sem]; try omega))) only [go_sem, Nat.reduceAdd, Nat.reduceEqDiff, Nat.reduceLeDiff, Nat.reduceMul, Nat.reduceLT, reduceIte, Int.reduceToNat, w64_id, cast_succ, hg1, hs1, hnl])
    (first | refine SW.condD rfl (fun h1 => ?_) (fun h1 => ?_) | refine SW.condN rfl (fun h1 => ?_) (fun h1 => ?_) | refine SW.condNB rfl (fun h1 => ?_) (fun h1 => ?_) | refine SW.condB rfl (fun h1 => ?_) (fun h1 => ?_))
    · exfalso; omega
    repeat (first | (with_reducible first | refine SW.seq ?_ | refine SW.block ?_ | refine SW.rowC ?_ | refine SW.skip ?_ | refine SW.exit ?_ | intro _ | refine And.intro (by omega) ?_) | simp (config := { maxSteps := 1000000 }) (disch := (first | omega | (simp only [go_sem]; try omega))) only [go_sem, Nat.reduceAdd, Nat.reduceEqDiff, Nat.reduceLeDiff, Nat.reduceMul, Nat.reduceLT, reduceIte, Int.reduceToNat, w64_id, cast_succ, hg1, hs1])
    refine PFn.usel (sizeS_fn sq) (.cons (hfz _) .nil) ?_
    rw [hsq.1]
    repeat (first | (with_reducible first | refine SW.seq ?_ | refine SW.block ?_ | refine SW.rowC ?_ | refine SW.skip ?_ | refine SW.exit ?_ | intro _ | refine And.intro (by omega) ?_) | simp (config := { maxSteps := 1000000 }) (disch := (first | omega | (simp only [go_sem]; try omega))) only [go_sem, Nat.reduceAdd, Nat.reduceEqDiff, Nat.reduceLeDiff, Nat.reduceMul, Nat.reduceLT, reduceIte, Int.reduceToNat, w64_id, cast_succ, hg1, hs1, hnl, hcg, hd1, hd2, hn0, hw1])
    refine ((hcan.lendf (.cons (hfz _) (.cons (.I _) (.cons (.I _) .nil))))).mono ?_
    rintro r H1 ⟨rfl, rfl⟩
    repeat (first | (with_reducible first | refine SW.seq ?_ | refine SW.block ?_ | refine SW.rowC ?_ | refine SW.skip ?_ | refine SW.exit ?_ | intro _ | refine And.intro (by omega) ?_) | simp (config := { maxSteps := 1000000 }) (disch := (first | omega | (simp only [go_sem]; try omega))) only [go_sem, Nat.reduceAdd, Nat.reduceEqDiff, Nat.reduceLeDiff, Nat.reduceMul, Nat.reduceLT, reduceIte, Int.reduceToNat, w64_id, cast_succ])
    refine SW.loopE (fun E0 H0 q E' H' => ∃ (pre post : List Int), L = pre ++ post ∧ q = post.length ∧ E' = aput E0 67 (I pre.length) ∧ H' = hpC H n lim cells sq (pre.foldl (stepS lim (srch n lim cs) sq x y) st) ∧ (pre.foldl (stepS lim (srch n lim cs) sq x y) st).left ≤ 1000000) L.length ⟨[], L, rfl, rfl, rfl, rfl, hst0⟩ ?_
    rintro q E' H' ⟨pre, post, hq, rfl, rfl, rfl, hlf⟩
    have hgd2 : Good lim (pre.foldl (stepS lim (srch n lim cs) sq x y) st) := good_fold (fun sq st h hc hs => good_srch n lim cs sq st h hc hs) pre hgood
    have hfo2 : FirstOk n (pre.foldl (stepS lim (srch n lim cs) sq x y) st) := first_fold hsq (fun sq st hs h => first_srch n lim cs sq st hs h) pre hfirst
    have hfold : ∀ l, (pre ++ l).foldl (stepS lim (srch n lim cs) sq x y) st = l.foldl (stepS lim (srch n lim cs) sq x y) (pre.foldl (stepS lim (srch n lim cs) sq x y) st) := fun l => List.foldl_append
    have hfin : L.foldl (stepS lim (srch n lim cs) sq x y) st = post.foldl (stepS lim (srch n lim cs) sq x y) (pre.foldl (stepS lim (srch n lim cs) sq x y) st) := by rw [hq]; exact hfold post
    rw [hfin]
    generalize pre.foldl (stepS lim (srch n lim cs) sq x y) st = s at *
    obtain ⟨l2, sp2, ct2, fi2⟩ := s
    have e1 : hpC H n lim cells sq ⟨l2, sp2, ct2, fi2⟩ = H ++ (sqB n 1 H.length sq ++ ⟨0, tyCo, 1, [I l2, Bv sp2, .nm H.length n 0 n, ilS (natL cells), I lim, I ct2, fAV n H.length fi2]⟩ :: fB n H.length fi2) := rfl
    simp only at hlf
    have hc2 := hgd2.1
    simp only at hc2
    simp (config := { maxSteps := 1000000 }) (disch := (first | omega | (simp only [go_sem]; try omega))) only [go_sem, Nat.reduceAdd, Nat.reduceEqDiff, Nat.reduceLeDiff, Nat.reduceMul, Nat.reduceLT, reduceIte, Int.reduceToNat, w64_id, cast_succ]
    rw [e1]
    repeat (first | (with_reducible first | refine SW.seq ?_ | refine SW.block ?_ | refine SW.rowC ?_ | refine SW.skip ?_ | refine SW.exit ?_ | intro _ | refine And.intro (by omega) ?_) | simp (config := { maxSteps := 1000000 }) (disch := (first | omega | (simp only [go_sem]; try omega))) only [go_sem, Nat.reduceAdd, Nat.reduceEqDiff, Nat.reduceLeDiff, Nat.reduceMul, Nat.reduceLT, reduceIte, Int.reduceToNat, w64_id, cast_succ])
    (first | refine SW.condD rfl (fun h => ?_) (fun h => ?_) | refine SW.condN rfl (fun h => ?_) (fun h => ?_) | refine SW.condNB rfl (fun h => ?_) (fun h => ?_) | refine SW.condB rfl (fun h => ?_) (fun h => ?_))
    · obtain ⟨v, post, rfl, hgv, -⟩ := consOf (d := 0) hq (by omega)
      have hv := hcm v (by rw [hq]; simp)
      have stop : (ct2 = lim ∨ sp2 = true) → hpC H n lim cells sq ((v :: post).foldl (stepS lim (srch n lim cs) sq x y) ⟨l2, sp2, ct2, fi2⟩) = hpC H n lim cells sq ⟨l2, sp2, ct2, fi2⟩ := fun h => by rw [fold_stop _ h]
      by_cases hcl2 : ct2 = lim
      · have stop' := stop (.inl hcl2)
        subst hcl2
        repeat (first | (with_reducible first | refine SW.seq ?_ | refine SW.block ?_ | refine SW.rowC ?_ | refine SW.skip ?_ | refine SW.exit ?_ | intro _ | refine And.intro (by omega) ?_) | simp (config := { maxSteps := 1000000 }) (disch := (first | omega | (simp only [go_sem]; try omega))) only [go_sem, Nat.reduceAdd, Nat.reduceEqDiff, Nat.reduceLeDiff, Nat.reduceMul, Nat.reduceLT, reduceIte, Int.reduceToNat, w64_id, cast_succ, hgv, hg1, hs1])
        refine SW.condT rfl ?_
        repeat (first | (with_reducible first | refine SW.seq ?_ | refine SW.block ?_ | refine SW.rowC ?_ | refine SW.skip ?_ | refine SW.exit ?_ | intro _ | refine And.intro (by omega) ?_) | simp (config := { maxSteps := 1000000 }) (disch := (first | omega | (simp only [go_sem]; try omega))) only [go_sem, Nat.reduceAdd, Nat.reduceEqDiff, Nat.reduceLeDiff, Nat.reduceMul, Nat.reduceLT, reduceIte, Int.reduceToNat, w64_id, cast_succ])
        exact ⟨_, rfl, GR.of (by rw [stop']; rfl)⟩
      have hclI : ¬ (ct2 : Int) = lim := by omega
      cases sp2 with
      | true =>
        repeat (first | (with_reducible first | refine SW.seq ?_ | refine SW.block ?_ | refine SW.rowC ?_ | refine SW.skip ?_ | refine SW.exit ?_ | intro _ | refine And.intro (by omega) ?_) | simp (config := { maxSteps := 1000000 }) (disch := (first | omega | (simp only [go_sem]; try omega))) only [go_sem, Nat.reduceAdd, Nat.reduceEqDiff, Nat.reduceLeDiff, Nat.reduceMul, Nat.reduceLT, reduceIte, Int.reduceToNat, w64_id, cast_succ, hgv, hg1, hs1, hclI])
        refine SW.condT rfl ?_
        repeat (first | (with_reducible first | refine SW.seq ?_ | refine SW.block ?_ | refine SW.rowC ?_ | refine SW.skip ?_ | refine SW.exit ?_ | intro _ | refine And.intro (by omega) ?_) | simp (config := { maxSteps := 1000000 }) (disch := (first | omega | (simp only [go_sem]; try omega))) only [go_sem, Nat.reduceAdd, Nat.reduceEqDiff, Nat.reduceLeDiff, Nat.reduceMul, Nat.reduceLT, reduceIte, Int.reduceToNat, w64_id, cast_succ])
        exact ⟨_, rfl, GR.of (by rw [stop (.inr rfl)]; rfl)⟩
      | false =>
        repeat (first | (with_reducible first | refine SW.seq ?_ | refine SW.block ?_ | refine SW.rowC ?_ | refine SW.skip ?_ | refine SW.exit ?_ | intro _ | refine And.intro (by omega) ?_) | simp (config := { maxSteps := 1000000 }) (disch := (first | omega | (simp only [go_sem]; try omega))) only [go_sem, Nat.reduceAdd, Nat.reduceEqDiff, Nat.reduceLeDiff, Nat.reduceMul, Nat.reduceLT, reduceIte, Int.reduceToNat, w64_id, cast_succ, hgv, hg1, hs1, hclI])
        refine (node_ok _ (H.length + (n + 1)) tyCo l2 false [.nm H.length n 0 n, ilS (natL cells), I lim, I ct2, fAV n H.length fi2] (by omega) (by rw [List.getElem?_append_right (by omega), Nat.add_sub_cancel_left]; exact hg1 _ _)).mono ?_
        have hset : ∀ (C D : Blk) (F : List Blk), (H ++ (sqB n 1 H.length sq ++ C :: F)).set (H.length + (n + 1)) D = H ++ (sqB n 1 H.length sq ++ D :: F) := by
          intro C D F
          rw [List.set_append_right _ _ (by omega), Nat.add_sub_cancel_left, hs1]
        rintro r H1 (⟨h0, rfl, rfl⟩ | ⟨h0, rfl, rfl⟩)
        · subst h0
          rw [hset]
          repeat (first | (with_reducible first | refine SW.seq ?_ | refine SW.block ?_ | refine SW.rowC ?_ | refine SW.skip ?_ | refine SW.exit ?_ | intro _ | refine And.intro (by omega) ?_) | simp (config := { maxSteps := 1000000 }) (disch := (first | omega | (simp only [go_sem]; try omega))) only [go_sem, Nat.reduceAdd, Nat.reduceEqDiff, Nat.reduceLeDiff, Nat.reduceMul, Nat.reduceLT, reduceIte, Int.reduceToNat, w64_id, cast_succ])
          refine SW.condT rfl ?_
          repeat (first | (with_reducible first | refine SW.seq ?_ | refine SW.block ?_ | refine SW.rowC ?_ | refine SW.skip ?_ | refine SW.exit ?_ | intro _ | refine And.intro (by omega) ?_) | simp (config := { maxSteps := 1000000 }) (disch := (first | omega | (simp only [go_sem]; try omega))) only [go_sem, Nat.reduceAdd, Nat.reduceEqDiff, Nat.reduceLeDiff, Nat.reduceMul, Nat.reduceLT, reduceIte, Int.reduceToNat, w64_id, cast_succ])
          refine ⟨_, rfl, GR.of ?_⟩
          have hs : stepS lim (srch n lim cs) sq x y ⟨0, false, ct2, fi2⟩ v = ⟨0, true, ct2, fi2⟩ := by
            unfold stepS; rw [if_neg (by simp [hcl2]), if_pos rfl]
          rw [List.foldl_cons, hs, fold_stop _ (.inr rfl)]
          rfl
        · rw [hset]
          repeat (first | (with_reducible first | refine SW.seq ?_ | refine SW.block ?_ | refine SW.rowC ?_ | refine SW.skip ?_ | refine SW.exit ?_ | intro _ | refine And.intro (by omega) ?_) | simp (config := { maxSteps := 1000000 }) (disch := (first | omega | (simp only [go_sem]; try omega))) only [go_sem, Nat.reduceAdd, Nat.reduceEqDiff, Nat.reduceLeDiff, Nat.reduceMul, Nat.reduceLT, reduceIte, Int.reduceToNat, w64_id, cast_succ])
          refine SW.condF rfl ?_
          have hrowl : (sq.getD x []).length = n := hsq.2 _ (by rw [getD_get (by omega)]; exact List.getElem_mem _)
          have htk : ((sq.getD x []).map I).take n = (sq.getD x []).map I := List.take_of_length_le (by simp only [List.length_map]; omega)
          have t0 := fun ext => q0 (H := H) (n := n) (sq := sq) (ext := ext)
          have t1 := qtake (H := H) hsq.1
          have t2 := qcell (H := H) hsq hx
          have t3 := fun ext => qrow (H := H) (ext := ext) hsq.1 hx
          have t4 := fun ext => qset (H := H) (ext := ext) (y := y) hsq.1 hx v
          repeat (first | (with_reducible first | refine SW.seq ?_ | refine SW.block ?_ | refine SW.rowC ?_ | refine SW.skip ?_ | refine SW.exit ?_ | intro _ | refine And.intro (by omega) ?_) | simp (config := { maxSteps := 1000000 }) (disch := (first | omega | (simp only [go_sem]; try omega))) only [go_sem, Nat.reduceAdd, Nat.reduceEqDiff, Nat.reduceLeDiff, Nat.reduceMul, Nat.reduceLT, reduceIte, Int.reduceToNat, w64_id, cast_succ, hg1, hs1, hQ, t0, t1, t2, t3, htk, hrowl, t4])
          have hsq2 := setC_ok (v := v) (x := x) (y := y) hsq
          have hgood2 : Good lim ⟨l2 - 1, false, ct2, fi2⟩ := by
            refine ⟨hgd2.1, ?_, hgd2.2.2⟩
            intro h; cases h
          have hih := ih2 (setC sq x y v) ⟨l2 - 1, false, ct2, fi2⟩ hsq2 (hemp2 v) hgood2 hfo2 (by show ct2 < lim; omega) rfl (by show l2 - 1 ≤ 1000000; omega)
          refine hih.mono ?_
          rintro r H1 rfl
          have hstep : stepS lim (srch n lim cs) sq x y ⟨l2, false, ct2, fi2⟩ v = srch n lim cs (setC sq x y v) ⟨l2 - 1, false, ct2, fi2⟩ := by
            unfold stepS; rw [if_neg (by simp [hcl2]), if_neg h0]
          have hf1 := hfold [v]
          rw [List.foldl_cons, List.foldl_nil, hstep] at hf1
          have hl3 := left_srch n lim cs (setC sq x y v) ⟨l2 - 1, false, ct2, fi2⟩
          rw [List.foldl_cons, hstep]
          generalize srch n lim cs (setC sq x y v) ⟨l2 - 1, false, ct2, fi2⟩ = s3 at *
          obtain ⟨l3, sp3, ct3, fi3⟩ := s3
          have e3 : hpC H n lim cells (setC sq x y v) ⟨l3, sp3, ct3, fi3⟩ = H ++ (sqB n 1 H.length (setC sq x y v) ++ ⟨0, tyCo, 1, [I l3, Bv sp3, .nm H.length n 0 n, ilS (natL cells), I lim, I ct3, fAV n H.length fi3]⟩ :: fB n H.length fi3) := rfl
          rw [e3]
          have hback := setC_back (sq := sq) (x := x) (y := y) (v := v) (by omega) (by omega) hcell
          have hQ2 := sqB_length n 1 H.length (setC sq x y v)
          rw [hsq2.1] at hQ2
          generalize setC sq x y v = sq2 at *
          have hg2 := fun (b : Blk) (r : List Blk) => getAt hQ2 b r
          have hs2 := fun (b c : Blk) (r : List Blk) => setAt hQ2 b c r
          have hrowl2 : (sq2.getD x []).length = n := hsq2.2 _ (by rw [getD_get (by omega)]; exact List.getElem_mem _)
          have htk2 : ((sq2.getD x []).map I).take n = (sq2.getD x []).map I := List.take_of_length_le (by simp only [List.length_map]; omega)
          have u0 := fun ext => q0 (H := H) (n := n) (sq := sq2) (ext := ext)
          have u1 := qtake (H := H) hsq2.1
          have u2 := qcell (H := H) hsq2 hx
          have u3 := fun ext => qrow (H := H) (ext := ext) hsq2.1 hx
          have u4 := fun ext => qset (H := H) (ext := ext) (y := y) hsq2.1 hx (-1)
          rw [hback] at u4
          repeat (first | (with_reducible first | refine SW.seq ?_ | refine SW.block ?_ | refine SW.rowC ?_ | refine SW.skip ?_ | refine SW.exit ?_ | intro _ | refine And.intro (by omega) ?_) | simp (config := { maxSteps := 1000000 }) (disch := (first | omega | (simp only [go_sem]; try omega))) only [go_sem, Nat.reduceAdd, Nat.reduceEqDiff, Nat.reduceLeDiff, Nat.reduceMul, Nat.reduceLT, reduceIte, Int.reduceToNat, w64_id, cast_succ, hg2, hs2, hQ2, u0, u1, u2, u3, htk2, hrowl2, u4])
          refine SLoop.next post.length (by simp) ⟨pre ++ [v], post, by simp [hq], rfl, ?_, ?_, ?_⟩
          · simp [go_sem]
          · rw [hf1]; rfl
          · rw [hf1]; show l3 ≤ 1000000
            have : l3 ≤ l2 - 1 := hl3
            omega
    · have hlt : ¬ pre.length < L.length := by omega
      obtain ⟨rfl, rfl⟩ := nilOf hq hlt
      repeat (first | (with_reducible first | refine SW.seq ?_ | refine SW.block ?_ | refine SW.rowC ?_ | refine SW.skip ?_ | refine SW.exit ?_ | intro _ | refine And.intro (by omega) ?_) | simp (config := { maxSteps := 1000000 }) (disch := (first | omega | (simp only [go_sem]; try omega))) only [go_sem, Nat.reduceAdd, Nat.reduceEqDiff, Nat.reduceLeDiff, Nat.reduceMul, Nat.reduceLT, reduceIte, Int.reduceToNat, w64_id, cast_succ])
      exact ⟨_, rfl, GR.of rfl⟩
end Go.Proofs.Ytchehdplcbffmaa
