/- The cycles of a permutation. -/
import Derived.Test.YtkifdjjnbplghaaProg
import Derived.KernelRfl
import Derived.Test.YtkifdjjnbplghaaVB
set_option linter.unusedSimpArgs false
set_option linter.unusedVariables false
set_option maxHeartbeats 4000000
set_option maxRecDepth 100000
namespace Go.Proofs.Ytkifdjjnbplghaa
open Go.Av

/-! The abstract code of functions, printed by program and tied to the program by the kernel. -/
/-- loop.example/g00920/spec.l04Cycles -/
abbrev f_spec_l04Cycles : Nat := 59
def c_spec_l04Cycles : SC :=
 .seq (.reg [
     ⟨(some 2), .mv (.const (.slice none 0 0)), none⟩] [0])
 (.seq (.reg [
     ⟨(some 8), .bslice 25 1 0 [] [], none⟩,
     ⟨(some 3), .mv (.tmp 8), none⟩] [0, 3])
 (.seq (.reg [
     ⟨(some 9), .mv (.tmp 0), none⟩,
     ⟨(some 10), .len (.tmp 9), none⟩,
     ⟨(some 11), .mslice 4 1 (.bool false) (.tmp 10) (.tmp 10), none⟩,
     ⟨(some 4), .mv (.tmp 11), none⟩] [0, 3, 4])
 (.seq (.seq (.reg [
     ⟨(some 5), .mv (.const (.int .i64 0)), none⟩] [0, 3, 4, 5])
 (.block 0 (.loop [0, 3, 4, 5]
   (.seq (.seq (.reg [
       ⟨(some 12), .mv (.tmp 5), none⟩,
       ⟨(some 13), .mv (.tmp 0), none⟩,
       ⟨(some 14), .len (.tmp 13), none⟩,
       ⟨(some 15), .bin .lss (.tmp 12) (.tmp 14), none⟩] [0, 3, 4, 5, 15])
   (.cond (.tmp 15)
    (.skip)
    (.exit 0)))
   (.seq (.block 1 (.seq (.seq (.reg [
        ⟨(some 18), .mv (.tmp 4), none⟩,
        ⟨(some 19), .mv (.tmp 5), none⟩,
        ⟨(some 20), .iaddr 1 (.tmp 18) (.tmp 19), none⟩,
        ⟨(some 21), .load 1 false (.tmp 20), none⟩] [0, 3, 4, 5, 21])
    (.cond (.tmp 21)
     (.exit 1)
     (.skip)))
    (.seq (.reg [
        ⟨(some 22), .bslice 2 1 0 [] [], none⟩,
        ⟨(some 6), .mv (.tmp 22), none⟩] [0, 3, 4, 5, 6])
    (.seq (.seq (.reg [
        ⟨(some 23), .mv (.tmp 5), none⟩,
        ⟨(some 7), .mv (.tmp 23), none⟩] [0, 3, 4, 5, 6, 7])
    (.block 2 (.loop [0, 3, 4, 5, 6, 7]
      (.seq (.seq (.reg [
          ⟨(some 24), .mv (.tmp 4), none⟩,
          ⟨(some 25), .mv (.tmp 7), none⟩,
          ⟨(some 26), .iaddr 1 (.tmp 24) (.tmp 25), none⟩,
          ⟨(some 27), .load 1 false (.tmp 26), none⟩,
          ⟨(some 28), .un .not (.tmp 27), none⟩] [0, 3, 4, 5, 6, 7, 28])
      (.cond (.tmp 28)
       (.skip)
       (.exit 2)))
      (.seq (.block 3 (.seq (.reg [
           ⟨(some 33), .mv (.tmp 4), none⟩,
           ⟨(some 34), .mv (.tmp 7), none⟩,
           ⟨(some 35), .iaddr 1 (.tmp 33) (.tmp 34), none⟩,
           ⟨none, .store 1 (.tmp 35) (.const (.bool true)), none⟩] [0, 3, 4, 5, 6, 7])
       (.reg [
           ⟨(some 36), .mv (.tmp 6), none⟩,
           ⟨(some 37), .mv (.tmp 7), none⟩,
           ⟨(some 38), .bslice 2 1 1 [(.int .i64 0)] [(0, (.tmp 37))], none⟩,
           ⟨(some 39), .app 2 1 8 (.tmp 36) (.tmp 38), none⟩,
           ⟨(some 6), .mv (.tmp 39), none⟩] [0, 3, 4, 5, 6, 7])))
      (.reg [
          ⟨(some 29), .mv (.tmp 0), none⟩,
          ⟨(some 30), .mv (.tmp 7), none⟩,
          ⟨(some 31), .iaddr 1 (.tmp 29) (.tmp 30), none⟩,
          ⟨(some 32), .load 1 false (.tmp 31), none⟩,
          ⟨(some 7), .mv (.tmp 32), none⟩] [0, 3, 4, 5, 6, 7]))))))
    (.reg [
        ⟨(some 40), .mv (.tmp 3), none⟩,
        ⟨(some 41), .mv (.tmp 6), none⟩,
        ⟨(some 42), .bslice 25 1 1 [(.slice none 0 0)] [(0, (.tmp 41))], none⟩,
        ⟨(some 43), .app 25 1 24 (.tmp 40) (.tmp 42), none⟩,
        ⟨(some 3), .mv (.tmp 43), none⟩] [0, 3, 4, 5])))))
   (.reg [
       ⟨(some 16), .mv (.tmp 5), none⟩,
       ⟨(some 17), .bin .add (.tmp 16) (.const (.int .i64 1)), none⟩,
       ⟨(some 5), .mv (.tmp 17), none⟩] [0, 3, 4, 5]))))))
 (.seq (.reg [
     ⟨(some 44), .mv (.tmp 3), none⟩,
     ⟨(some 2), .mv (.tmp 44), none⟩] [2])
 (.ret)))))
theorem s_spec_l04Cycles : stripF Try.prog 59 [[0], [0, 3], [0, 3, 4], [0, 3, 4, 5], [0, 3, 4, 5], [0, 3, 4, 5, 15], [0, 3, 4, 5, 21], [0, 3, 4, 5, 6], [0, 3, 4, 5, 6, 7], [0, 3, 4, 5, 6, 7], [0, 3, 4, 5, 6, 7, 28], [0, 3, 4, 5, 6, 7], [0, 3, 4, 5, 6, 7], [0, 3, 4, 5, 6, 7], [0, 3, 4, 5], [0, 3, 4, 5], [2]] = some (c_spec_l04Cycles, [.tmp 2], 45) := by kernel_rfl

/-- loop.example/g00920/impl.cyclesOf -/
abbrev f_impl_cyclesOf : Nat := 62
def c_impl_cyclesOf : SC :=
 .seq (.reg [
     ⟨(some 2), .mv (.const (.slice none 0 0)), none⟩] [0])
 (.seq (.reg [
     ⟨(some 8), .mv (.tmp 0), none⟩,
     ⟨(some 9), .len (.tmp 8), none⟩,
     ⟨(some 10), .mslice 4 1 (.bool false) (.tmp 9) (.tmp 9), none⟩,
     ⟨(some 3), .mv (.tmp 10), none⟩] [0, 3])
 (.seq (.reg [
     ⟨(some 4), .mv (.const (.slice none 0 0)), none⟩] [0, 3, 4])
 (.seq (.seq (.reg [
     ⟨(some 11), .mv (.tmp 0), none⟩,
     ⟨(some 12), .len (.tmp 11), none⟩,
     ⟨(some 13), .mv (.const (.int .i64 0)), none⟩] [0, 3, 4, 12, 13])
 (.block 0 (.loop [0, 3, 4, 12, 13]
   (.seq (.reg [
       ⟨(some 14), .bin .lss (.tmp 13) (.tmp 12), none⟩] [0, 3, 4, 12, 13, 14])
   (.seq (.cond (.tmp 14)
    (.skip)
    (.exit 0))
   (.seq (.block 1 (.seq (.reg [
        ⟨(some 15), .mv (.tmp 13), none⟩,
        ⟨(some 5), .mv (.tmp 15), none⟩] [0, 3, 4, 5, 12, 13])
    (.seq (.reg [
        ⟨(some 6), .mv (.const (.slice none 0 0)), none⟩] [0, 3, 4, 5, 6, 12, 13])
    (.seq (.seq (.reg [
        ⟨(some 16), .mv (.tmp 5), none⟩,
        ⟨(some 7), .mv (.tmp 16), none⟩] [0, 3, 4, 6, 7, 12, 13])
    (.block 2 (.loop [0, 3, 4, 6, 7, 12, 13]
      (.seq (.seq (.reg [
          ⟨(some 17), .mv (.tmp 3), none⟩,
          ⟨(some 18), .mv (.tmp 7), none⟩,
          ⟨(some 19), .iaddr 1 (.tmp 17) (.tmp 18), none⟩,
          ⟨(some 20), .load 1 false (.tmp 19), none⟩,
          ⟨(some 21), .un .not (.tmp 20), none⟩] [0, 3, 4, 6, 7, 12, 13, 21])
      (.cond (.tmp 21)
       (.skip)
       (.exit 2)))
      (.seq (.block 3 (.seq (.reg [
           ⟨(some 26), .mv (.tmp 3), none⟩,
           ⟨(some 27), .mv (.tmp 7), none⟩,
           ⟨(some 28), .iaddr 1 (.tmp 26) (.tmp 27), none⟩,
           ⟨none, .store 1 (.tmp 28) (.const (.bool true)), none⟩] [0, 3, 4, 6, 7, 12, 13])
       (.reg [
           ⟨(some 29), .mv (.tmp 6), none⟩,
           ⟨(some 30), .mv (.tmp 7), none⟩,
           ⟨(some 31), .bslice 2 1 1 [(.int .i64 0)] [(0, (.tmp 30))], none⟩,
           ⟨(some 32), .app 2 1 8 (.tmp 29) (.tmp 31), none⟩,
           ⟨(some 6), .mv (.tmp 32), none⟩] [0, 3, 4, 6, 7, 12, 13])))
      (.reg [
          ⟨(some 22), .mv (.tmp 0), none⟩,
          ⟨(some 23), .mv (.tmp 7), none⟩,
          ⟨(some 24), .iaddr 1 (.tmp 22) (.tmp 23), none⟩,
          ⟨(some 25), .load 1 false (.tmp 24), none⟩,
          ⟨(some 7), .mv (.tmp 25), none⟩] [0, 3, 4, 6, 7, 12, 13]))))))
    (.seq (.reg [
        ⟨(some 33), .mv (.tmp 6), none⟩,
        ⟨(some 34), .len (.tmp 33), none⟩,
        ⟨(some 35), .bin .gtr (.tmp 34) (.const (.int .i64 0)), none⟩] [0, 3, 4, 6, 12, 13, 35])
    (.cond (.tmp 35)
     (.reg [
         ⟨(some 36), .mv (.tmp 4), none⟩,
         ⟨(some 37), .mv (.tmp 6), none⟩,
         ⟨(some 38), .bslice 25 1 1 [(.slice none 0 0)] [(0, (.tmp 37))], none⟩,
         ⟨(some 39), .app 25 1 24 (.tmp 36) (.tmp 38), none⟩,
         ⟨(some 4), .mv (.tmp 39), none⟩] [0, 3, 4, 12, 13])
     (.skip)))))))
   (.reg [
       ⟨(some 40), .bin .add (.tmp 13) (.const (.int .i64 1)), none⟩,
       ⟨(some 13), .mv (.tmp 40), none⟩] [0, 3, 4, 12, 13])))))))
 (.seq (.reg [
     ⟨(some 41), .mv (.tmp 4), none⟩,
     ⟨(some 2), .mv (.tmp 41), none⟩] [2])
 (.ret)))))
theorem s_impl_cyclesOf : stripF Try.prog 62 [[0], [0, 3], [0, 3, 4], [0, 3, 4, 12, 13], [0, 3, 4, 12, 13], [0, 3, 4, 12, 13, 14], [0, 3, 4, 5, 12, 13], [0, 3, 4, 5, 6, 12, 13], [0, 3, 4, 6, 7, 12, 13], [0, 3, 4, 6, 7, 12, 13], [0, 3, 4, 6, 7, 12, 13, 21], [0, 3, 4, 6, 7, 12, 13], [0, 3, 4, 6, 7, 12, 13], [0, 3, 4, 6, 7, 12, 13], [0, 3, 4, 6, 12, 13, 35], [0, 3, 4, 12, 13], [0, 3, 4, 12, 13], [2]] = some (c_impl_cyclesOf, [.tmp 2], 42) := by kernel_rfl


/-- The rest of a cycle: what is there, what was seen, the place. -/
def cyI : Nat → List Int → List Int → List Bool → Int → List Int × List Bool
  | 0, _, c, s, _ => (c, s)
  | f + 1, p, c, s, y => if s.getD y.toNat false = true then (c, s) else cyI f p (c ++ [y]) (s.set y.toNat true) (pa p y)
theorem cyI_t {f : Nat} {p c : List Int} {s : List Bool} {y : Int} (h : s.getD y.toNat false = true) : cyI f p c s y = (c, s) := by
  cases f with
  | zero => rfl
  | succ f => rw [cyI, if_pos h]
theorem cyI_f {f : Nat} {p c : List Int} {s : List Bool} {y : Int} (h : s.getD y.toNat false = false) : cyI (f + 1) p c s y = cyI f p (c ++ [y]) (s.set y.toNat true) (pa p y) := by
  rw [cyI, if_neg (by rw [h]; simp)]
theorem set_count : ∀ {s : List Bool} {i : Nat}, i < s.length → s.getD i false = false → (s.set i true).count false + 1 = s.count false
  | [], i, h, _ => by simp at h
  | b :: s, 0, _, h2 => by
    simp at h2; subst h2; simp
  | b :: s, i + 1, h, h2 => by
    have := set_count (s := s) (i := i) (by simpa using h) (by simpa using h2)
    rw [List.set_cons_succ, List.count_cons, List.count_cons]; omega
/-- One more point: its cycle, if it is new. -/
def cyS (p : List Int) (st : List (List Int) × List Bool) (x : Nat) : List (List Int) × List Bool := (if (cyI (st.2.count false) p [] st.2 x).1.length = 0 then st.1 else st.1 ++ [(cyI (st.2.count false) p [] st.2 x).1], (cyI (st.2.count false) p [] st.2 x).2)
def cyL (p : List Int) (k : Nat) : List (List Int) × List Bool := (List.range k).foldl (cyS p) ([], List.replicate p.length false)
theorem cyL_zero (p : List Int) : cyL p 0 = ([], List.replicate p.length false) := rfl
theorem cyL_succ (p : List Int) (k : Nat) : cyL p (k + 1) = cyS p (cyL p k) k := by unfold cyL; rw [List.range_succ, List.foldl_append]; rfl
theorem cyI_len (p : List Int) : ∀ (f : Nat) (c : List Int) (s : List Bool) (y : Int), (cyI f p c s y).2.length = s.length
  | 0, _, _, _ => rfl
  | f + 1, c, s, y => by
    rw [cyI]; split
    · rfl
    · rw [cyI_len p f]; simp
theorem cyL_inv (p : List Int) (k : Nat) : (cyL p k).2.length = p.length ∧ (cyL p k).1.length ≤ k := by
  induction k with
  | zero => rw [cyL_zero]; simp
  | succ k ih =>
    rw [cyL_succ]
    unfold cyS
    refine ⟨by rw [cyI_len]; exact ih.1, ?_⟩
    simp only
    split
    · omega
    · simp; omega

theorem cyclesOf_fn (n : Nat) (p : List Int) (hn : n ≤ 32) (hp : permOk n p) : PFn Try.prog f_impl_cyclesOf [ilS p] (ilSS (cyL p n).1) := by
  have hpl := hp.1
  have hz : cyL p 0 = ([], List.replicate n false) := by rw [cyL_zero, hpl]
  intro H; refine ACalls.introB s_impl_cyclesOf (by simp) ?_; intro hB hA; unfold c_impl_cyclesOf; simp (config := { maxSteps := 1000000 }) (disch := (first | omega | (simp only [go_sem]; try omega))) only [go_sem, Nat.reduceAdd, Nat.reduceEqDiff, Nat.reduceLeDiff, Nat.reduceMul, Nat.reduceLT, reduceIte, Int.reduceToNat, w64_id, cast_succ]
  repeat (first | (with_reducible first | refine SW.seq ?_ | refine SW.block ?_ | refine SW.rowC ?_ | refine SW.skip ?_ | refine SW.exit ?_ | intro _ | refine And.intro (by omega) ?_) | simp (config := { maxSteps := 1000000 }) (disch := (first | omega | (simp only [go_sem]; try omega))) only [go_sem, Nat.reduceAdd, Nat.reduceEqDiff, Nat.reduceLeDiff, Nat.reduceMul, Nat.reduceLT, reduceIte, Int.reduceToNat, w64_id, cast_succ])
  refine SW.ghost (Gh.name 4 25 1 rfl) ?_
  simp (config := { maxSteps := 1000000 }) (disch := (first | omega | (simp only [go_sem]; try omega))) only [go_sem, Nat.reduceAdd, Nat.reduceEqDiff, Nat.reduceLeDiff, Nat.reduceMul, Nat.reduceLT, reduceIte, Int.reduceToNat, w64_id, cast_succ]
  refine SW.loopE (fun E0 H0 q E' H' => ∃ (x ver : Nat), x ≤ n ∧ q = n - x ∧ E' = aput (aput E0 13 (I x)) 4 (.nm (H.length + 1) ver 0 (cyL p x).1.length) ∧ H' = H ++ [⟨0, 4, 1, (cyL p x).2.map Bv⟩, ⟨ver, 25, 1, (cyL p x).1.map ilS⟩]) n ⟨0, 0, by omega, by omega, by rw [hz]; rfl, by rw [hz]; simp [hpl, List.map_replicate]⟩ ?_
  rintro q E' H' ⟨x, ver, hx, rfl, rfl, rfl⟩
  have hinv := cyL_inv p x
  have hsu := cyL_succ p x
  generalize hcl0 : cyL p x = st at *
  obtain ⟨cs, s0⟩ := st
  simp only at hinv
  unfold cyS at hsu
  simp only at hsu
  simp (config := { maxSteps := 1000000 }) (disch := (first | omega | (simp only [go_sem]; try omega))) only [go_sem, Nat.reduceAdd, Nat.reduceEqDiff, Nat.reduceLeDiff, Nat.reduceMul, Nat.reduceLT, reduceIte, Int.reduceToNat, w64_id, cast_succ]
  repeat (first | (with_reducible first | refine SW.seq ?_ | refine SW.block ?_ | refine SW.rowC ?_ | refine SW.skip ?_ | refine SW.exit ?_ | intro _ | refine And.intro (by omega) ?_) | simp (config := { maxSteps := 1000000 }) (disch := (first | omega | (simp only [go_sem]; try omega))) only [go_sem, Nat.reduceAdd, Nat.reduceEqDiff, Nat.reduceLeDiff, Nat.reduceMul, Nat.reduceLT, reduceIte, Int.reduceToNat, w64_id, cast_succ])
  (first | refine SW.condD rfl (fun h => ?_) (fun h => ?_) | refine SW.condN rfl (fun h => ?_) (fun h => ?_) | refine SW.condNB rfl (fun h => ?_) (fun h => ?_) | refine SW.condB rfl (fun h => ?_) (fun h => ?_))
  · repeat (first | (with_reducible first | refine SW.seq ?_ | refine SW.block ?_ | refine SW.rowC ?_ | refine SW.skip ?_ | refine SW.exit ?_ | intro _ | refine And.intro (by omega) ?_) | simp (config := { maxSteps := 1000000 }) (disch := (first | omega | (simp only [go_sem]; try omega))) only [go_sem, Nat.reduceAdd, Nat.reduceEqDiff, Nat.reduceLeDiff, Nat.reduceMul, Nat.reduceLT, reduceIte, Int.reduceToNat, w64_id, cast_succ])
    refine SW.ghost (Gh.name 6 2 1 rfl) ?_
    simp (config := { maxSteps := 1000000 }) (disch := (first | omega | (simp only [go_sem]; try omega))) only [go_sem, Nat.reduceAdd, Nat.reduceEqDiff, Nat.reduceLeDiff, Nat.reduceMul, Nat.reduceLT, reduceIte, Int.reduceToNat, w64_id, cast_succ]
    generalize hR : cyI (s0.count false) p [] s0 x = R at *
    refine SW.loopE (fun E0 H0 q E' H' => ∃ (c : List Int) (s : List Bool) (y : Nat) (v2 : Nat), q = s.count false ∧ s.length = n ∧ y < n ∧ c.length + s.count false ≤ n ∧ cyI (s.count false) p c s y = R ∧ E' = aput (aput E0 7 (I y)) 6 (.nm (H.length + 2) v2 0 c.length) ∧ H' = H ++ [⟨0, 4, 1, s.map Bv⟩, ⟨ver, 25, 1, cs.map ilS⟩, ⟨v2, 2, 1, c.map I⟩]) (s0.count false) ⟨[], s0, x, 0, rfl, by omega, by omega, by have := List.count_le_length (a := false) (l := s0); simp; omega, hR, rfl, rfl⟩ ?_
    rintro q E' H' ⟨c, s, y, v2, rfl, hsl, hy, hcl, hcy, rfl, rfl⟩
    have hty : ((y : Int)).toNat = y := by simp
    have hys : y < s.length := by omega
    have hyp : y < p.length := by omega
    have htk : (s.map Bv).take p.length = s.map Bv := List.take_of_length_le (by simp; omega)
    have hgb : (s.map Bv)[y]? = some (Bv (s.getD y false)) := getB hys
    have hpy := hp.2.2 (p.getD y 0) (by rw [List.getD_eq_getElem?_getD, List.getElem?_eq_getElem (by omega)]; exact List.getElem_mem _)
    obtain ⟨z, hz2⟩ := Int.eq_ofNat_of_zero_le hpy.1
    simp (config := { maxSteps := 1000000 }) (disch := (first | omega | (simp only [go_sem]; try omega))) only [go_sem, Nat.reduceAdd, Nat.reduceEqDiff, Nat.reduceLeDiff, Nat.reduceMul, Nat.reduceLT, reduceIte, Int.reduceToNat, w64_id, cast_succ]
    by_cases hs : s.getD y false = true
    · repeat (first | (with_reducible first | refine SW.seq ?_ | refine SW.block ?_ | refine SW.rowC ?_ | refine SW.skip ?_ | refine SW.exit ?_ | intro _ | refine And.intro (by omega) ?_) | simp (config := { maxSteps := 1000000 }) (disch := (first | omega | (simp only [go_sem]; try omega))) only [go_sem, Nat.reduceAdd, Nat.reduceEqDiff, Nat.reduceLeDiff, Nat.reduceMul, Nat.reduceLT, reduceIte, Int.reduceToNat, w64_id, cast_succ, htk, hgb, hs])
      refine SW.condF rfl ?_
      repeat (first | (with_reducible first | refine SW.seq ?_ | refine SW.block ?_ | refine SW.rowC ?_ | refine SW.skip ?_ | refine SW.exit ?_ | intro _ | refine And.intro (by omega) ?_) | simp (config := { maxSteps := 1000000 }) (disch := (first | omega | (simp only [go_sem]; try omega))) only [go_sem, Nat.reduceAdd, Nat.reduceEqDiff, Nat.reduceLeDiff, Nat.reduceMul, Nat.reduceLT, reduceIte, Int.reduceToNat, w64_id, cast_succ])
      have hcR : R = (c, s) := by rw [← hcy, cyI_t (by simpa using hs)]
      (first | refine SW.condD rfl (fun h4 => ?_) (fun h4 => ?_) | refine SW.condN rfl (fun h4 => ?_) (fun h4 => ?_) | refine SW.condNB rfl (fun h4 => ?_) (fun h4 => ?_) | refine SW.condB rfl (fun h4 => ?_) (fun h4 => ?_))
      · have e2 : ∀ a b c : Blk, H ++ [a, b, c] = (H ++ [a, b]) ++ [c] := fun a b c => by simp
        have hst : cyL p (x + 1) = (cs ++ [c], s) := by rw [hsu, hcR]; simp only; rw [if_neg (by omega)]
        rw [e2]
        have hrow := ren_rowI (H := H ++ [(⟨0, 4, 1, s.map Bv⟩ : Blk), ⟨ver, 25, 1, cs.map ilS⟩] ++ [⟨v2, 2, 1, c.map I⟩]) (k := (H ++ [(⟨0, 4, 1, s.map Bv⟩ : Blk), ⟨ver, 25, 1, cs.map ilS⟩]).length) (js := []) (r := H.length + 2) (ver := v2) (ty := 2) (xs := c) (by simp) (by simp) (by rw [List.getElem?_append_right (by simp)]; simp)
        have hB1 : HB (H ++ [(⟨0, 4, 1, s.map Bv⟩ : Blk), ⟨ver, 25, 1, cs.map ilS⟩]) := hB.app (k := H.length) (by (simp only [go_sem, Nat.reduceAdd, Nat.reduceEqDiff, reduceIte, go_sem, and_self, and_true, true_and, implies_true, List.take_succ_cons, List.take_zero, and_true, true_and]; try omega)) (by simp)
        refine SW.froz hB1 (by simp) (.cons _ (.old _ (by simp [go_sem])) (.cons _ (.old _ (by simp [go_sem])) (.cons _ (.old _ (by simp [go_sem])) (.cons _ hrow (.cons _ (ren_I _) (.cons _ (ren_I _) (.cons _ (ren_B _) .nil))))))) ?_
        have htl2 : (cs.map ilS).take cs.length = cs.map ilS := List.take_of_length_le (by simp)
        repeat (first | (with_reducible first | refine SW.seq ?_ | refine SW.block ?_ | refine SW.rowC ?_ | refine SW.skip ?_ | refine SW.exit ?_ | intro _ | refine And.intro (by omega) ?_) | simp (config := { maxSteps := 1000000 }) (disch := (first | omega | (simp only [go_sem]; try omega))) only [go_sem, Nat.reduceAdd, Nat.reduceEqDiff, Nat.reduceLeDiff, Nat.reduceMul, Nat.reduceLT, reduceIte, Int.reduceToNat, w64_id, cast_succ, htl2])
        refine SLoop.nextT 2 (n - (x + 1)) hB (by omega) (by omega) (by simp) ?_ ?_ ⟨x + 1, ver + 1, by omega, rfl, ?_, ?_⟩
        · (simp only [go_sem, Nat.reduceAdd, Nat.reduceEqDiff, reduceIte, go_sem, and_self, and_true, true_and, implies_true, List.take_succ_cons, List.take_zero, and_true, true_and]; try omega)
        · (simp only [go_sem, Nat.reduceAdd, Nat.reduceEqDiff, reduceIte, go_sem, and_self, and_true, true_and, implies_true, List.take_succ_cons, List.take_zero, and_true, true_and]; try omega)
        · rw [hst]; simp [go_sem]
        · rw [hst]; simp
      · have hc0 : c = [] := by cases c with
          | nil => rfl
          | cons a c => exfalso; simp at h4
        have hst : cyL p (x + 1) = (cs, s) := by rw [hsu, hcR]; simp only; rw [if_pos (by rw [hc0]; rfl)]
        repeat (first | (with_reducible first | refine SW.seq ?_ | refine SW.block ?_ | refine SW.rowC ?_ | refine SW.skip ?_ | refine SW.exit ?_ | intro _ | refine And.intro (by omega) ?_) | simp (config := { maxSteps := 1000000 }) (disch := (first | omega | (simp only [go_sem]; try omega))) only [go_sem, Nat.reduceAdd, Nat.reduceEqDiff, Nat.reduceLeDiff, Nat.reduceMul, Nat.reduceLT, reduceIte, Int.reduceToNat, w64_id, cast_succ])
        refine SLoop.nextT 2 (n - (x + 1)) hB (by omega) (by omega) (by simp) ?_ ?_ ⟨x + 1, ver, by omega, rfl, ?_, ?_⟩
        · (simp only [go_sem, Nat.reduceAdd, Nat.reduceEqDiff, reduceIte, go_sem, and_self, and_true, true_and, implies_true, List.take_succ_cons, List.take_zero, and_true, true_and]; try omega)
        · (simp only [go_sem, Nat.reduceAdd, Nat.reduceEqDiff, reduceIte, go_sem, and_self, and_true, true_and, implies_true, List.take_succ_cons, List.take_zero, and_true, true_and]; try omega)
        · rw [hst]; simp [go_sem]
        · rw [hst]; simp
    · rw [Bool.not_eq_true] at hs
      have hco := set_count (s := s) (i := y) (by omega) hs
      have hcf : cyI (s.count false) p c s y = cyI ((s.set y true).count false) p (c ++ [(y : Int)]) (s.set y true) z := by
        rw [← hco, cyI_f (by simpa using hs)]
        unfold pa
        rw [hty, hz2]
      have htl : (c.map I).take c.length = c.map I := List.take_of_length_le (by simp)
      repeat (first | (with_reducible first | refine SW.seq ?_ | refine SW.block ?_ | refine SW.rowC ?_ | refine SW.skip ?_ | refine SW.exit ?_ | intro _ | refine And.intro (by omega) ?_) | simp (config := { maxSteps := 1000000 }) (disch := (first | omega | (simp only [go_sem]; try omega))) only [go_sem, Nat.reduceAdd, Nat.reduceEqDiff, Nat.reduceLeDiff, Nat.reduceMul, Nat.reduceLT, reduceIte, Int.reduceToNat, w64_id, cast_succ, htk, hgb, hs])
      refine SW.condT rfl ?_
      repeat (first | (with_reducible first | refine SW.seq ?_ | refine SW.block ?_ | refine SW.rowC ?_ | refine SW.skip ?_ | refine SW.exit ?_ | intro _ | refine And.intro (by omega) ?_) | simp (config := { maxSteps := 1000000 }) (disch := (first | omega | (simp only [go_sem]; try omega))) only [go_sem, Nat.reduceAdd, Nat.reduceEqDiff, Nat.reduceLeDiff, Nat.reduceMul, Nat.reduceLT, reduceIte, Int.reduceToNat, w64_id, cast_succ, htk, htl, hz2])
      refine SLoop.nextT 3 ((s.set y true).count false) hB (by omega) (by omega) (by simp) ?_ ?_ ⟨c ++ [(y : Int)], s.set y true, z, v2 + 1, rfl, by simp; omega, by omega, by simp; omega, by rw [← hcy, hcf], ?_, ?_⟩
      · (simp only [go_sem, Nat.reduceAdd, Nat.reduceEqDiff, reduceIte, go_sem, and_self, and_true, true_and, implies_true, List.take_succ_cons, List.take_zero, and_true, true_and]; try omega)
      · (simp only [go_sem, Nat.reduceAdd, Nat.reduceEqDiff, reduceIte, go_sem, and_self, and_true, true_and, implies_true, List.take_succ_cons, List.take_zero, and_true, true_and]; try omega)
      · simp [go_sem]
      · simp
  · have : x = n := by omega
    subst this
    repeat (first | (with_reducible first | refine SW.seq ?_ | refine SW.block ?_ | refine SW.rowC ?_ | refine SW.skip ?_ | refine SW.exit ?_ | intro _ | refine And.intro (by omega) ?_) | simp (config := { maxSteps := 1000000 }) (disch := (first | omega | (simp only [go_sem]; try omega))) only [go_sem, Nat.reduceAdd, Nat.reduceEqDiff, Nat.reduceLeDiff, Nat.reduceMul, Nat.reduceLT, reduceIte, Int.reduceToNat, w64_id, cast_succ])
    refine SW.ret ?_; (try simp only [go_sem]); (first | refine FunPost.one ?_ | refine FunPost.two ?_ | refine FunPost.three ?_); (try simp (config := { maxSteps := 1000000 }) (disch := (first | omega | (simp only [go_sem]; try omega))) only [go_sem, Nat.reduceAdd, Nat.reduceEqDiff, Nat.reduceLeDiff, Nat.reduceMul, Nat.reduceLT, reduceIte, Int.reduceToNat, w64_id, cast_succ])
    exact GR.froz (froz_rowS (r := H.length + 1) (ver := ver) (ty := tyLL) (xs := cs) (by omega) (by simp)) ⟨by rw [hcl0], rfl⟩
theorem l04Cycles_fn (n : Nat) (p : List Int) (hn : n ≤ 32) (hp : permOk n p) : PFn Try.prog f_spec_l04Cycles [ilS p] (ilSS (cyL p n).1) := by
  have hpl := hp.1
  have hz : cyL p 0 = ([], List.replicate n false) := by rw [cyL_zero, hpl]
  intro H; refine ACalls.introB s_spec_l04Cycles (by simp) ?_; intro hB hA; unfold c_spec_l04Cycles; simp (config := { maxSteps := 1000000 }) (disch := (first | omega | (simp only [go_sem]; try omega))) only [go_sem, Nat.reduceAdd, Nat.reduceEqDiff, Nat.reduceLeDiff, Nat.reduceMul, Nat.reduceLT, reduceIte, Int.reduceToNat, w64_id, cast_succ]
  repeat (first | (with_reducible first | refine SW.seq ?_ | refine SW.block ?_ | refine SW.rowC ?_ | refine SW.skip ?_ | refine SW.exit ?_ | intro _ | refine And.intro (by omega) ?_) | simp (config := { maxSteps := 1000000 }) (disch := (first | omega | (simp only [go_sem]; try omega))) only [go_sem, Nat.reduceAdd, Nat.reduceEqDiff, Nat.reduceLeDiff, Nat.reduceMul, Nat.reduceLT, reduceIte, Int.reduceToNat, w64_id, cast_succ])
  refine SW.loopE (fun E0 H0 q E' H' => ∃ (x ver : Nat), x ≤ n ∧ q = n - x ∧ E' = aput (aput E0 5 (I x)) 3 (.nm H.length ver 0 (cyL p x).1.length) ∧ H' = H ++ [⟨ver, 25, 1, (cyL p x).1.map ilS⟩, ⟨0, 4, 1, (cyL p x).2.map Bv⟩]) n ⟨0, 0, by omega, by omega, by rw [hz]; rfl, by rw [hz]; simp [hpl, List.map_replicate]⟩ ?_
  rintro q E' H' ⟨x, ver, hx, rfl, rfl, rfl⟩
  have hinv := cyL_inv p x
  have hsu := cyL_succ p x
  generalize hcl0 : cyL p x = st at *
  obtain ⟨cs, s0⟩ := st
  simp only at hinv
  unfold cyS at hsu
  simp only at hsu
  have htk0 : (s0.map Bv).take p.length = s0.map Bv := List.take_of_length_le (by simp; omega)
  simp (config := { maxSteps := 1000000 }) (disch := (first | omega | (simp only [go_sem]; try omega))) only [go_sem, Nat.reduceAdd, Nat.reduceEqDiff, Nat.reduceLeDiff, Nat.reduceMul, Nat.reduceLT, reduceIte, Int.reduceToNat, w64_id, cast_succ]
  repeat (first | (with_reducible first | refine SW.seq ?_ | refine SW.block ?_ | refine SW.rowC ?_ | refine SW.skip ?_ | refine SW.exit ?_ | intro _ | refine And.intro (by omega) ?_) | simp (config := { maxSteps := 1000000 }) (disch := (first | omega | (simp only [go_sem]; try omega))) only [go_sem, Nat.reduceAdd, Nat.reduceEqDiff, Nat.reduceLeDiff, Nat.reduceMul, Nat.reduceLT, reduceIte, Int.reduceToNat, w64_id, cast_succ])
  (first | refine SW.condD rfl (fun h => ?_) (fun h => ?_) | refine SW.condN rfl (fun h => ?_) (fun h => ?_) | refine SW.condNB rfl (fun h => ?_) (fun h => ?_) | refine SW.condB rfl (fun h => ?_) (fun h => ?_))
  · have hxs : x < s0.length := by omega
    have hgb0 : (s0.map Bv)[x]? = some (Bv (s0.getD x false)) := getB hxs
    by_cases hs0 : s0.getD x false = true
    · repeat (first | (with_reducible first | refine SW.seq ?_ | refine SW.block ?_ | refine SW.rowC ?_ | refine SW.skip ?_ | refine SW.exit ?_ | intro _ | refine And.intro (by omega) ?_) | simp (config := { maxSteps := 1000000 }) (disch := (first | omega | (simp only [go_sem]; try omega))) only [go_sem, Nat.reduceAdd, Nat.reduceEqDiff, Nat.reduceLeDiff, Nat.reduceMul, Nat.reduceLT, reduceIte, Int.reduceToNat, w64_id, cast_succ, htk0, hgb0, hs0])
      refine SW.condT rfl ?_
      have hst : cyL p (x + 1) = (cs, s0) := by rw [hsu, cyI_t (by simpa using hs0)]; simp
      repeat (first | (with_reducible first | refine SW.seq ?_ | refine SW.block ?_ | refine SW.rowC ?_ | refine SW.skip ?_ | refine SW.exit ?_ | intro _ | refine And.intro (by omega) ?_) | simp (config := { maxSteps := 1000000 }) (disch := (first | omega | (simp only [go_sem]; try omega))) only [go_sem, Nat.reduceAdd, Nat.reduceEqDiff, Nat.reduceLeDiff, Nat.reduceMul, Nat.reduceLT, reduceIte, Int.reduceToNat, w64_id, cast_succ])
      refine SLoop.nextT 2 (n - (x + 1)) hB (by omega) (by omega) (by simp) ?_ ?_ ⟨x + 1, ver, by omega, rfl, ?_, ?_⟩
      · (simp only [go_sem, Nat.reduceAdd, Nat.reduceEqDiff, reduceIte, go_sem, and_self, and_true, true_and, implies_true, List.take_succ_cons, List.take_zero, and_true, true_and]; try omega)
      · (simp only [go_sem, Nat.reduceAdd, Nat.reduceEqDiff, reduceIte, go_sem, and_self, and_true, true_and, implies_true, List.take_succ_cons, List.take_zero, and_true, true_and]; try omega)
      · rw [hst]; simp [go_sem]
      · rw [hst]; simp
    rw [Bool.not_eq_true] at hs0
    repeat (first | (with_reducible first | refine SW.seq ?_ | refine SW.block ?_ | refine SW.rowC ?_ | refine SW.skip ?_ | refine SW.exit ?_ | intro _ | refine And.intro (by omega) ?_) | simp (config := { maxSteps := 1000000 }) (disch := (first | omega | (simp only [go_sem]; try omega))) only [go_sem, Nat.reduceAdd, Nat.reduceEqDiff, Nat.reduceLeDiff, Nat.reduceMul, Nat.reduceLT, reduceIte, Int.reduceToNat, w64_id, cast_succ, htk0, hgb0, hs0])
    refine SW.condF rfl ?_
    repeat (first | (with_reducible first | refine SW.seq ?_ | refine SW.block ?_ | refine SW.rowC ?_ | refine SW.skip ?_ | refine SW.exit ?_ | intro _ | refine And.intro (by omega) ?_) | simp (config := { maxSteps := 1000000 }) (disch := (first | omega | (simp only [go_sem]; try omega))) only [go_sem, Nat.reduceAdd, Nat.reduceEqDiff, Nat.reduceLeDiff, Nat.reduceMul, Nat.reduceLT, reduceIte, Int.reduceToNat, w64_id, cast_succ])
    have hR0 : (cyI (s0.count false) p [] s0 x).1.length ≠ 0 := by
      have hco := set_count hxs hs0
      rw [← hco, cyI_f (by simpa using hs0)]
      have : ∀ (f : Nat) (c : List Int) (s : List Bool) (y : Int), c.length ≤ (cyI f p c s y).1.length := by
        intro f
        induction f with
        | zero => intro c s y; exact Nat.le_refl _
        | succ f ih =>
          intro c s y
          rw [cyI]; split
          · exact Nat.le_refl _
          · exact Nat.le_trans (by simp) (ih _ _ _)
      have := this ((s0.set x true).count false) ([] ++ [(x : Int)]) (s0.set ((x : Int)).toNat true) (pa p x)
      intro h0
      rw [h0] at this
      simp at this
    generalize hR : cyI (s0.count false) p [] s0 x = R at *
    refine SW.loopE (fun E0 H0 q E' H' => ∃ (c : List Int) (s : List Bool) (y : Nat) (v2 : Nat), q = s.count false ∧ s.length = n ∧ y < n ∧ c.length + s.count false ≤ n ∧ cyI (s.count false) p c s y = R ∧ E' = aput (aput E0 7 (I y)) 6 (.nm (H.length + 2) v2 0 c.length) ∧ H' = H ++ [⟨ver, 25, 1, cs.map ilS⟩, ⟨0, 4, 1, s.map Bv⟩, ⟨v2, 2, 1, c.map I⟩]) (s0.count false) ⟨[], s0, x, 0, rfl, by omega, by omega, by have := List.count_le_length (a := false) (l := s0); simp; omega, hR, rfl, rfl⟩ ?_
    rintro q E' H' ⟨c, s, y, v2, rfl, hsl, hy, hcl, hcy, rfl, rfl⟩
    have hty : ((y : Int)).toNat = y := by simp
    have hys : y < s.length := by omega
    have hyp : y < p.length := by omega
    have htk : (s.map Bv).take p.length = s.map Bv := List.take_of_length_le (by simp; omega)
    have hgb : (s.map Bv)[y]? = some (Bv (s.getD y false)) := getB hys
    have hpy := hp.2.2 (p.getD y 0) (by rw [List.getD_eq_getElem?_getD, List.getElem?_eq_getElem (by omega)]; exact List.getElem_mem _)
    obtain ⟨z, hz2⟩ := Int.eq_ofNat_of_zero_le hpy.1
    simp (config := { maxSteps := 1000000 }) (disch := (first | omega | (simp only [go_sem]; try omega))) only [go_sem, Nat.reduceAdd, Nat.reduceEqDiff, Nat.reduceLeDiff, Nat.reduceMul, Nat.reduceLT, reduceIte, Int.reduceToNat, w64_id, cast_succ]
    by_cases hs : s.getD y false = true
    · repeat (first | (with_reducible first | refine SW.seq ?_ | refine SW.block ?_ | refine SW.rowC ?_ | refine SW.skip ?_ | refine SW.exit ?_ | intro _ | refine And.intro (by omega) ?_) | simp (config := { maxSteps := 1000000 }) (disch := (first | omega | (simp only [go_sem]; try omega))) only [go_sem, Nat.reduceAdd, Nat.reduceEqDiff, Nat.reduceLeDiff, Nat.reduceMul, Nat.reduceLT, reduceIte, Int.reduceToNat, w64_id, cast_succ, htk, hgb, hs])
      refine SW.condF rfl ?_
      have hcR : R = (c, s) := by rw [← hcy, cyI_t (by simpa using hs)]
      have e2 : ∀ a b c : Blk, H ++ [a, b, c] = (H ++ [a, b]) ++ [c] := fun a b c => by simp
      have hst : cyL p (x + 1) = (cs ++ [c], s) := by rw [hsu, hcR]; simp only; rw [if_neg (by rw [hcR] at hR0; exact hR0)]
      rw [e2]
      have hrow := ren_rowI (H := H ++ [(⟨ver, 25, 1, cs.map ilS⟩ : Blk), ⟨0, 4, 1, s.map Bv⟩] ++ [⟨v2, 2, 1, c.map I⟩]) (k := (H ++ [(⟨ver, 25, 1, cs.map ilS⟩ : Blk), ⟨0, 4, 1, s.map Bv⟩]).length) (js := []) (r := H.length + 2) (ver := v2) (ty := 2) (xs := c) (by simp) (by simp) (by rw [List.getElem?_append_right (by simp)]; simp)
      have hB1 : HB (H ++ [(⟨ver, 25, 1, cs.map ilS⟩ : Blk), ⟨0, 4, 1, s.map Bv⟩]) := hB.app (k := H.length) (by (simp only [go_sem, Nat.reduceAdd, Nat.reduceEqDiff, reduceIte, go_sem, and_self, and_true, true_and, implies_true, List.take_succ_cons, List.take_zero, and_true, true_and]; try omega)) (by simp)
      refine SW.froz hB1 (by simp) (.cons _ (.old _ (by simp [go_sem])) (.cons _ (.old _ (by simp [go_sem])) (.cons _ (.old _ (by simp [go_sem])) (.cons _ (ren_I _) (.cons _ hrow (.cons _ (ren_I _) (.cons _ (ren_B _) .nil))))))) ?_
      have htl2 : (cs.map ilS).take cs.length = cs.map ilS := List.take_of_length_le (by simp)
      repeat (first | (with_reducible first | refine SW.seq ?_ | refine SW.block ?_ | refine SW.rowC ?_ | refine SW.skip ?_ | refine SW.exit ?_ | intro _ | refine And.intro (by omega) ?_) | simp (config := { maxSteps := 1000000 }) (disch := (first | omega | (simp only [go_sem]; try omega))) only [go_sem, Nat.reduceAdd, Nat.reduceEqDiff, Nat.reduceLeDiff, Nat.reduceMul, Nat.reduceLT, reduceIte, Int.reduceToNat, w64_id, cast_succ, htl2])
      refine SLoop.nextT 2 (n - (x + 1)) hB (by omega) (by omega) (by simp) ?_ ?_ ⟨x + 1, ver + 1, by omega, rfl, ?_, ?_⟩
      · (simp only [go_sem, Nat.reduceAdd, Nat.reduceEqDiff, reduceIte, go_sem, and_self, and_true, true_and, implies_true, List.take_succ_cons, List.take_zero, and_true, true_and]; try omega)
      · (simp only [go_sem, Nat.reduceAdd, Nat.reduceEqDiff, reduceIte, go_sem, and_self, and_true, true_and, implies_true, List.take_succ_cons, List.take_zero, and_true, true_and]; try omega)
      · rw [hst]; simp [go_sem]
      · rw [hst]; simp
    · rw [Bool.not_eq_true] at hs
      have hco := set_count (s := s) (i := y) (by omega) hs
      have hcf : cyI (s.count false) p c s y = cyI ((s.set y true).count false) p (c ++ [(y : Int)]) (s.set y true) z := by
        rw [← hco, cyI_f (by simpa using hs)]
        unfold pa
        rw [hty, hz2]
      have htl : (c.map I).take c.length = c.map I := List.take_of_length_le (by simp)
      repeat (first | (with_reducible first | refine SW.seq ?_ | refine SW.block ?_ | refine SW.rowC ?_ | refine SW.skip ?_ | refine SW.exit ?_ | intro _ | refine And.intro (by omega) ?_) | simp (config := { maxSteps := 1000000 }) (disch := (first | omega | (simp only [go_sem]; try omega))) only [go_sem, Nat.reduceAdd, Nat.reduceEqDiff, Nat.reduceLeDiff, Nat.reduceMul, Nat.reduceLT, reduceIte, Int.reduceToNat, w64_id, cast_succ, htk, hgb, hs])
      refine SW.condT rfl ?_
      repeat (first | (with_reducible first | refine SW.seq ?_ | refine SW.block ?_ | refine SW.rowC ?_ | refine SW.skip ?_ | refine SW.exit ?_ | intro _ | refine And.intro (by omega) ?_) | simp (config := { maxSteps := 1000000 }) (disch := (first | omega | (simp only [go_sem]; try omega))) only [go_sem, Nat.reduceAdd, Nat.reduceEqDiff, Nat.reduceLeDiff, Nat.reduceMul, Nat.reduceLT, reduceIte, Int.reduceToNat, w64_id, cast_succ, htk, htl, hz2])
      refine SLoop.nextT 3 ((s.set y true).count false) hB (by omega) (by omega) (by simp) ?_ ?_ ⟨c ++ [(y : Int)], s.set y true, z, v2 + 1, rfl, by simp; omega, by omega, by simp; omega, by rw [← hcy, hcf], ?_, ?_⟩
      · (simp only [go_sem, Nat.reduceAdd, Nat.reduceEqDiff, reduceIte, go_sem, and_self, and_true, true_and, implies_true, List.take_succ_cons, List.take_zero, and_true, true_and]; try omega)
      · (simp only [go_sem, Nat.reduceAdd, Nat.reduceEqDiff, reduceIte, go_sem, and_self, and_true, true_and, implies_true, List.take_succ_cons, List.take_zero, and_true, true_and]; try omega)
      · simp [go_sem]
      · simp
  · have : x = n := by omega
    subst this
    repeat (first | (with_reducible first | refine SW.seq ?_ | refine SW.block ?_ | refine SW.rowC ?_ | refine SW.skip ?_ | refine SW.exit ?_ | intro _ | refine And.intro (by omega) ?_) | simp (config := { maxSteps := 1000000 }) (disch := (first | omega | (simp only [go_sem]; try omega))) only [go_sem, Nat.reduceAdd, Nat.reduceEqDiff, Nat.reduceLeDiff, Nat.reduceMul, Nat.reduceLT, reduceIte, Int.reduceToNat, w64_id, cast_succ])
    refine SW.ret ?_; (try simp only [go_sem]); (first | refine FunPost.one ?_ | refine FunPost.two ?_ | refine FunPost.three ?_); (try simp (config := { maxSteps := 1000000 }) (disch := (first | omega | (simp only [go_sem]; try omega))) only [go_sem, Nat.reduceAdd, Nat.reduceEqDiff, Nat.reduceLeDiff, Nat.reduceMul, Nat.reduceLT, reduceIte, Int.reduceToNat, w64_id, cast_succ])
    exact GR.froz (froz_rowS (r := H.length) (ver := ver) (ty := tyLL) (xs := cs) (by omega) (by simp)) ⟨by rw [hcl0], rfl⟩
end Go.Proofs.Ytkifdjjnbplghaa
