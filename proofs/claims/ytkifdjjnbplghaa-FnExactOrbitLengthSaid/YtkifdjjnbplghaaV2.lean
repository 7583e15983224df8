/- Permutations composed; their keys. -/
import Derived.Test.YtkifdjjnbplghaaK61
import Derived.Test.YtkifdjjnbplghaaProg
import Derived.KernelRfl
import Derived.Test.YtkifdjjnbplghaaV1
import Derived.Test.YtkifdjjnbplghaaK8
import Derived.Test.YtkifdjjnbplghaaK51
import Derived.Test.YtkifdjjnbplghaaU1
set_option linter.unusedSimpArgs false
set_option linter.unusedVariables false
set_option maxHeartbeats 4000000
set_option maxRecDepth 100000
namespace Go.Proofs.Ytkifdjjnbplghaa
open Go.Av

/-! The abstract code of functions, printed by program and tied to the program by the kernel. -/
/-- loop.example/g00920/spec.l04Times -/
abbrev f_spec_l04Times : Nat := 83
def c_spec_l04Times : SC :=
 .seq (.reg [
     ⟨(some 4), .mv (.const (.slice none 0 0)), none⟩] [0, 1])
 (.seq (.reg [
     ⟨(some 7), .bslice 2 1 0 [] [], none⟩,
     ⟨(some 5), .mv (.tmp 7), none⟩] [0, 1, 5])
 (.seq (.seq (.reg [
     ⟨(some 6), .mv (.const (.int .i64 0)), none⟩] [0, 1, 5, 6])
 (.block 0 (.loop [0, 1, 5, 6]
   (.seq (.seq (.reg [
       ⟨(some 8), .mv (.tmp 6), none⟩,
       ⟨(some 9), .mv (.tmp 0), none⟩,
       ⟨(some 10), .len (.tmp 9), none⟩,
       ⟨(some 11), .bin .lss (.tmp 8) (.tmp 10), none⟩] [0, 1, 5, 6, 11])
   (.cond (.tmp 11)
    (.skip)
    (.exit 0)))
   (.seq (.block 1 (.reg [
        ⟨(some 14), .mv (.tmp 5), none⟩,
        ⟨(some 15), .mv (.tmp 1), none⟩,
        ⟨(some 16), .mv (.tmp 0), none⟩,
        ⟨(some 17), .mv (.tmp 6), none⟩,
        ⟨(some 18), .iaddr 1 (.tmp 16) (.tmp 17), none⟩,
        ⟨(some 19), .load 1 false (.tmp 18), none⟩,
        ⟨(some 20), .iaddr 1 (.tmp 15) (.tmp 19), none⟩,
        ⟨(some 21), .load 1 false (.tmp 20), none⟩,
        ⟨(some 22), .bslice 2 1 1 [(.int .i64 0)] [(0, (.tmp 21))], none⟩,
        ⟨(some 23), .app 2 1 8 (.tmp 14) (.tmp 22), none⟩,
        ⟨(some 5), .mv (.tmp 23), none⟩] [0, 1, 5, 6]))
   (.reg [
       ⟨(some 12), .mv (.tmp 6), none⟩,
       ⟨(some 13), .bin .add (.tmp 12) (.const (.int .i64 1)), none⟩,
       ⟨(some 6), .mv (.tmp 13), none⟩] [0, 1, 5, 6]))))))
 (.seq (.reg [
     ⟨(some 24), .mv (.tmp 5), none⟩,
     ⟨(some 4), .mv (.tmp 24), none⟩] [4])
 (.ret))))
theorem s_spec_l04Times : stripF Try.prog 83 [[0, 1], [0, 1, 5], [0, 1, 5, 6], [0, 1, 5, 6], [0, 1, 5, 6, 11], [0, 1, 5, 6], [0, 1, 5, 6], [4]] = some (c_spec_l04Times, [.tmp 4], 25) := by kernel_rfl

/-- loop.example/g00920/impl.keyOf -/
abbrev f_impl_keyOf : Nat := 100
def c_impl_keyOf : SC :=
 .seq (.reg [
     ⟨(some 2), .mv (.const (.string ByteArray.empty)), none⟩] [0])
 (.seq (.reg [
     ⟨(some 6), .mv (.tmp 0), none⟩,
     ⟨(some 7), .len (.tmp 6), none⟩,
     ⟨(some 8), .mslice 5 1 (.int .u8 0) (.tmp 7) (.tmp 7), none⟩,
     ⟨(some 3), .mv (.tmp 8), none⟩] [0, 3])
 (.seq (.seq (.reg [
     ⟨(some 9), .mv (.tmp 0), none⟩,
     ⟨(some 10), .len (.tmp 9), none⟩,
     ⟨(some 11), .mv (.const (.int .i64 0)), none⟩] [3, 9, 10, 11])
 (.block 0 (.loop [3, 9, 10, 11]
   (.seq (.reg [
       ⟨(some 12), .bin .lss (.tmp 11) (.tmp 10), none⟩] [3, 9, 10, 11, 12])
   (.seq (.cond (.tmp 12)
    (.skip)
    (.exit 0))
   (.seq (.block 1 (.seq (.reg [
        ⟨(some 13), .mv (.tmp 11), none⟩,
        ⟨(some 14), .iaddr 1 (.tmp 9) (.tmp 11), none⟩,
        ⟨(some 15), .load 1 false (.tmp 14), none⟩,
        ⟨(some 4), .mv (.tmp 13), none⟩,
        ⟨(some 5), .mv (.tmp 15), none⟩] [3, 4, 5, 9, 10, 11])
    (.reg [
        ⟨(some 16), .mv (.tmp 3), none⟩,
        ⟨(some 17), .mv (.tmp 4), none⟩,
        ⟨(some 18), .mv (.tmp 5), none⟩,
        ⟨(some 19), .conv .u8 (.tmp 18), none⟩,
        ⟨(some 20), .iaddr 1 (.tmp 16) (.tmp 17), none⟩,
        ⟨none, .store 1 (.tmp 20) (.tmp 19), none⟩] [3, 9, 10, 11])))
   (.reg [
       ⟨(some 21), .bin .add (.tmp 11) (.const (.int .i64 1)), none⟩,
       ⟨(some 11), .mv (.tmp 21), none⟩] [3, 9, 10, 11])))))))
 (.seq (.reg [
     ⟨(some 22), .mv (.tmp 3), none⟩,
     ⟨(some 23), .str (.tmp 22), none⟩,
     ⟨(some 2), .mv (.tmp 23), none⟩] [2])
 (.ret))))
theorem s_impl_keyOf : stripF Try.prog 100 [[0], [0, 3], [3, 9, 10, 11], [3, 9, 10, 11], [3, 9, 10, 11, 12], [3, 4, 5, 9, 10, 11], [3, 9, 10, 11], [3, 9, 10, 11], [2]] = some (c_impl_keyOf, [.tmp 2], 24) := by kernel_rfl

/-- loop.example/g00920/impl.compose -/
abbrev f_impl_compose : Nat := 101
def c_impl_compose : SC :=
 .seq (.reg [
     ⟨(some 4), .mv (.const (.slice none 0 0)), none⟩] [0, 1])
 (.seq (.reg [
     ⟨(some 7), .mv (.tmp 0), none⟩,
     ⟨(some 8), .len (.tmp 7), none⟩,
     ⟨(some 9), .mslice 2 8 (.int .i64 0) (.tmp 8) (.tmp 8), none⟩,
     ⟨(some 5), .mv (.tmp 9), none⟩] [0, 1, 5])
 (.seq (.seq (.reg [
     ⟨(some 10), .mv (.tmp 5), none⟩,
     ⟨(some 11), .len (.tmp 10), none⟩,
     ⟨(some 12), .mv (.const (.int .i64 0)), none⟩] [0, 1, 5, 11, 12])
 (.block 0 (.loop [0, 1, 5, 11, 12]
   (.seq (.reg [
       ⟨(some 13), .bin .lss (.tmp 12) (.tmp 11), none⟩] [0, 1, 5, 11, 12, 13])
   (.seq (.cond (.tmp 13)
    (.skip)
    (.exit 0))
   (.seq (.block 1 (.seq (.reg [
        ⟨(some 14), .mv (.tmp 12), none⟩,
        ⟨(some 6), .mv (.tmp 14), none⟩] [0, 1, 5, 6, 11, 12])
    (.reg [
        ⟨(some 15), .mv (.tmp 5), none⟩,
        ⟨(some 16), .mv (.tmp 6), none⟩,
        ⟨(some 17), .mv (.tmp 1), none⟩,
        ⟨(some 18), .mv (.tmp 0), none⟩,
        ⟨(some 19), .mv (.tmp 6), none⟩,
        ⟨(some 20), .iaddr 1 (.tmp 18) (.tmp 19), none⟩,
        ⟨(some 21), .load 1 false (.tmp 20), none⟩,
        ⟨(some 22), .iaddr 1 (.tmp 17) (.tmp 21), none⟩,
        ⟨(some 23), .load 1 false (.tmp 22), none⟩,
        ⟨(some 24), .iaddr 1 (.tmp 15) (.tmp 16), none⟩,
        ⟨none, .store 1 (.tmp 24) (.tmp 23), none⟩] [0, 1, 5, 11, 12])))
   (.reg [
       ⟨(some 25), .bin .add (.tmp 12) (.const (.int .i64 1)), none⟩,
       ⟨(some 12), .mv (.tmp 25), none⟩] [0, 1, 5, 11, 12])))))))
 (.seq (.reg [
     ⟨(some 26), .mv (.tmp 5), none⟩,
     ⟨(some 4), .mv (.tmp 26), none⟩] [4])
 (.ret))))
theorem s_impl_compose : stripF Try.prog 101 [[0, 1], [0, 1, 5], [0, 1, 5, 11, 12], [0, 1, 5, 11, 12], [0, 1, 5, 11, 12, 13], [0, 1, 5, 6, 11, 12], [0, 1, 5, 11, 12], [0, 1, 5, 11, 12], [4]] = some (c_impl_compose, [.tmp 4], 27) := by kernel_rfl


theorem compose_fn (n : Nat) (p q : List Int) (hn : n ≤ 64) (hp : permOk n p) (hq : permOk n q) : PFn Try.prog f_impl_compose [ilS p, ilS q] (ilS (mul p q)) := by
  have hpl := hp.1
  have hql := hq.1
  intro H; refine ACalls.introB s_impl_compose (by simp) ?_; intro hB hA; unfold c_impl_compose; simp (config := { maxSteps := 1000000 }) (disch := (first | omega | (simp only [go_sem]; try omega))) only [go_sem, Nat.reduceAdd, Nat.reduceEqDiff, Nat.reduceLeDiff, Nat.reduceMul, Nat.reduceLT, reduceIte, Int.reduceToNat, w64_id, cast_succ]
  repeat (first | (with_reducible first | refine SW.seq ?_ | refine SW.block ?_ | refine SW.rowC ?_ | refine SW.skip ?_ | refine SW.exit ?_ | intro _ | refine And.intro (by omega) ?_) | simp (config := { maxSteps := 1000000 }) (disch := (first | omega | (simp only [go_sem]; try omega))) only [go_sem, Nat.reduceAdd, Nat.reduceEqDiff, Nat.reduceLeDiff, Nat.reduceMul, Nat.reduceLT, reduceIte, Int.reduceToNat, w64_id, cast_succ])
  rw [tab_rep]
  refine SW.loopE (fun E0 H0 q' E' H' => ∃ i : Nat, i ≤ n ∧ q' = n - i ∧ E' = aput E0 12 (I i) ∧ H' = H ++ [⟨0, 2, 1, (tab p.length fun j => if j < i then pa q (p.getD j 0) else 0).map I⟩]) n ⟨0, by omega, by omega, rfl, ?_⟩ ?_
  · congr 4
  rintro q' E' H' ⟨i, hi, rfl, rfl, rfl⟩
  have hll := tab_length p.length fun j => if j < i then pa q (p.getD j 0) else (0 : Int)
  simp (config := { maxSteps := 1000000 }) (disch := (first | omega | (simp only [go_sem]; try omega))) only [go_sem, Nat.reduceAdd, Nat.reduceEqDiff, Nat.reduceLeDiff, Nat.reduceMul, Nat.reduceLT, reduceIte, Int.reduceToNat, w64_id, cast_succ]
  repeat (first | (with_reducible first | refine SW.seq ?_ | refine SW.block ?_ | refine SW.rowC ?_ | refine SW.skip ?_ | refine SW.exit ?_ | intro _ | refine And.intro (by omega) ?_) | simp (config := { maxSteps := 1000000 }) (disch := (first | omega | (simp only [go_sem]; try omega))) only [go_sem, Nat.reduceAdd, Nat.reduceEqDiff, Nat.reduceLeDiff, Nat.reduceMul, Nat.reduceLT, reduceIte, Int.reduceToNat, w64_id, cast_succ, take_tab])
  (first | refine SW.condD rfl (fun h2 => ?_) (fun h2 => ?_) | refine SW.condN rfl (fun h2 => ?_) (fun h2 => ?_) | refine SW.condNB rfl (fun h2 => ?_) (fun h2 => ?_) | refine SW.condB rfl (fun h2 => ?_) (fun h2 => ?_))
  · have hx := hp.2.2 (p.getD i 0) (by rw [List.getD_eq_getElem?_getD, List.getElem?_eq_getElem (by omega)]; exact List.getElem_mem _)
    have hg : q.getD (p.getD i 0).toNat 0 = pa q (p.getD i 0) := rfl
    have hlt : (p.getD i 0).toNat < q.length := by omega
    repeat (first | (with_reducible first | refine SW.seq ?_ | refine SW.block ?_ | refine SW.rowC ?_ | refine SW.skip ?_ | refine SW.exit ?_ | intro _ | refine And.intro (by omega) ?_) | simp (config := { maxSteps := 1000000 }) (disch := (first | omega | (simp only [go_sem]; try omega))) only [go_sem, Nat.reduceAdd, Nat.reduceEqDiff, Nat.reduceLeDiff, Nat.reduceMul, Nat.reduceLT, reduceIte, Int.reduceToNat, w64_id, cast_succ, take_tab, hg])
    refine SLoop.next (n - (i + 1)) (by omega) ⟨i + 1, by omega, rfl, rfl, ?_⟩
    rw [tab_set]
    congr 4
    exact tab_congr fun j hj => by
      by_cases hji : j = i
      · subst hji; rw [if_pos rfl, if_pos (by omega)]
      · rw [if_neg hji]
        by_cases h3 : j < i
        · rw [if_pos h3, if_pos (by omega)]
        · rw [if_neg h3, if_neg (by omega)]
  · have : i = n := by omega
    subst this
    have hm : (tab p.length fun j => if j < i then pa q (p.getD j 0) else 0) = mul p q := by
      rw [hpl]
      have e : (tab i fun j => if j < i then pa q (p.getD j 0) else 0) = tab i fun j => pa q (p.getD j 0) := tab_congr fun j hj => by rw [if_pos hj]
      rw [e]
      unfold mul tab
      conv => rhs; rw [tab_of p]
      unfold tab
      rw [List.map_map, hpl]; rfl
    have hml := mul_length p q
    rw [hm]
    repeat (first | (with_reducible first | refine SW.seq ?_ | refine SW.block ?_ | refine SW.rowC ?_ | refine SW.skip ?_ | refine SW.exit ?_ | intro _ | refine And.intro (by omega) ?_) | simp (config := { maxSteps := 1000000 }) (disch := (first | omega | (simp only [go_sem]; try omega))) only [go_sem, Nat.reduceAdd, Nat.reduceEqDiff, Nat.reduceLeDiff, Nat.reduceMul, Nat.reduceLT, reduceIte, Int.reduceToNat, w64_id, cast_succ])
    refine SW.ret ?_; (try simp only [go_sem]); (first | refine FunPost.one ?_ | refine FunPost.two ?_ | refine FunPost.three ?_); (try simp (config := { maxSteps := 1000000 }) (disch := (first | omega | (simp only [go_sem]; try omega))) only [go_sem, Nat.reduceAdd, Nat.reduceEqDiff, Nat.reduceLeDiff, Nat.reduceMul, Nat.reduceLT, reduceIte, Int.reduceToNat, w64_id, cast_succ])
    rw [show p.length = (mul p q).length from hml.symm]
    exact GR.froz (froz_rowI (ver := 0) (ty := 2) (by omega) (by simp)) ⟨rfl, rfl⟩
theorem l04Times_fn (n : Nat) (p q : List Int) (hn : n ≤ 64) (hp : permOk n p) (hq : permOk n q) : PFn Try.prog f_spec_l04Times [ilS p, ilS q] (ilS (mul p q)) := by
  have hpl := hp.1
  have hql := hq.1
  intro H; refine ACalls.introB s_spec_l04Times (by simp) ?_; intro hB hA; unfold c_spec_l04Times; simp (config := { maxSteps := 1000000 }) (disch := (first | omega | (simp only [go_sem]; try omega))) only [go_sem, Nat.reduceAdd, Nat.reduceEqDiff, Nat.reduceLeDiff, Nat.reduceMul, Nat.reduceLT, reduceIte, Int.reduceToNat, w64_id, cast_succ]
  repeat (first | (with_reducible first | refine SW.seq ?_ | refine SW.block ?_ | refine SW.rowC ?_ | refine SW.skip ?_ | refine SW.exit ?_ | intro _ | refine And.intro (by omega) ?_) | simp (config := { maxSteps := 1000000 }) (disch := (first | omega | (simp only [go_sem]; try omega))) only [go_sem, Nat.reduceAdd, Nat.reduceEqDiff, Nat.reduceLeDiff, Nat.reduceMul, Nat.reduceLT, reduceIte, Int.reduceToNat, w64_id, cast_succ])
  refine SW.loopE (fun E0 H0 q' E' H' => ∃ (pre post : List Int) (ver : Nat), p = pre ++ post ∧ q' = post.length ∧ E' = aput (aput E0 6 (I pre.length)) 5 (.nm H.length ver 0 pre.length) ∧ H' = H ++ [⟨ver, 2, 1, (mul pre q).map I⟩]) p.length ⟨[], p, 0, rfl, rfl, rfl, rfl⟩ ?_
  rintro q' E' H' ⟨pre, post, ver, hpp, rfl, rfl, rfl⟩
  have hpl2 : pre.length ≤ 64 := by rw [hpp] at hpl; simp at hpl; omega
  have hml := mul_length pre q
  simp (config := { maxSteps := 1000000 }) (disch := (first | omega | (simp only [go_sem]; try omega))) only [go_sem, Nat.reduceAdd, Nat.reduceEqDiff, Nat.reduceLeDiff, Nat.reduceMul, Nat.reduceLT, reduceIte, Int.reduceToNat, w64_id, cast_succ]
  repeat (first | (with_reducible first | refine SW.seq ?_ | refine SW.block ?_ | refine SW.rowC ?_ | refine SW.skip ?_ | refine SW.exit ?_ | intro _ | refine And.intro (by omega) ?_) | simp (config := { maxSteps := 1000000 }) (disch := (first | omega | (simp only [go_sem]; try omega))) only [go_sem, Nat.reduceAdd, Nat.reduceEqDiff, Nat.reduceLeDiff, Nat.reduceMul, Nat.reduceLT, reduceIte, Int.reduceToNat, w64_id, cast_succ])
  (first | refine SW.condD rfl (fun h2 => ?_) (fun h2 => ?_) | refine SW.condN rfl (fun h2 => ?_) (fun h2 => ?_) | refine SW.condNB rfl (fun h2 => ?_) (fun h2 => ?_) | refine SW.condB rfl (fun h2 => ?_) (fun h2 => ?_))
  · obtain ⟨x, post, rfl, hg, -⟩ := consOf (d := 0) hpp (by omega)
    have hx := hp.2.2 x (by rw [hpp]; simp)
    have hg2 : q.getD x.toNat 0 = pa q x := rfl
    have hlt : x.toNat < q.length := by omega
    have htl : ((mul pre q).map I).take pre.length = (mul pre q).map I := List.take_of_length_le (by simp [hml])
    have hms : mul (pre ++ [x]) q = mul pre q ++ [pa q x] := by simp [mul]
    repeat (first | (with_reducible first | refine SW.seq ?_ | refine SW.block ?_ | refine SW.rowC ?_ | refine SW.skip ?_ | refine SW.exit ?_ | intro _ | refine And.intro (by omega) ?_) | simp (config := { maxSteps := 1000000 }) (disch := (first | omega | (simp only [go_sem]; try omega))) only [go_sem, Nat.reduceAdd, Nat.reduceEqDiff, Nat.reduceLeDiff, Nat.reduceMul, Nat.reduceLT, reduceIte, Int.reduceToNat, w64_id, cast_succ, hg, hg2, htl])
    refine SLoop.nextT 1 post.length hB (by omega) (by simp) (by simp) ?_ ?_ ⟨pre ++ [x], post, ver + 1, by simp [hpp], rfl, ?_, ?_⟩
    · (simp only [go_sem, Nat.reduceAdd, Nat.reduceEqDiff, reduceIte, go_sem, and_self, and_true, true_and, implies_true, List.take_succ_cons, List.take_zero, and_true, true_and]; try omega)
    · (simp only [go_sem, Nat.reduceAdd, Nat.reduceEqDiff, reduceIte, go_sem, and_self, and_true, true_and, implies_true, List.take_succ_cons, List.take_zero, and_true, true_and]; try omega)
    · simp [go_sem]
    · rw [hms]; simp
  · obtain ⟨rfl, rfl⟩ := nilOf hpp (by omega)
    repeat (first | (with_reducible first | refine SW.seq ?_ | refine SW.block ?_ | refine SW.rowC ?_ | refine SW.skip ?_ | refine SW.exit ?_ | intro _ | refine And.intro (by omega) ?_) | simp (config := { maxSteps := 1000000 }) (disch := (first | omega | (simp only [go_sem]; try omega))) only [go_sem, Nat.reduceAdd, Nat.reduceEqDiff, Nat.reduceLeDiff, Nat.reduceMul, Nat.reduceLT, reduceIte, Int.reduceToNat, w64_id, cast_succ])
    refine SW.ret ?_; (try simp only [go_sem]); (first | refine FunPost.one ?_ | refine FunPost.two ?_ | refine FunPost.three ?_); (try simp (config := { maxSteps := 1000000 }) (disch := (first | omega | (simp only [go_sem]; try omega))) only [go_sem, Nat.reduceAdd, Nat.reduceEqDiff, Nat.reduceLeDiff, Nat.reduceMul, Nat.reduceLT, reduceIte, Int.reduceToNat, w64_id, cast_succ])
    rw [show pre.length = (mul pre q).length from hml.symm]
    exact GR.froz (froz_rowI (ver := ver) (ty := 2) (by omega) (by simp)) ⟨rfl, rfl⟩
theorem l04One64_fn (n : Nat) (hn : n ≤ 64) : PFn Try.prog f_spec_l04One [I n] (ilS (idL n)) := by
  intro H; refine ACalls.introB s_spec_l04One (by simp) ?_; intro hB hA; unfold c_spec_l04One; simp (config := { maxSteps := 1000000 }) (disch := (first | omega | (simp only [go_sem]; try omega))) only [go_sem, Nat.reduceAdd, Nat.reduceEqDiff, Nat.reduceLeDiff, Nat.reduceMul, Nat.reduceLT, reduceIte, Int.reduceToNat, w64_id, cast_succ]
  repeat (first | (with_reducible first | refine SW.seq ?_ | refine SW.block ?_ | refine SW.rowC ?_ | refine SW.skip ?_ | refine SW.exit ?_ | intro _ | refine And.intro (by omega) ?_) | simp (config := { maxSteps := 1000000 }) (disch := (first | omega | (simp only [go_sem]; try omega))) only [go_sem, Nat.reduceAdd, Nat.reduceEqDiff, Nat.reduceLeDiff, Nat.reduceMul, Nat.reduceLT, reduceIte, Int.reduceToNat, w64_id, cast_succ])
  refine SW.loopE (fun E0 H0 q' E' H' => ∃ (i ver : Nat), i ≤ n ∧ q' = n - i ∧ E' = aput (aput E0 4 (I i)) 3 (.nm H.length ver 0 i) ∧ H' = H ++ [⟨ver, 2, 1, (idL i).map I⟩]) n ⟨0, 0, by omega, by omega, rfl, rfl⟩ ?_
  rintro q' E' H' ⟨i, ver, hi, rfl, rfl, rfl⟩
  have hil : (idL i).length = i := by simp [idL, tab]
  simp (config := { maxSteps := 1000000 }) (disch := (first | omega | (simp only [go_sem]; try omega))) only [go_sem, Nat.reduceAdd, Nat.reduceEqDiff, Nat.reduceLeDiff, Nat.reduceMul, Nat.reduceLT, reduceIte, Int.reduceToNat, w64_id, cast_succ]
  repeat (first | (with_reducible first | refine SW.seq ?_ | refine SW.block ?_ | refine SW.rowC ?_ | refine SW.skip ?_ | refine SW.exit ?_ | intro _ | refine And.intro (by omega) ?_) | simp (config := { maxSteps := 1000000 }) (disch := (first | omega | (simp only [go_sem]; try omega))) only [go_sem, Nat.reduceAdd, Nat.reduceEqDiff, Nat.reduceLeDiff, Nat.reduceMul, Nat.reduceLT, reduceIte, Int.reduceToNat, w64_id, cast_succ])
  (first | refine SW.condD rfl (fun h2 => ?_) (fun h2 => ?_) | refine SW.condN rfl (fun h2 => ?_) (fun h2 => ?_) | refine SW.condNB rfl (fun h2 => ?_) (fun h2 => ?_) | refine SW.condB rfl (fun h2 => ?_) (fun h2 => ?_))
  · have htl : ((idL i).map I).take i = (idL i).map I := List.take_of_length_le (by simp [hil])
    have hms : idL (i + 1) = idL i ++ [(i : Int)] := by simp [idL, tab, List.range_succ]
    repeat (first | (with_reducible first | refine SW.seq ?_ | refine SW.block ?_ | refine SW.rowC ?_ | refine SW.skip ?_ | refine SW.exit ?_ | intro _ | refine And.intro (by omega) ?_) | simp (config := { maxSteps := 1000000 }) (disch := (first | omega | (simp only [go_sem]; try omega))) only [go_sem, Nat.reduceAdd, Nat.reduceEqDiff, Nat.reduceLeDiff, Nat.reduceMul, Nat.reduceLT, reduceIte, Int.reduceToNat, w64_id, cast_succ, htl, hil])
    refine SLoop.nextT 1 (n - (i + 1)) hB (by omega) (by omega) (by simp) ?_ ?_ ⟨i + 1, ver + 1, by omega, rfl, ?_, ?_⟩
    · (simp only [go_sem, Nat.reduceAdd, Nat.reduceEqDiff, reduceIte, go_sem, and_self, and_true, true_and, implies_true, List.take_succ_cons, List.take_zero, and_true, true_and]; try omega)
    · (simp only [go_sem, Nat.reduceAdd, Nat.reduceEqDiff, reduceIte, go_sem, and_self, and_true, true_and, implies_true, List.take_succ_cons, List.take_zero, and_true, true_and]; try omega)
    · simp [go_sem]
    · rw [hms]; simp
  · have : i = n := by omega
    subst this
    repeat (first | (with_reducible first | refine SW.seq ?_ | refine SW.block ?_ | refine SW.rowC ?_ | refine SW.skip ?_ | refine SW.exit ?_ | intro _ | refine And.intro (by omega) ?_) | simp (config := { maxSteps := 1000000 }) (disch := (first | omega | (simp only [go_sem]; try omega))) only [go_sem, Nat.reduceAdd, Nat.reduceEqDiff, Nat.reduceLeDiff, Nat.reduceMul, Nat.reduceLT, reduceIte, Int.reduceToNat, w64_id, cast_succ])
    refine SW.ret ?_; (try simp only [go_sem]); (first | refine FunPost.one ?_ | refine FunPost.two ?_ | refine FunPost.three ?_); (try simp (config := { maxSteps := 1000000 }) (disch := (first | omega | (simp only [go_sem]; try omega))) only [go_sem, Nat.reduceAdd, Nat.reduceEqDiff, Nat.reduceLeDiff, Nat.reduceMul, Nat.reduceLT, reduceIte, Int.reduceToNat, w64_id, cast_succ])
    have e : (AV.nm H.length ver 0 i) = .nm H.length ver 0 (idL i).length := by rw [hil]
    rw [e]
    exact GR.froz (froz_rowI (ver := ver) (ty := 2) (by omega) (by simp)) ⟨rfl, rfl⟩

/-- A list's key. -/
def w8 (x : Int) : Int := IntKind.u8.wrap x
def keyS (p : List Int) : ByteArray := bytesOf (p.map w8)
def by8 (x : Int) : AV := .lit (.int .u8 x)
theorem ConvW_u8 (x : Int) (H : List Blk) (K : AV → List Blk → Prop) : ConvW .u8 (I x) H K = K (by8 (w8 x)) H := (rfl)
theorem partsOf_by8 (x : Int) : partsOf (by8 x) = [by8 x] := (rfl)
theorem cell1_by8 (x : Int) : (by8 x).cell1 = true := (rfl)
theorem keyOf_fn (p : List Int) (hl : p.length ≤ 1000000) : PFn Try.prog f_impl_keyOf [ilS p] (.lit (.string (keyS p))) := by
  intro H; refine ACalls.introB s_impl_keyOf (by simp) ?_; intro hB hA; unfold c_impl_keyOf; simp (config := { maxSteps := 1000000 }) (disch := (first | omega | (simp only [go_sem]; try omega))) only [go_sem, Nat.reduceAdd, Nat.reduceEqDiff, Nat.reduceLeDiff, Nat.reduceMul, Nat.reduceLT, reduceIte, Int.reduceToNat, w64_id, cast_succ]
  repeat (first | (with_reducible first | refine SW.seq ?_ | refine SW.block ?_ | refine SW.rowC ?_ | refine SW.skip ?_ | refine SW.exit ?_ | intro _ | refine And.intro (by omega) ?_) | simp (config := { maxSteps := 1000000 }) (disch := (first | omega | (simp only [go_sem]; try omega))) only [go_sem, Nat.reduceAdd, Nat.reduceEqDiff, Nat.reduceLeDiff, Nat.reduceMul, Nat.reduceLT, reduceIte, Int.reduceToNat, w64_id, cast_succ])
  have hrep : (List.replicate p.length (AV.lit (.int .u8 0))) = (tab p.length fun j => if j < 0 then w8 (p.getD j 0) else 0).map by8 := by
    unfold tab by8
    rw [List.map_map]
    apply List.ext_getElem
    · simp
    · intro j h1 h2; simp
  rw [hrep]
  refine SW.loopE (fun E0 H0 q' E' H' => ∃ i : Nat, i ≤ p.length ∧ q' = p.length - i ∧ E' = aput E0 11 (I i) ∧ H' = H ++ [⟨0, 5, 1, (tab p.length fun j => if j < i then w8 (p.getD j 0) else 0).map by8⟩]) p.length ⟨0, by omega, by omega, rfl, rfl⟩ ?_
  rintro q' E' H' ⟨i, hi, rfl, rfl, rfl⟩
  have hll := tab_length p.length fun j => if j < i then w8 (p.getD j 0) else (0 : Int)
  have htk := (List.take_of_length_le (l := (tab p.length fun j => if j < i then w8 (p.getD j 0) else (0 : Int)).map by8) (i := p.length) (by rw [List.length_map, hll]; exact Nat.le_refl _))
  simp (config := { maxSteps := 1000000 }) (disch := (first | omega | (simp only [go_sem]; try omega))) only [go_sem, Nat.reduceAdd, Nat.reduceEqDiff, Nat.reduceLeDiff, Nat.reduceMul, Nat.reduceLT, reduceIte, Int.reduceToNat, w64_id, cast_succ]
  repeat (first | (with_reducible first | refine SW.seq ?_ | refine SW.block ?_ | refine SW.rowC ?_ | refine SW.skip ?_ | refine SW.exit ?_ | intro _ | refine And.intro (by omega) ?_) | simp (config := { maxSteps := 1000000 }) (disch := (first | omega | (simp only [go_sem]; try omega))) only [go_sem, Nat.reduceAdd, Nat.reduceEqDiff, Nat.reduceLeDiff, Nat.reduceMul, Nat.reduceLT, reduceIte, Int.reduceToNat, w64_id, cast_succ])
  (first | refine SW.condD rfl (fun h2 => ?_) (fun h2 => ?_) | refine SW.condN rfl (fun h2 => ?_) (fun h2 => ?_) | refine SW.condNB rfl (fun h2 => ?_) (fun h2 => ?_) | refine SW.condB rfl (fun h2 => ?_) (fun h2 => ?_))
  · repeat (first | (with_reducible first | refine SW.seq ?_ | refine SW.block ?_ | refine SW.rowC ?_ | refine SW.skip ?_ | refine SW.exit ?_ | intro _ | refine And.intro (by omega) ?_) | simp (config := { maxSteps := 1000000 }) (disch := (first | omega | (simp only [go_sem]; try omega))) only [go_sem, Nat.reduceAdd, Nat.reduceEqDiff, Nat.reduceLeDiff, Nat.reduceMul, Nat.reduceLT, reduceIte, Int.reduceToNat, w64_id, cast_succ, htk, ConvW_u8, partsOf_by8, cell1_by8])
    refine SLoop.next (p.length - (i + 1)) (by omega) ⟨i + 1, by omega, rfl, rfl, ?_⟩
    rw [← List.map_set, tab_set]
    congr 4
    exact tab_congr fun j hj => by
      by_cases hji : j = i
      · subst hji; rw [if_pos rfl, if_pos (by omega)]
      · rw [if_neg hji]
        by_cases h3 : j < i
        · rw [if_pos h3, if_pos (by omega)]
        · rw [if_neg h3, if_neg (by omega)]
  · have : i = p.length := by omega
    subst this
    have hm : (tab p.length fun j => if j < p.length then w8 (p.getD j 0) else 0) = p.map w8 := by
      have e : (tab p.length fun j => if j < p.length then w8 (p.getD j 0) else 0) = tab p.length fun j => w8 (p.getD j 0) := tab_congr fun j hj => by rw [if_pos hj]
      rw [e]
      conv => rhs; rw [tab_of p]
      unfold tab
      rw [List.map_map]; rfl
    rw [hm]
    repeat (first | (with_reducible first | refine SW.seq ?_ | refine SW.block ?_ | refine SW.rowC ?_ | refine SW.skip ?_ | refine SW.exit ?_ | intro _ | refine And.intro (by omega) ?_) | simp (config := { maxSteps := 1000000 }) (disch := (first | omega | (simp only [go_sem]; try omega))) only [go_sem, Nat.reduceAdd, Nat.reduceEqDiff, Nat.reduceLeDiff, Nat.reduceMul, Nat.reduceLT, reduceIte, Int.reduceToNat, w64_id, cast_succ, htk])
    refine StrW.of _ _ (p.map w8) (by simp) (by rw [List.take_of_length_le (by simp)]; rfl) ?_
    repeat (first | (with_reducible first | refine SW.seq ?_ | refine SW.block ?_ | refine SW.rowC ?_ | refine SW.skip ?_ | refine SW.exit ?_ | intro _ | refine And.intro (by omega) ?_) | simp (config := { maxSteps := 1000000 }) (disch := (first | omega | (simp only [go_sem]; try omega))) only [go_sem, Nat.reduceAdd, Nat.reduceEqDiff, Nat.reduceLeDiff, Nat.reduceMul, Nat.reduceLT, reduceIte, Int.reduceToNat, w64_id, cast_succ])
    refine SW.ret ?_; (try simp only [go_sem]); (first | refine FunPost.one ?_ | refine FunPost.two ?_ | refine FunPost.three ?_); (try simp (config := { maxSteps := 1000000 }) (disch := (first | omega | (simp only [go_sem]; try omega))) only [go_sem, Nat.reduceAdd, Nat.reduceEqDiff, Nat.reduceLeDiff, Nat.reduceMul, Nat.reduceLT, reduceIte, Int.reduceToNat, w64_id, cast_succ]); (first | (with_reducible refine GR.drop ?_ ?_; (simp only [go_sem, and_self, and_true, true_and, implies_true, List.take_succ_cons, List.take_zero])) | refine GR.of ?_); refine ⟨?_, rfl⟩; (try with_reducible rfl)
    rfl

theorem bytes_fold (ns : List Int) (b : ByteArray) : (ns.foldl (fun r n => r.push (UInt8.ofNat n.toNat)) b).data.toList = b.data.toList ++ ns.map fun n => UInt8.ofNat n.toNat := by
  induction ns generalizing b with
  | nil => simp
  | cons n ns ih =>
    rw [List.foldl_cons, ih]
    have : (b.push (UInt8.ofNat n.toNat)).data.toList = b.data.toList ++ [UInt8.ofNat n.toNat] := by cases b; simp [ByteArray.push]
    rw [this]; simp
theorem map_inj_on {A B : Type} {f : A → B} {P : A → Prop} (hf : ∀ x y, P x → P y → f x = f y → x = y) : ∀ {l m : List A}, (∀ x ∈ l, P x) → (∀ x ∈ m, P x) → l.map f = m.map f → l = m
  | [], [], _, _, _ => rfl
  | [], _ :: _, _, _, h => by simp at h
  | _ :: _, [], _, _, h => by simp at h
  | x :: l, y :: m, h1, h2, h => by
    simp only [List.map_cons, List.cons.injEq] at h
    rw [hf x y (h1 x (by simp)) (h2 y (by simp)) h.1, map_inj_on hf (fun x hx => h1 x (by simp [hx])) (fun x hx => h2 x (by simp [hx])) h.2]
theorem w8_id {x : Int} (h0 : 0 ≤ x) (h1 : x < 256) : w8 x = x := by
  have e : x % (2 ^ IntKind.u8.bits : Int) = x := by
    show x % (2 ^ 8 : Int) = x
    omega
  show (if (false && decide (x % (2 ^ IntKind.u8.bits : Int) ≥ (2 ^ (IntKind.u8.bits - 1) : Int))) = true then x % (2 ^ IntKind.u8.bits : Int) - (2 ^ IntKind.u8.bits : Int) else x % (2 ^ IntKind.u8.bits : Int)) = x
  rw [Bool.false_and, if_neg (by simp), e]
theorem keyS_inj {p q : List Int} (hp : ∀ x ∈ p, 0 ≤ x ∧ x < 256) (hq : ∀ x ∈ q, 0 ≤ x ∧ x < 256) (h : keyS p = keyS q) : p = q := by
  have h1 := congrArg (fun b : ByteArray => b.data.toList) h
  simp only [keyS, bytesOf, bytes_fold] at h1
  simp only [List.map_map] at h1
  have h2 := List.append_cancel_left h1
  refine map_inj_on (P := fun x => 0 ≤ x ∧ x < 256) ?_ hp hq h2
  intro x y hx hy hxy
  simp only [Function.comp_apply, w8_id hx.1 hx.2, w8_id hy.1 hy.2] at hxy
  have h3 := congrArg UInt8.toNat hxy
  simp only [UInt8.toNat_ofNat'] at h3
  omega
theorem keyS_perm {n : Nat} {p q : List Int} (hn : n ≤ 64) (hp : permOk n p) (hq : permOk n q) (h : keyS p = keyS q) : p = q :=
  keyS_inj (fun x hx => by have := hp.2.2 x hx; omega) (fun x hx => by have := hq.2.2 x hx; omega) h
/-- What the program keeps of what it has met. -/
def seenM (L : List (List Int)) : List (MK × Value) := L.map fun q => (.s (keyS q), .bool true)
theorem seenM_kind (L : List (List Int)) : ∀ p ∈ seenM L, p.1.kind = 0 := by
  intro p hp
  obtain ⟨q, _, rfl⟩ := List.mem_map.1 hp
  rfl
theorem seenM_new {n : Nat} (hn : n ≤ 64) {L : List (List Int)} (hL : ∀ q ∈ L, permOk n q) {p : List Int} (hp : permOk n p) (h : p ∉ L) : ∀ x ∈ seenM L, x.1 ≠ .s (keyS p) := by
  intro x hx
  obtain ⟨q, hq, rfl⟩ := List.mem_map.1 hx
  intro he
  have := keyS_perm hn (hL q hq) hp (by simpa using he)
  exact h (this ▸ hq)
theorem seenM_val {n : Nat} (hn : n ≤ 64) {L : List (List Int)} (hL : ∀ q ∈ L, permOk n q) {p : List Int} (hp : permOk n p) : mval (seenM L) (.s (keyS p)) (.bool false) = .bool (decide (p ∈ L)) := by
  unfold mval
  by_cases h : p ∈ L
  · rw [decide_eq_true h]
    cases hf : (seenM L).find? (fun x => decide (x.1 = .s (keyS p))) with
    | none =>
      rw [List.find?_eq_none] at hf
      have := hf (.s (keyS p), .bool true) (List.mem_map.2 ⟨p, h, rfl⟩)
      simp at this
    | some x =>
      obtain ⟨q, _, rfl⟩ := List.mem_map.1 (List.mem_of_find?_eq_some hf)
      rfl
  · rw [decide_eq_false h]
    have : (seenM L).find? (fun x => decide (x.1 = .s (keyS p))) = none := by
      rw [List.find?_eq_none]
      intro x hx
      simpa using seenM_new hn hL hp h x hx
    rw [this]; rfl
theorem seenM_snoc (L : List (List Int)) (p : List Int) : seenM (L ++ [p]) = seenM L ++ [(.s (keyS p), .bool true)] := by simp [seenM]
end Go.Proofs.Ytkifdjjnbplghaa
