/- Numbers of graphs: both functions, the law. -/
import Derived.Test.YtkifdjjnbplghaaProg
import Derived.KernelRfl
import Derived.Test.YtkifdjjnbplghaaN3
set_option linter.unusedSimpArgs false
set_option linter.unusedVariables false
set_option maxHeartbeats 4000000
set_option maxRecDepth 100000
namespace Go.Proofs.Ytkifdjjnbplghaa
open Go.Av

/-! The abstract code of functions, printed by program and tied to the program by the kernel. -/
/-- loop.example/g00920/laws.FnExactCountGraphs -/
abbrev f_laws_FnExactCountGraphs : Nat := 6
def c_laws_FnExactCountGraphs : SC :=
 .seq (.reg [
     ⟨(some 2), .mv (.const (.bool false)), none⟩] [0])
 (.seq (.reg [
     ⟨(some 8), .mv (.tmp 0), none⟩,
     ⟨(some 9), .call 21 [(.tmp 8)], none⟩,
     ⟨(some 7), .mv (.tmp 9), none⟩,
     ⟨(some 10), .ext (.tmp 7) 0, none⟩,
     ⟨(some 11), .ext (.tmp 7) 1, none⟩,
     ⟨(some 3), .mv (.tmp 10), none⟩,
     ⟨(some 4), .mv (.tmp 11), none⟩] [0, 3, 4])
 (.seq (.reg [
     ⟨(some 13), .mv (.tmp 0), none⟩,
     ⟨(some 14), .call 22 [(.tmp 13)], none⟩,
     ⟨(some 12), .mv (.tmp 14), none⟩,
     ⟨(some 15), .ext (.tmp 12) 0, none⟩,
     ⟨(some 16), .ext (.tmp 12) 1, none⟩,
     ⟨(some 5), .mv (.tmp 15), none⟩,
     ⟨(some 6), .mv (.tmp 16), none⟩] [3, 4, 5, 6])
 (.seq (.seq (.reg [
     ⟨(some 17), .mv (.tmp 5), none⟩,
     ⟨(some 18), .mv (.tmp 3), none⟩,
     ⟨(some 19), .bin .neq (.tmp 17) (.tmp 18), none⟩,
     ⟨(some 20), .mv (.tmp 19), none⟩,
     ⟨(some 21), .mv (.tmp 6), (some (20, false))⟩,
     ⟨(some 22), .mv (.tmp 4), (some (20, false))⟩,
     ⟨(some 23), .bin .neq (.tmp 21) (.tmp 22), (some (20, false))⟩,
     ⟨(some 24), .pick (.tmp 20) (.const (.bool true)) (.tmp 23), none⟩] [24])
 (.cond (.tmp 24)
  (.seq (.reg [
      ⟨(some 2), .mv (.const (.bool false)), none⟩] [2])
  (.ret))
  (.skip)))
 (.seq (.reg [
     ⟨(some 2), .mv (.const (.bool true)), none⟩] [2])
 (.ret)))))
theorem s_laws_FnExactCountGraphs : stripF Try.prog 6 [[0], [0, 3, 4], [3, 4, 5, 6], [24], [2], [2]] = some (c_laws_FnExactCountGraphs, [.tmp 2], 25) := by kernel_rfl

/-- loop.example/g00920/spec.CountGraphs -/
abbrev f_spec_CountGraphs : Nat := 21
def c_spec_CountGraphs : SC :=
 .seq (.reg [
     ⟨(some 2), .mv (.const (.int .i64 0)), none⟩,
     ⟨(some 3), .mv (.const (.int .i64 0)), none⟩] [0])
 (.seq (.seq (.reg [
     ⟨(some 6), .mv (.tmp 0), none⟩,
     ⟨(some 7), .call 34 [(.tmp 6), (.const (.int .i64 1)), (.const (.int .i64 6))], none⟩,
     ⟨(some 8), .un .not (.tmp 7), none⟩] [0, 8])
 (.cond (.tmp 8)
  (.seq (.reg [
      ⟨(some 2), .mv (.const (.int .i64 0)), none⟩,
      ⟨(some 3), .mv (.const (.int .i64 2)), none⟩] [2, 3])
  (.ret))
  (.skip)))
 (.seq (.reg [
     ⟨(some 4), .mv (.const (.int .i64 0)), none⟩] [0, 4])
 (.seq (.seq (.reg [
     ⟨(some 5), .mv (.const (.int .i64 0)), none⟩] [0, 4, 5])
 (.block 0 (.loop [0, 4, 5]
   (.seq (.seq (.reg [
       ⟨(some 9), .mv (.tmp 5), none⟩,
       ⟨(some 10), .mv (.tmp 0), none⟩,
       ⟨(some 11), .call 39 [(.tmp 10)], none⟩,
       ⟨(some 12), .bin .lss (.tmp 9) (.tmp 11), none⟩] [0, 4, 5, 12])
   (.cond (.tmp 12)
    (.skip)
    (.exit 0)))
   (.seq (.block 1 (.reg [
        ⟨(some 15), .mv (.tmp 4), none⟩,
        ⟨(some 16), .mv (.tmp 0), none⟩,
        ⟨(some 17), .mv (.tmp 5), none⟩,
        ⟨(some 18), .call 41 [(.tmp 16), (.tmp 17)], none⟩,
        ⟨(some 19), .call 40 [(.tmp 18)], none⟩,
        ⟨(some 20), .bin .shl (.const (.int .i64 1)) (.tmp 19), none⟩,
        ⟨(some 21), .bin .add (.tmp 15) (.tmp 20), none⟩,
        ⟨(some 4), .mv (.tmp 21), none⟩] [0, 4, 5]))
   (.reg [
       ⟨(some 13), .mv (.tmp 5), none⟩,
       ⟨(some 14), .bin .add (.tmp 13) (.const (.int .i64 1)), none⟩,
       ⟨(some 5), .mv (.tmp 14), none⟩] [0, 4, 5]))))))
 (.seq (.reg [
     ⟨(some 22), .mv (.tmp 4), none⟩,
     ⟨(some 23), .mv (.tmp 0), none⟩,
     ⟨(some 24), .call 39 [(.tmp 23)], none⟩,
     ⟨(some 25), .bin .quo (.tmp 22) (.tmp 24), none⟩,
     ⟨(some 2), .mv (.tmp 25), none⟩,
     ⟨(some 3), .mv (.const (.int .i64 0)), none⟩] [2, 3])
 (.ret)))))
theorem s_spec_CountGraphs : stripF Try.prog 21 [[0], [0, 8], [2, 3], [0, 4], [0, 4, 5], [0, 4, 5], [0, 4, 5, 12], [0, 4, 5], [0, 4, 5], [2, 3]] = some (c_spec_CountGraphs, [.tmp 2, .tmp 3], 26) := by kernel_rfl

/-- loop.example/g00920/impl.CountGraphs -/
abbrev f_impl_CountGraphs : Nat := 22
def c_impl_CountGraphs : SC :=
 .seq (.reg [
     ⟨(some 2), .mv (.const (.int .i64 0)), none⟩,
     ⟨(some 3), .mv (.const (.int .i64 0)), none⟩] [0])
 (.seq (.seq (.reg [
     ⟨(some 7), .mv (.tmp 0), none⟩,
     ⟨(some 8), .call 37 [(.tmp 7), (.const (.int .i64 1)), (.const (.int .i64 6))], none⟩,
     ⟨(some 9), .un .not (.tmp 8), none⟩] [0, 9])
 (.cond (.tmp 9)
  (.seq (.reg [
      ⟨(some 2), .mv (.const (.int .i64 0)), none⟩,
      ⟨(some 3), .mv (.const (.int .i64 2)), none⟩] [2, 3])
  (.ret))
  (.skip)))
 (.seq (.reg [
     ⟨(some 4), .mv (.const (.int .i64 0)), none⟩] [0, 4])
 (.seq (.seq (.reg [
     ⟨(some 10), .mv (.tmp 0), none⟩,
     ⟨(some 11), .call 42 [(.tmp 10)], none⟩,
     ⟨(some 12), .len (.tmp 11), none⟩,
     ⟨(some 13), .mv (.const (.int .i64 0)), none⟩] [0, 4, 11, 12, 13])
 (.block 0 (.loop [0, 4, 11, 12, 13]
   (.seq (.reg [
       ⟨(some 14), .bin .lss (.tmp 13) (.tmp 12), none⟩] [0, 4, 11, 12, 13, 14])
   (.seq (.cond (.tmp 14)
    (.skip)
    (.exit 0))
   (.seq (.block 1 (.seq (.reg [
        ⟨(some 15), .iaddr 1 (.tmp 11) (.tmp 13), none⟩,
        ⟨(some 16), .load 1 false (.tmp 15), none⟩,
        ⟨(some 6), .mv (.tmp 16), none⟩] [0, 4, 6, 11, 12, 13])
    (.reg [
        ⟨(some 17), .mv (.tmp 4), none⟩,
        ⟨(some 18), .mv (.tmp 6), none⟩,
        ⟨(some 19), .call 43 [(.tmp 18)], none⟩,
        ⟨(some 20), .bin .shl (.const (.int .i64 1)) (.tmp 19), none⟩,
        ⟨(some 21), .bin .add (.tmp 17) (.tmp 20), none⟩,
        ⟨(some 4), .mv (.tmp 21), none⟩] [0, 4, 11, 12, 13])))
   (.reg [
       ⟨(some 22), .bin .add (.tmp 13) (.const (.int .i64 1)), none⟩,
       ⟨(some 13), .mv (.tmp 22), none⟩] [0, 4, 11, 12, 13])))))))
 (.seq (.reg [
     ⟨(some 23), .mv (.tmp 4), none⟩,
     ⟨(some 24), .mv (.tmp 0), none⟩,
     ⟨(some 25), .call 44 [(.tmp 24)], none⟩,
     ⟨(some 26), .bin .quo (.tmp 23) (.tmp 25), none⟩,
     ⟨(some 2), .mv (.tmp 26), none⟩,
     ⟨(some 3), .mv (.const (.int .i64 0)), none⟩] [2, 3])
 (.ret)))))
theorem s_impl_CountGraphs : stripF Try.prog 22 [[0], [0, 9], [2, 3], [0, 4], [0, 4, 11, 12, 13], [0, 4, 11, 12, 13], [0, 4, 11, 12, 13, 14], [0, 4, 6, 11, 12, 13], [0, 4, 11, 12, 13], [0, 4, 11, 12, 13], [2, 3]] = some (c_impl_CountGraphs, [.tmp 2, .tmp 3], 27) := by kernel_rfl


def powC (p : List Int) (n : Nat) : Nat := 2 ^ cycP p n
def sumC (n : Nat) (l : List (List Int)) : Nat := l.foldl (fun s p => s + powC p n) 0
theorem sumC_snoc (n : Nat) (l : List (List Int)) (p : List Int) : sumC n (l ++ [p]) = sumC n l + powC p n := by unfold sumC; rw [List.foldl_append]; rfl
theorem cycP_le {n : Nat} {p : List Int} (hp : permOk n p) (hn : n ≤ 6) (hn1 : 1 ≤ n) : cycP p n ≤ 42 := by
  unfold cycP
  have e : stP p n n (n + 1) = stP p n (n - 1) n := by
    have := stP_a p n (n - 1)
    rw [show n - 1 + 1 = n by omega, show n - 1 + 2 = n + 1 by omega] at this
    exact this
  rw [e]
  exact (stP_ok hp hn (by omega) (Nat.le_refl _)).2
theorem powC_le {n : Nat} {p : List Int} (hp : permOk n p) (hn : n ≤ 6) (hn1 : 1 ≤ n) : powC p n ≤ 4398046511104 := by
  unfold powC
  have h := Nat.pow_le_pow_right (show 0 < 2 by omega) (cycP_le hp hn hn1)
  have e : 2 ^ 42 = 4398046511104 := by decide
  omega
theorem powC_is {n : Nat} {p : List Int} (hp : permOk n p) (hn : n ≤ 6) (hn1 : 1 ≤ n) : (2 : Int) ^ (min (cycP p n) 64) = ((powC p n : Nat) : Int) := by
  have h := cycP_le hp hn hn1
  rw [Nat.min_eq_left (by omega)]
  unfold powC
  simp
theorem perms_okN {n : Nat} {p : List Int} (h : p ∈ perms n) : permOk n p := by
  obtain ⟨r, hr, rfl⟩ := List.mem_map.1 h
  rw [List.mem_range] at hr
  exact perm_ok hr
theorem sumC_le {n : Nat} (hn : n ≤ 6) (hn1 : 1 ≤ n) : ∀ l : List (List Int), (∀ p ∈ l, permOk n p) → sumC n l ≤ 4398046511104 * l.length := by
  intro l
  rw [← List.reverse_reverse l]
  induction l.reverse with
  | nil => intro _; simp [sumC]
  | cons p r ih =>
    intro h
    rw [List.reverse_cons] at h ⊢
    have h1 := ih (fun q hq => h q (by simp at hq ⊢; exact .inl hq))
    have h2 := powC_le (h p (by simp)) hn hn1
    rw [sumC_snoc, List.length_append]
    simp only [List.length_cons, List.length_nil]
    omega
def cgV (n : Int) : Int := if 1 ≤ n ∧ n ≤ 6 then ((sumC n.toNat (perms n.toNat) : Nat) : Int).tdiv ((fct n.toNat : Nat) : Int) else 0
def cgC (n : Int) : Int := if 1 ≤ n ∧ n ≤ 6 then 0 else 2
theorem perms_len (n : Nat) : (perms n).length = fct n := by simp [perms]
theorem perms_take (n r : Nat) (h : r < fct n) : (perms n).take (r + 1) = (perms n).take r ++ [perm n r] := by
  rw [List.take_add_one, List.getElem?_eq_getElem (by rw [perms_len]; exact h)]
  simp [perms]
theorem implCountGraphs_fn (n : Int) : PFn Try.prog f_impl_CountGraphs [I n] (.tup [I (cgV n), I (cgC n)]) := by
  have hw := within_fn n 1 6
  unfold cgV cgC
  by_cases h : 1 ≤ n ∧ n ≤ 6
  · rw [if_pos h, if_pos h]
    rw [show (decide (1 ≤ n) && decide (n ≤ 6)) = true by simp [h]] at hw
    obtain ⟨n, rfl⟩ := Int.eq_ofNat_of_zero_le (show 0 ≤ n by omega)
    simp only [Int.toNat_natCast]
    have hap := allPermutations_fn n (by omega)
    have hfa := implFact_fn n (by omega)
    have hpos := fct_pos n
    have hle := fct_le (n := n) (by omega)
    have hpl := perms_len n
    have hall : ∀ p ∈ perms n, permOk n p := fun p hp => perms_okN hp
    generalize perms n = L at *
    intro H; refine ACalls.introB s_impl_CountGraphs (by simp) ?_; intro hB hA; unfold c_impl_CountGraphs; simp (config := { maxSteps := 1000000 }) (disch := (first | omega | (simp only [go_sem]; try omega))) only [go_sem, Nat.reduceAdd, Nat.reduceEqDiff, Nat.reduceLeDiff, Nat.reduceMul, Nat.reduceLT, reduceIte, Int.reduceToNat, w64_id, cast_succ]
    repeat (first | (with_reducible first | refine SW.seq ?_ | refine SW.block ?_ | refine SW.rowC ?_ | refine SW.skip ?_ | refine SW.exit ?_ | refine PFn.use (hw) ?_ | refine PFn.useq (hw) ?_ | intro _ | refine And.intro (by omega) ?_) | simp (config := { maxSteps := 1000000 }) (disch := (first | omega | (simp only [go_sem]; try omega))) only [go_sem, Nat.reduceAdd, Nat.reduceEqDiff, Nat.reduceLeDiff, Nat.reduceMul, Nat.reduceLT, reduceIte, Int.reduceToNat, w64_id, cast_succ])
    refine SW.condF rfl ?_
    repeat (first | (with_reducible first | refine SW.seq ?_ | refine SW.block ?_ | refine SW.rowC ?_ | refine SW.skip ?_ | refine SW.exit ?_ | refine PFn.use (hap) ?_ | refine PFn.useq (hap) ?_ | intro _ | refine And.intro (by omega) ?_) | simp (config := { maxSteps := 1000000 }) (disch := (first | omega | (simp only [go_sem]; try omega))) only [go_sem, Nat.reduceAdd, Nat.reduceEqDiff, Nat.reduceLeDiff, Nat.reduceMul, Nat.reduceLT, reduceIte, Int.reduceToNat, w64_id, cast_succ])
    refine SW.loopE (fun E0 H0 q E' H' => ∃ (pre post : List (List Int)), L = pre ++ post ∧ q = post.length ∧ E' = aput (aput E0 13 (I pre.length)) 4 (I (sumC n pre)) ∧ H' = H0) L.length ⟨[], L, rfl, rfl, rfl, rfl⟩ ?_
    rintro q E' H' ⟨pre, post, hpp, rfl, rfl, rfl⟩
    have hprl : pre.length ≤ 720 := by
      have := congrArg List.length hpp
      simp at this; omega
    have hsl := sumC_le (n := n) (by omega) (by omega) pre (fun p hp => hall p (by rw [hpp]; simp [hp]))
    have hss := fun p => sumC_snoc n pre p
    generalize hS : sumC n pre = S at *
    simp (config := { maxSteps := 1000000 }) (disch := (first | omega | (simp only [go_sem]; try omega))) only [go_sem, Nat.reduceAdd, Nat.reduceEqDiff, Nat.reduceLeDiff, Nat.reduceMul, Nat.reduceLT, reduceIte, Int.reduceToNat, w64_id, cast_succ]
    repeat (first | (with_reducible first | refine SW.seq ?_ | refine SW.block ?_ | refine SW.rowC ?_ | refine SW.skip ?_ | refine SW.exit ?_ | intro _ | refine And.intro (by omega) ?_) | simp (config := { maxSteps := 1000000 }) (disch := (first | omega | (simp only [go_sem]; try omega))) only [go_sem, Nat.reduceAdd, Nat.reduceEqDiff, Nat.reduceLeDiff, Nat.reduceMul, Nat.reduceLT, reduceIte, Int.reduceToNat, w64_id, cast_succ])
    (first | refine SW.condD rfl (fun h2 => ?_) (fun h2 => ?_) | refine SW.condN rfl (fun h2 => ?_) (fun h2 => ?_) | refine SW.condNB rfl (fun h2 => ?_) (fun h2 => ?_) | refine SW.condB rfl (fun h2 => ?_) (fun h2 => ?_))
    · obtain ⟨p, post, rfl, hg, -⟩ := consOf (d := []) hpp (by omega)
      have hp := hall p (by rw [hpp]; simp)
      have hcy := implPairCycles_fn n p (by omega) (by omega) hp
      have hpw := powC_is hp (by omega) (by omega)
      have hpl2 := powC_le hp (by omega) (by omega)
      repeat (first | (with_reducible first | refine SW.seq ?_ | refine SW.block ?_ | refine SW.rowC ?_ | refine SW.skip ?_ | refine SW.exit ?_ | refine PFn.use (hcy) ?_ | refine PFn.useq (hcy) ?_ | intro _ | refine And.intro (by omega) ?_) | simp (config := { maxSteps := 1000000 }) (disch := (first | omega | (simp only [go_sem]; try omega))) only [go_sem, Nat.reduceAdd, Nat.reduceEqDiff, Nat.reduceLeDiff, Nat.reduceMul, Nat.reduceLT, reduceIte, Int.reduceToNat, w64_id, cast_succ, hg, hpw])
      refine SLoop.next post.length (by simp) ⟨pre ++ [p], post, by simp [hpp], rfl, ?_, rfl⟩
      rw [hss]; simp [go_sem]
    · obtain ⟨rfl, rfl⟩ := nilOf hpp (by omega)
      have hne : ¬ ((fct n : Nat) : Int) = 0 := by omega
      have hb : -9223372036854775808 ≤ ((S : Nat) : Int).tdiv ((fct n : Nat) : Int) ∧ ((S : Nat) : Int).tdiv ((fct n : Nat) : Int) ≤ 9223372036854775807 := by
        rw [Int.tdiv_eq_ediv_of_nonneg (by omega)]
        have h1 := Int.ediv_nonneg (show (0 : Int) ≤ S by omega) (show (0 : Int) ≤ fct n by omega)
        have h2 := Int.ediv_le_self ((fct n : Nat) : Int) (show (0 : Int) ≤ S by omega)
        omega
      have hwq := w64_id hb.1 hb.2
      repeat (first | (with_reducible first | refine SW.seq ?_ | refine SW.block ?_ | refine SW.rowC ?_ | refine SW.skip ?_ | refine SW.exit ?_ | refine PFn.use (hfa) ?_ | refine PFn.useq (hfa) ?_ | intro _ | refine And.intro (by omega) ?_) | simp (config := { maxSteps := 1000000 }) (disch := (first | omega | (simp only [go_sem]; try omega))) only [go_sem, Nat.reduceAdd, Nat.reduceEqDiff, Nat.reduceLeDiff, Nat.reduceMul, Nat.reduceLT, reduceIte, Int.reduceToNat, w64_id, cast_succ, hne, hwq])
      refine SW.ret ?_; (try simp only [go_sem]); (first | refine FunPost.one ?_ | refine FunPost.two ?_ | refine FunPost.three ?_); (try simp (config := { maxSteps := 1000000 }) (disch := (first | omega | (simp only [go_sem]; try omega))) only [go_sem, Nat.reduceAdd, Nat.reduceEqDiff, Nat.reduceLeDiff, Nat.reduceMul, Nat.reduceLT, reduceIte, Int.reduceToNat, w64_id, cast_succ]); (first | (with_reducible refine GR.drop ?_ ?_; (simp only [go_sem, and_self, and_true, true_and, implies_true, List.take_succ_cons, List.take_zero])) | refine GR.of ?_); refine ⟨?_, rfl⟩; (try with_reducible rfl)
      rw [hS]
  · rw [if_neg h, if_neg h]
    rw [show (decide (1 ≤ n) && decide (n ≤ 6)) = false by rw [Bool.and_eq_false_iff, decide_eq_false_iff_not, decide_eq_false_iff_not]; omega] at hw
    intro H; refine ACalls.introB s_impl_CountGraphs (by simp) ?_; intro hB hA; unfold c_impl_CountGraphs; simp (config := { maxSteps := 1000000 }) (disch := (first | omega | (simp only [go_sem]; try omega))) only [go_sem, Nat.reduceAdd, Nat.reduceEqDiff, Nat.reduceLeDiff, Nat.reduceMul, Nat.reduceLT, reduceIte, Int.reduceToNat, w64_id, cast_succ]
    repeat (first | (with_reducible first | refine SW.seq ?_ | refine SW.block ?_ | refine SW.rowC ?_ | refine SW.skip ?_ | refine SW.exit ?_ | refine PFn.use (hw) ?_ | refine PFn.useq (hw) ?_ | intro _ | refine And.intro (by omega) ?_) | simp (config := { maxSteps := 1000000 }) (disch := (first | omega | (simp only [go_sem]; try omega))) only [go_sem, Nat.reduceAdd, Nat.reduceEqDiff, Nat.reduceLeDiff, Nat.reduceMul, Nat.reduceLT, reduceIte, Int.reduceToNat, w64_id, cast_succ])
    refine SW.condT rfl ?_
    repeat (first | (with_reducible first | refine SW.seq ?_ | refine SW.block ?_ | refine SW.rowC ?_ | refine SW.skip ?_ | refine SW.exit ?_ | intro _ | refine And.intro (by omega) ?_) | simp (config := { maxSteps := 1000000 }) (disch := (first | omega | (simp only [go_sem]; try omega))) only [go_sem, Nat.reduceAdd, Nat.reduceEqDiff, Nat.reduceLeDiff, Nat.reduceMul, Nat.reduceLT, reduceIte, Int.reduceToNat, w64_id, cast_succ])
    refine SW.ret ?_; (try simp only [go_sem]); (first | refine FunPost.one ?_ | refine FunPost.two ?_ | refine FunPost.three ?_); (try simp (config := { maxSteps := 1000000 }) (disch := (first | omega | (simp only [go_sem]; try omega))) only [go_sem, Nat.reduceAdd, Nat.reduceEqDiff, Nat.reduceLeDiff, Nat.reduceMul, Nat.reduceLT, reduceIte, Int.reduceToNat, w64_id, cast_succ]); (first | (with_reducible refine GR.drop ?_ ?_; (simp only [go_sem, and_self, and_true, true_and, implies_true, List.take_succ_cons, List.take_zero])) | refine GR.of ?_); refine ⟨?_, rfl⟩; (try with_reducible rfl)
theorem specCountGraphs_fn (n : Int) : PFn Try.prog f_spec_CountGraphs [I n] (.tup [I (cgV n), I (cgC n)]) := by
  have hw := l00In_fn n 1 6
  unfold cgV cgC
  by_cases h : 1 ≤ n ∧ n ≤ 6
  · rw [if_pos h, if_pos h]
    rw [show (decide (1 ≤ n) && decide (n ≤ 6)) = true by simp [h]] at hw
    obtain ⟨n, rfl⟩ := Int.eq_ofNat_of_zero_le (show 0 ≤ n by omega)
    simp only [Int.toNat_natCast]
    have hfa := specFact_fn n (by omega)
    have hpos := fct_pos n
    have hle := fct_le (n := n) (by omega)
    have hpl := perms_len n
    have hall : ∀ p ∈ perms n, permOk n p := fun p hp => perms_okN hp
    intro H; refine ACalls.introB s_spec_CountGraphs (by simp) ?_; intro hB hA; unfold c_spec_CountGraphs; simp (config := { maxSteps := 1000000 }) (disch := (first | omega | (simp only [go_sem]; try omega))) only [go_sem, Nat.reduceAdd, Nat.reduceEqDiff, Nat.reduceLeDiff, Nat.reduceMul, Nat.reduceLT, reduceIte, Int.reduceToNat, w64_id, cast_succ]
    repeat (first | (with_reducible first | refine SW.seq ?_ | refine SW.block ?_ | refine SW.rowC ?_ | refine SW.skip ?_ | refine SW.exit ?_ | refine PFn.use (hw) ?_ | refine PFn.useq (hw) ?_ | intro _ | refine And.intro (by omega) ?_) | simp (config := { maxSteps := 1000000 }) (disch := (first | omega | (simp only [go_sem]; try omega))) only [go_sem, Nat.reduceAdd, Nat.reduceEqDiff, Nat.reduceLeDiff, Nat.reduceMul, Nat.reduceLT, reduceIte, Int.reduceToNat, w64_id, cast_succ])
    refine SW.condF rfl ?_
    repeat (first | (with_reducible first | refine SW.seq ?_ | refine SW.block ?_ | refine SW.rowC ?_ | refine SW.skip ?_ | refine SW.exit ?_ | intro _ | refine And.intro (by omega) ?_) | simp (config := { maxSteps := 1000000 }) (disch := (first | omega | (simp only [go_sem]; try omega))) only [go_sem, Nat.reduceAdd, Nat.reduceEqDiff, Nat.reduceLeDiff, Nat.reduceMul, Nat.reduceLT, reduceIte, Int.reduceToNat, w64_id, cast_succ])
    refine SW.loopE (fun E0 H0 q E' H' => ∃ r : Nat, r ≤ fct n ∧ q = fct n - r ∧ E' = aput (aput E0 5 (I r)) 4 (I (sumC n ((perms n).take r))) ∧ H' = H0) (fct n) ⟨0, by omega, by omega, by simp [sumC, go_sem], rfl⟩ ?_
    rintro q E' H' ⟨r, hr, rfl, rfl, rfl⟩
    have hsl := sumC_le (n := n) (by omega) (by omega) ((perms n).take r) (fun p hp => hall p (List.mem_of_mem_take hp))
    have htl : ((perms n).take r).length ≤ 720 := by rw [List.length_take]; omega
    have hss : r < fct n → sumC n ((perms n).take (r + 1)) = sumC n ((perms n).take r) + powC (perm n r) n := fun h => by rw [perms_take n r h, sumC_snoc]
    generalize hS : sumC n ((perms n).take r) = S at *
    simp (config := { maxSteps := 1000000 }) (disch := (first | omega | (simp only [go_sem]; try omega))) only [go_sem, Nat.reduceAdd, Nat.reduceEqDiff, Nat.reduceLeDiff, Nat.reduceMul, Nat.reduceLT, reduceIte, Int.reduceToNat, w64_id, cast_succ]
    repeat (first | (with_reducible first | refine SW.seq ?_ | refine SW.block ?_ | refine SW.rowC ?_ | refine SW.skip ?_ | refine SW.exit ?_ | refine PFn.use (hfa) ?_ | refine PFn.useq (hfa) ?_ | intro _ | refine And.intro (by omega) ?_) | simp (config := { maxSteps := 1000000 }) (disch := (first | omega | (simp only [go_sem]; try omega))) only [go_sem, Nat.reduceAdd, Nat.reduceEqDiff, Nat.reduceLeDiff, Nat.reduceMul, Nat.reduceLT, reduceIte, Int.reduceToNat, w64_id, cast_succ])
    (first | refine SW.condD rfl (fun h2 => ?_) (fun h2 => ?_) | refine SW.condN rfl (fun h2 => ?_) (fun h2 => ?_) | refine SW.condNB rfl (fun h2 => ?_) (fun h2 => ?_) | refine SW.condB rfl (fun h2 => ?_) (fun h2 => ?_))
    · have hp := perm_ok (n := n) (r := r) (by omega)
      have hun := l04Unrank_fn n r (by omega) (by omega)
      have hcy := l27Cycles_fn n (perm n r) (by omega) (by omega) hp
      have hpw := powC_is hp (by omega) (by omega)
      have hpl2 := powC_le hp (by omega) (by omega)
      repeat (first | (with_reducible first | refine SW.seq ?_ | refine SW.block ?_ | refine SW.rowC ?_ | refine SW.skip ?_ | refine SW.exit ?_ | refine PFn.use (hun) ?_ | refine PFn.useq (hun) ?_ | refine PFn.use (hcy) ?_ | refine PFn.useq (hcy) ?_ | intro _ | refine And.intro (by omega) ?_) | simp (config := { maxSteps := 1000000 }) (disch := (first | omega | (simp only [go_sem]; try omega))) only [go_sem, Nat.reduceAdd, Nat.reduceEqDiff, Nat.reduceLeDiff, Nat.reduceMul, Nat.reduceLT, reduceIte, Int.reduceToNat, w64_id, cast_succ, hpw])
      refine SLoop.next (fct n - (r + 1)) (by omega) ⟨r + 1, by omega, rfl, ?_, rfl⟩
      rw [hss (by omega)]; simp [go_sem]
    · have : r = fct n := by omega
      subst this
      rw [List.take_of_length_le (by omega)] at hS
      have hne : ¬ ((fct n : Nat) : Int) = 0 := by omega
      have hb : -9223372036854775808 ≤ ((S : Nat) : Int).tdiv ((fct n : Nat) : Int) ∧ ((S : Nat) : Int).tdiv ((fct n : Nat) : Int) ≤ 9223372036854775807 := by
        rw [Int.tdiv_eq_ediv_of_nonneg (by omega)]
        have h1 := Int.ediv_nonneg (show (0 : Int) ≤ S by omega) (show (0 : Int) ≤ fct n by omega)
        have h2 := Int.ediv_le_self ((fct n : Nat) : Int) (show (0 : Int) ≤ S by omega)
        omega
      have hwq := w64_id hb.1 hb.2
      repeat (first | (with_reducible first | refine SW.seq ?_ | refine SW.block ?_ | refine SW.rowC ?_ | refine SW.skip ?_ | refine SW.exit ?_ | refine PFn.use (hfa) ?_ | refine PFn.useq (hfa) ?_ | intro _ | refine And.intro (by omega) ?_) | simp (config := { maxSteps := 1000000 }) (disch := (first | omega | (simp only [go_sem]; try omega))) only [go_sem, Nat.reduceAdd, Nat.reduceEqDiff, Nat.reduceLeDiff, Nat.reduceMul, Nat.reduceLT, reduceIte, Int.reduceToNat, w64_id, cast_succ, hne, hwq])
      refine SW.ret ?_; (try simp only [go_sem]); (first | refine FunPost.one ?_ | refine FunPost.two ?_ | refine FunPost.three ?_); (try simp (config := { maxSteps := 1000000 }) (disch := (first | omega | (simp only [go_sem]; try omega))) only [go_sem, Nat.reduceAdd, Nat.reduceEqDiff, Nat.reduceLeDiff, Nat.reduceMul, Nat.reduceLT, reduceIte, Int.reduceToNat, w64_id, cast_succ]); (first | (with_reducible refine GR.drop ?_ ?_; (simp only [go_sem, and_self, and_true, true_and, implies_true, List.take_succ_cons, List.take_zero])) | refine GR.of ?_); refine ⟨?_, rfl⟩; (try with_reducible rfl)
      rw [hS]
  · rw [if_neg h, if_neg h]
    rw [show (decide (1 ≤ n) && decide (n ≤ 6)) = false by rw [Bool.and_eq_false_iff, decide_eq_false_iff_not, decide_eq_false_iff_not]; omega] at hw
    intro H; refine ACalls.introB s_spec_CountGraphs (by simp) ?_; intro hB hA; unfold c_spec_CountGraphs; simp (config := { maxSteps := 1000000 }) (disch := (first | omega | (simp only [go_sem]; try omega))) only [go_sem, Nat.reduceAdd, Nat.reduceEqDiff, Nat.reduceLeDiff, Nat.reduceMul, Nat.reduceLT, reduceIte, Int.reduceToNat, w64_id, cast_succ]
    repeat (first | (with_reducible first | refine SW.seq ?_ | refine SW.block ?_ | refine SW.rowC ?_ | refine SW.skip ?_ | refine SW.exit ?_ | refine PFn.use (hw) ?_ | refine PFn.useq (hw) ?_ | intro _ | refine And.intro (by omega) ?_) | simp (config := { maxSteps := 1000000 }) (disch := (first | omega | (simp only [go_sem]; try omega))) only [go_sem, Nat.reduceAdd, Nat.reduceEqDiff, Nat.reduceLeDiff, Nat.reduceMul, Nat.reduceLT, reduceIte, Int.reduceToNat, w64_id, cast_succ])
    refine SW.condT rfl ?_
    repeat (first | (with_reducible first | refine SW.seq ?_ | refine SW.block ?_ | refine SW.rowC ?_ | refine SW.skip ?_ | refine SW.exit ?_ | intro _ | refine And.intro (by omega) ?_) | simp (config := { maxSteps := 1000000 }) (disch := (first | omega | (simp only [go_sem]; try omega))) only [go_sem, Nat.reduceAdd, Nat.reduceEqDiff, Nat.reduceLeDiff, Nat.reduceMul, Nat.reduceLT, reduceIte, Int.reduceToNat, w64_id, cast_succ])
    refine SW.ret ?_; (try simp only [go_sem]); (first | refine FunPost.one ?_ | refine FunPost.two ?_ | refine FunPost.three ?_); (try simp (config := { maxSteps := 1000000 }) (disch := (first | omega | (simp only [go_sem]; try omega))) only [go_sem, Nat.reduceAdd, Nat.reduceEqDiff, Nat.reduceLeDiff, Nat.reduceMul, Nat.reduceLT, reduceIte, Int.reduceToNat, w64_id, cast_succ]); (first | (with_reducible refine GR.drop ?_ ?_; (simp only [go_sem, and_self, and_true, true_and, implies_true, List.take_succ_cons, List.take_zero])) | refine GR.of ?_); refine ⟨?_, rfl⟩; (try with_reducible rfl)
theorem lawCountGraphs_ok (H : List Blk) (n : Int) : ACalls Try.prog f_laws_FnExactCountGraphs [I n] H (fun r _ => r = Bv true) := by
  have hs := specCountGraphs_fn n
  have hi := implCountGraphs_fn n
  generalize cgV n = a at *
  generalize cgC n = b at *
  refine ACalls.introB s_laws_FnExactCountGraphs (by simp) ?_; intro hB hA; unfold c_laws_FnExactCountGraphs; simp (config := { maxSteps := 1000000 }) (disch := (first | omega | (simp only [go_sem]; try omega))) only [go_sem, Nat.reduceAdd, Nat.reduceEqDiff, Nat.reduceLeDiff, Nat.reduceMul, Nat.reduceLT, reduceIte, Int.reduceToNat, w64_id, cast_succ]
  repeat (first | (with_reducible first | refine SW.seq ?_ | refine SW.block ?_ | refine SW.rowC ?_ | refine SW.skip ?_ | refine SW.exit ?_ | refine PFn.use (hs) ?_ | refine PFn.useq (hs) ?_ | refine PFn.use (hi) ?_ | refine PFn.useq (hi) ?_ | intro _ | refine And.intro (by omega) ?_) | simp (config := { maxSteps := 1000000 }) (disch := (first | omega | (simp only [go_sem]; try omega))) only [go_sem, Nat.reduceAdd, Nat.reduceEqDiff, Nat.reduceLeDiff, Nat.reduceMul, Nat.reduceLT, reduceIte, Int.reduceToNat, w64_id, cast_succ])
  refine SW.condF rfl ?_
  repeat (first | (with_reducible first | refine SW.seq ?_ | refine SW.block ?_ | refine SW.rowC ?_ | refine SW.skip ?_ | refine SW.exit ?_ | intro _ | refine And.intro (by omega) ?_) | simp (config := { maxSteps := 1000000 }) (disch := (first | omega | (simp only [go_sem]; try omega))) only [go_sem, Nat.reduceAdd, Nat.reduceEqDiff, Nat.reduceLeDiff, Nat.reduceMul, Nat.reduceLT, reduceIte, Int.reduceToNat, w64_id, cast_succ])
  refine SW.ret ?_; (try simp only [go_sem]); (first | refine FunPost.one ?_ | refine FunPost.two ?_ | refine FunPost.three ?_); (try simp (config := { maxSteps := 1000000 }) (disch := (first | omega | (simp only [go_sem]; try omega))) only [go_sem, Nat.reduceAdd, Nat.reduceEqDiff, Nat.reduceLeDiff, Nat.reduceMul, Nat.reduceLT, reduceIte, Int.reduceToNat, w64_id, cast_succ])
  exact GR.of rfl
end Go.Proofs.Ytkifdjjnbplghaa
