/- Transversals: the reference's answer. -/
import Derived.Test.YtpaagkipnlbibaaProg
import Derived.KernelRfl
import Derived.Test.YtpaagkipnlbibaazQB
import Derived.Test.YtpaagkipnlbibaazUQ
import Derived.Test.YtpaagkipnlbibaazUO
import Derived.Test.YtpaagkipnlbibaazM2
set_option linter.unusedSimpArgs false
set_option linter.unusedVariables false
set_option maxHeartbeats 4000000
set_option maxRecDepth 100000
namespace Go.Proofs.Ytpaagkipnlbibaa
open Go.Av
abbrev f_spec_TransversalsOf : Nat := 12
def c_spec_TransversalsOf : SC :=
 .seq (.reg [
     ⟨(some 6), .mv (.const (.slice none 0 0)), none⟩,
     ⟨(some 7), .mv (.const (.int .i64 0)), none⟩] [0, 1, 2])
 (.seq (.seq (.reg [
     ⟨(some 9), .mv (.tmp 0), none⟩,
     ⟨(some 10), .call 42 [(.tmp 9)], none⟩,
     ⟨(some 11), .un .not (.tmp 10), none⟩] [0, 1, 2, 11])
 (.cond (.tmp 11)
  (.seq (.reg [
      ⟨(some 6), .mv (.const (.slice none 0 0)), none⟩,
      ⟨(some 7), .mv (.const (.int .i64 1)), none⟩] [6, 7])
  (.ret))
  (.skip)))
 (.seq (.seq (.reg [
     ⟨(some 12), .mv (.tmp 2), none⟩,
     ⟨(some 13), .call 43 [(.tmp 12)], none⟩,
     ⟨(some 14), .un .not (.tmp 13), none⟩,
     ⟨(some 15), .mv (.tmp 14), none⟩,
     ⟨(some 16), .mv (.tmp 1), (some (15, false))⟩,
     ⟨(some 17), .call 44 [(.tmp 16), (.const (.int .i64 1)), (.const (.int .i64 100))], (some (15, false))⟩,
     ⟨(some 18), .un .not (.tmp 17), (some (15, false))⟩,
     ⟨(some 19), .pick (.tmp 15) (.const (.bool true)) (.tmp 18), none⟩] [0, 1, 2, 19])
 (.cond (.tmp 19)
  (.seq (.reg [
      ⟨(some 6), .mv (.const (.slice none 0 0)), none⟩,
      ⟨(some 7), .mv (.const (.int .i64 2)), none⟩] [6, 7])
  (.ret))
  (.skip)))
 (.seq (.reg [
     ⟨(some 20), .mv (.tmp 0), none⟩,
     ⟨(some 21), .mv (.tmp 1), none⟩,
     ⟨(some 22), .mv (.tmp 2), none⟩,
     ⟨(some 23), .build [(.slice none 0 0), (.slice none 0 0), (.slice none 0 0), (.int .i64 0), (.int .i64 0), (.int .i64 0), (.bool false)] [(0, 1, (.tmp 20)), (3, 1, (.tmp 21)), (5, 1, (.tmp 22))], none⟩,
     ⟨(some 24), .box 70 (.tmp 23), none⟩,
     ⟨(some 8), .mv (.tmp 24), none⟩] [8])
 (.seq (.reg [
     ⟨(some 25), .mv (.tmp 8), none⟩,
     ⟨(some 26), .call 45 [(.tmp 25)], none⟩] [8])
 (.seq (.seq (.reg [
     ⟨(some 27), .mv (.tmp 8), none⟩,
     ⟨(some 28), .nilc (.tmp 27), none⟩,
     ⟨(some 29), .faddr 6 (.tmp 28), none⟩,
     ⟨(some 30), .load 1 false (.tmp 29), none⟩] [8, 30])
 (.cond (.tmp 30)
  (.seq (.reg [
      ⟨(some 6), .mv (.const (.slice none 0 0)), none⟩,
      ⟨(some 7), .mv (.const (.int .i64 5)), none⟩] [6, 7])
  (.ret))
  (.skip)))
 (.seq (.reg [
     ⟨(some 31), .mv (.tmp 8), none⟩,
     ⟨(some 32), .nilc (.tmp 31), none⟩,
     ⟨(some 33), .faddr 2 (.tmp 32), none⟩,
     ⟨(some 34), .load 1 false (.tmp 33), none⟩,
     ⟨(some 6), .mv (.tmp 34), none⟩,
     ⟨(some 7), .mv (.const (.int .i64 0)), none⟩] [6, 7])
 (.ret)))))))
theorem s_spec_TransversalsOf : stripF Try.prog 12 [[0, 1, 2], [0, 1, 2, 11], [6, 7], [0, 1, 2, 19], [6, 7], [8], [8], [8, 30], [6, 7], [6, 7]] = some (c_spec_TransversalsOf, [.tmp 6, .tmp 7], 35) := by kernel_rfl
theorem specTr_fn (a : List (List Int)) (lim b : Int) : PFn Try.prog f_spec_TransversalsOf [ilSS a, I lim, I b] (.tup [ilSS (trV a lim b).1, I (trV a lim b).2]) := by
  intro H
  have hv := l06Ok_fn a
  refine ACalls.introB s_spec_TransversalsOf (by simp) ?_; intro hB hA; unfold c_spec_TransversalsOf; simp (config := { maxSteps := 1000000 }) (disch := (first | omega | (simp only [go_sem]; try omega))) only [go_sem, Nat.reduceAdd, Nat.reduceEqDiff, Nat.reduceLeDiff, Nat.reduceMul, Nat.reduceLT, reduceIte, Int.reduceToNat, w64_id, cast_succ]
  repeat (first | (with_reducible first | refine SW.seq ?_ | refine SW.block ?_ | refine SW.rowC ?_ | refine SW.skip ?_ | refine SW.exit ?_ | refine PFn.use (hv) ?_ | refine PFn.useq (hv) ?_ | intro _ | refine And.intro (by omega) ?_) | simp (config := { maxSteps := 1000000 }) (disch := (first | omega | (simp only [go_sem]; try omega))) only [go_sem, Nat.reduceAdd, Nat.reduceEqDiff, Nat.reduceLeDiff, Nat.reduceMul, Nat.reduceLT, reduceIte, Int.reduceToNat, w64_id, cast_succ])
  (first | refine SW.condD rfl (fun h => ?_) (fun h => ?_) | refine SW.condN rfl (fun h => ?_) (fun h => ?_) | refine SW.condNB rfl (fun h => ?_) (fun h => ?_) | refine SW.condB rfl (fun h => ?_) (fun h => ?_))
  · rw [trV, h]
    repeat (first | (with_reducible first | refine SW.seq ?_ | refine SW.block ?_ | refine SW.rowC ?_ | refine SW.skip ?_ | refine SW.exit ?_ | intro _ | refine And.intro (by omega) ?_) | simp (config := { maxSteps := 1000000 }) (disch := (first | omega | (simp only [go_sem]; try omega))) only [go_sem, Nat.reduceAdd, Nat.reduceEqDiff, Nat.reduceLeDiff, Nat.reduceMul, Nat.reduceLT, reduceIte, Int.reduceToNat, w64_id, cast_succ])
    refine SW.ret ?_; (try simp only [go_sem]); (first | refine FunPost.one ?_ | refine FunPost.two ?_ | refine FunPost.three ?_); (try simp (config := { maxSteps := 1000000 }) (disch := (first | omega | (simp only [go_sem]; try omega))) only [go_sem, Nat.reduceAdd, Nat.reduceEqDiff, Nat.reduceLeDiff, Nat.reduceMul, Nat.reduceLT, reduceIte, Int.reduceToNat, w64_id, cast_succ])
    exact GR.froz0 (froz_tup2 .nil (froz_I' _)) ⟨rfl, rfl⟩
  have hf := latB_facts h
  rw [trV, h]
  cases h1 : (decide (1 ≤ b) && decide (b ≤ 20000))
  · have ib := l09Budget_fn b
    rw [h1] at ib
    repeat (first | (with_reducible first | refine SW.seq ?_ | refine SW.block ?_ | refine SW.rowC ?_ | refine SW.skip ?_ | refine SW.exit ?_ | refine PFn.use (ib) ?_ | refine PFn.useq (ib) ?_ | intro _ | refine And.intro (by omega) ?_) | simp (config := { maxSteps := 1000000 }) (disch := (first | omega | (simp only [go_sem]; try omega))) only [go_sem, Nat.reduceAdd, Nat.reduceEqDiff, Nat.reduceLeDiff, Nat.reduceMul, Nat.reduceLT, reduceIte, Int.reduceToNat, w64_id, cast_succ])
    refine SW.condT rfl ?_
    repeat (first | (with_reducible first | refine SW.seq ?_ | refine SW.block ?_ | refine SW.rowC ?_ | refine SW.skip ?_ | refine SW.exit ?_ | intro _ | refine And.intro (by omega) ?_) | simp (config := { maxSteps := 1000000 }) (disch := (first | omega | (simp only [go_sem]; try omega))) only [go_sem, Nat.reduceAdd, Nat.reduceEqDiff, Nat.reduceLeDiff, Nat.reduceMul, Nat.reduceLT, reduceIte, Int.reduceToNat, w64_id, cast_succ])
    refine SW.ret ?_; (try simp only [go_sem]); (first | refine FunPost.one ?_ | refine FunPost.two ?_ | refine FunPost.three ?_); (try simp (config := { maxSteps := 1000000 }) (disch := (first | omega | (simp only [go_sem]; try omega))) only [go_sem, Nat.reduceAdd, Nat.reduceEqDiff, Nat.reduceLeDiff, Nat.reduceMul, Nat.reduceLT, reduceIte, Int.reduceToNat, w64_id, cast_succ])
    exact GR.froz0 (froz_tup2 .nil (froz_I' _)) ⟨rfl, rfl⟩
  cases h2 : (decide (1 ≤ lim) && decide (lim ≤ 100))
  · have ib := l09Budget_fn b
    rw [h1] at ib
    have wl := l00In_fn lim 1 100
    rw [h2] at wl
    repeat (first | (with_reducible first | refine SW.seq ?_ | refine SW.block ?_ | refine SW.rowC ?_ | refine SW.skip ?_ | refine SW.exit ?_ | refine PFn.use (ib) ?_ | refine PFn.useq (ib) ?_ | refine PFn.use (wl) ?_ | refine PFn.useq (wl) ?_ | intro _ | refine And.intro (by omega) ?_) | simp (config := { maxSteps := 1000000 }) (disch := (first | omega | (simp only [go_sem]; try omega))) only [go_sem, Nat.reduceAdd, Nat.reduceEqDiff, Nat.reduceLeDiff, Nat.reduceMul, Nat.reduceLT, reduceIte, Int.reduceToNat, w64_id, cast_succ])
    refine SW.condT rfl ?_
    repeat (first | (with_reducible first | refine SW.seq ?_ | refine SW.block ?_ | refine SW.rowC ?_ | refine SW.skip ?_ | refine SW.exit ?_ | intro _ | refine And.intro (by omega) ?_) | simp (config := { maxSteps := 1000000 }) (disch := (first | omega | (simp only [go_sem]; try omega))) only [go_sem, Nat.reduceAdd, Nat.reduceEqDiff, Nat.reduceLeDiff, Nat.reduceMul, Nat.reduceLT, reduceIte, Int.reduceToNat, w64_id, cast_succ])
    refine SW.ret ?_; (try simp only [go_sem]); (first | refine FunPost.one ?_ | refine FunPost.two ?_ | refine FunPost.three ?_); (try simp (config := { maxSteps := 1000000 }) (disch := (first | omega | (simp only [go_sem]; try omega))) only [go_sem, Nat.reduceAdd, Nat.reduceEqDiff, Nat.reduceLeDiff, Nat.reduceMul, Nat.reduceLT, reduceIte, Int.reduceToNat, w64_id, cast_succ])
    exact GR.froz0 (froz_tup2 .nil (froz_I' _)) ⟨rfl, rfl⟩
  have ib := l09Budget_fn b
  rw [h1] at ib
  have wl := l00In_fn lim 1 100
  rw [h2] at wl
  simp only [Bool.and_eq_true, decide_eq_true_eq] at h1 h2
  obtain ⟨b, rfl⟩ := Int.eq_ofNat_of_zero_le (show 0 ≤ b by omega)
  obtain ⟨lim, rfl⟩ := Int.eq_ofNat_of_zero_le (show 0 ≤ lim by omega)
  repeat (first | (with_reducible first | refine SW.seq ?_ | refine SW.block ?_ | refine SW.rowC ?_ | refine SW.skip ?_ | refine SW.exit ?_ | refine PFn.use (ib) ?_ | refine PFn.useq (ib) ?_ | refine PFn.use (wl) ?_ | refine PFn.useq (wl) ?_ | intro _ | refine And.intro (by omega) ?_) | simp (config := { maxSteps := 1000000 }) (disch := (first | omega | (simp only [go_sem]; try omega))) only [go_sem, Nat.reduceAdd, Nat.reduceEqDiff, Nat.reduceLeDiff, Nat.reduceMul, Nat.reduceLT, reduceIte, Int.reduceToNat, w64_id, cast_succ])
  refine SW.condF rfl ?_
  repeat (first | (with_reducible first | refine SW.seq ?_ | refine SW.block ?_ | refine SW.rowC ?_ | refine SW.skip ?_ | refine SW.exit ?_ | intro _ | refine And.intro (by omega) ?_) | simp (config := { maxSteps := 1000000 }) (disch := (first | omega | (simp only [go_sem]; try omega))) only [go_sem, Nat.reduceAdd, Nat.reduceEqDiff, Nat.reduceLeDiff, Nat.reduceMul, Nat.reduceLT, reduceIte, Int.reduceToNat, w64_id, cast_succ])
  refine (fiRun_ok a lim b hf.1 hf.2.1 (by omega) (by omega) a.length _ H.length [] ⟨b, false, []⟩ ⟨nilS, nilS, by rw [List.getElem?_append_right (Nat.le_refl _), Nat.sub_self]; simp [nilS], .inl ⟨rfl, rfl, rfl, rfl⟩⟩ (by simp) (by simp) (by show 0 < lim; omega) rfl (Nat.le_refl _)).mono ?_
  rintro r H1 ⟨rfl, ⟨v, fv, hp, hcg⟩, hl1, hfr⟩
  obtain ⟨ext, rfl⟩ : ∃ ext, H1 = H ++ ext := ext_of (by simp at hl1; omega) (fun j hj => by rw [hfr j hj, List.getElem?_append_left hj])
  clear hl1 hfr
  rw [show (false || false) = false from rfl, if_neg (by simp)]
  generalize trv a a.length lim a.length [] ⟨b, false, []⟩ = s at *
  obtain ⟨left, spent, found⟩ := s
  simp only at hp hcg
  have hpa := fun o => pc_alive (off := o) hp
  have hpl := fun o => pc_ld (off := o) hp
  cases spent
  · repeat (first | (with_reducible first | refine SW.seq ?_ | refine SW.block ?_ | refine SW.rowC ?_ | refine SW.skip ?_ | refine SW.exit ?_ | intro _ | refine And.intro (by omega) ?_) | simp (config := { maxSteps := 1000000 }) (disch := (first | omega | (simp only [go_sem]; try omega))) only [go_sem, Nat.reduceAdd, Nat.reduceEqDiff, Nat.reduceLeDiff, Nat.reduceMul, Nat.reduceLT, reduceIte, Int.reduceToNat, w64_id, cast_succ, hpa, hpl])
    refine SW.condF rfl ?_
    repeat (first | (with_reducible first | refine SW.seq ?_ | refine SW.block ?_ | refine SW.rowC ?_ | refine SW.skip ?_ | refine SW.exit ?_ | intro _ | refine And.intro (by omega) ?_) | simp (config := { maxSteps := 1000000 }) (disch := (first | omega | (simp only [go_sem]; try omega))) only [go_sem, Nat.reduceAdd, Nat.reduceEqDiff, Nat.reduceLeDiff, Nat.reduceMul, Nat.reduceLT, reduceIte, Int.reduceToNat, w64_id, cast_succ, hpa, hpl])
    refine SW.ret ?_; (try simp only [go_sem]); (first | refine FunPost.one ?_ | refine FunPost.two ?_ | refine FunPost.three ?_); (try simp (config := { maxSteps := 1000000 }) (disch := (first | omega | (simp only [go_sem]; try omega))) only [go_sem, Nat.reduceAdd, Nat.reduceEqDiff, Nat.reduceLeDiff, Nat.reduceMul, Nat.reduceLT, reduceIte, Int.reduceToNat, w64_id, cast_succ])
    refine GR.froz (froz_tup2 (hcg.frozF (by omega)) (froz_I' _)) ⟨rfl, rfl⟩
  · repeat (first | (with_reducible first | refine SW.seq ?_ | refine SW.block ?_ | refine SW.rowC ?_ | refine SW.skip ?_ | refine SW.exit ?_ | intro _ | refine And.intro (by omega) ?_) | simp (config := { maxSteps := 1000000 }) (disch := (first | omega | (simp only [go_sem]; try omega))) only [go_sem, Nat.reduceAdd, Nat.reduceEqDiff, Nat.reduceLeDiff, Nat.reduceMul, Nat.reduceLT, reduceIte, Int.reduceToNat, w64_id, cast_succ, hpa, hpl])
    refine SW.condT rfl ?_
    repeat (first | (with_reducible first | refine SW.seq ?_ | refine SW.block ?_ | refine SW.rowC ?_ | refine SW.skip ?_ | refine SW.exit ?_ | intro _ | refine And.intro (by omega) ?_) | simp (config := { maxSteps := 1000000 }) (disch := (first | omega | (simp only [go_sem]; try omega))) only [go_sem, Nat.reduceAdd, Nat.reduceEqDiff, Nat.reduceLeDiff, Nat.reduceMul, Nat.reduceLT, reduceIte, Int.reduceToNat, w64_id, cast_succ])
    refine SW.ret ?_; (try simp only [go_sem]); (first | refine FunPost.one ?_ | refine FunPost.two ?_ | refine FunPost.three ?_); (try simp (config := { maxSteps := 1000000 }) (disch := (first | omega | (simp only [go_sem]; try omega))) only [go_sem, Nat.reduceAdd, Nat.reduceEqDiff, Nat.reduceLeDiff, Nat.reduceMul, Nat.reduceLT, reduceIte, Int.reduceToNat, w64_id, cast_succ])
    exact GR.froz (froz_tup2 .nil (froz_I' _)) ⟨rfl, rfl⟩
end Go.Proofs.Ytpaagkipnlbibaa
