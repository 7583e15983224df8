/- Transversals: the program. -/
import Derived.Test.YtpaagkipnlbibaaProg
import Derived.KernelRfl
import Derived.Test.YtpaagkipnlbibaazUO
import Derived.Test.YtpaagkipnlbibaazVS
import Derived.Test.YtpaagkipnlbibaazQB
import Derived.Test.YtpaagkipnlbibaazK32
import Derived.Test.YtpaagkipnlbibaazK4
import Derived.Test.YtpaagkipnlbibaazM2
set_option linter.unusedSimpArgs false
set_option linter.unusedVariables false
set_option maxHeartbeats 4000000
set_option maxRecDepth 100000
namespace Go.Proofs.Ytpaagkipnlbibaa
open Go.Av
abbrev f_impl_TransversalsOf : Nat := 14
def c_impl_TransversalsOf : SC :=
 .seq (.reg [
     ⟨(some 6), .mv (.const (.slice none 0 0)), none⟩,
     ⟨(some 7), .mv (.const (.int .i64 0)), none⟩] [0, 1, 2])
 (.seq (.seq (.reg [
     ⟨(some 9), .mv (.tmp 0), none⟩,
     ⟨(some 10), .call 47 [(.tmp 9)], none⟩,
     ⟨(some 11), .un .not (.tmp 10), none⟩] [0, 1, 2, 11])
 (.cond (.tmp 11)
  (.seq (.reg [
      ⟨(some 6), .mv (.const (.slice none 0 0)), none⟩,
      ⟨(some 7), .mv (.const (.int .i64 1)), none⟩] [6, 7])
  (.ret))
  (.skip)))
 (.seq (.seq (.reg [
     ⟨(some 12), .mv (.tmp 2), none⟩,
     ⟨(some 13), .call 48 [(.tmp 12)], none⟩,
     ⟨(some 14), .un .not (.tmp 13), none⟩,
     ⟨(some 15), .mv (.tmp 14), none⟩,
     ⟨(some 16), .mv (.tmp 1), (some (15, false))⟩,
     ⟨(some 17), .call 49 [(.tmp 16), (.const (.int .i64 1)), (.const (.int .i64 100))], (some (15, false))⟩,
     ⟨(some 18), .un .not (.tmp 17), (some (15, false))⟩,
     ⟨(some 19), .pick (.tmp 15) (.const (.bool true)) (.tmp 18), none⟩] [0, 1, 2, 19])
 (.cond (.tmp 19)
  (.seq (.reg [
      ⟨(some 6), .mv (.const (.slice none 0 0)), none⟩,
      ⟨(some 7), .mv (.const (.int .i64 2)), none⟩] [6, 7])
  (.ret))
  (.skip)))
 (.seq (.reg [
     ⟨(some 20), .mv (.tmp 2), none⟩,
     ⟨(some 21), .build [(.int .i64 0), (.bool false)] [(0, 1, (.tmp 20))], none⟩,
     ⟨(some 22), .mv (.tmp 0), none⟩,
     ⟨(some 23), .mv (.tmp 1), none⟩,
     ⟨(some 24), .mv (.tmp 0), none⟩,
     ⟨(some 25), .len (.tmp 24), none⟩,
     ⟨(some 26), .mslice 4 1 (.bool false) (.tmp 25) (.tmp 25), none⟩,
     ⟨(some 27), .build [(.int .i64 0), (.bool false), (.slice none 0 0), (.int .i64 0), (.slice none 0 0), (.slice none 0 0), (.slice none 0 0)] [(0, 2, (.tmp 21)), (2, 1, (.tmp 22)), (3, 1, (.tmp 23)), (5, 1, (.tmp 26))], none⟩,
     ⟨(some 28), .box 77 (.tmp 27), none⟩,
     ⟨(some 8), .mv (.tmp 28), none⟩] [8])
 (.seq (.reg [
     ⟨(some 29), .mv (.tmp 8), none⟩,
     ⟨(some 30), .call 50 [(.tmp 29)], none⟩] [8])
 (.seq (.seq (.reg [
     ⟨(some 31), .mv (.tmp 8), none⟩,
     ⟨(some 32), .nilc (.tmp 31), none⟩,
     ⟨(some 33), .faddr 0 (.tmp 32), none⟩,
     ⟨(some 34), .faddr 1 (.tmp 33), none⟩,
     ⟨(some 35), .load 1 false (.tmp 34), none⟩] [8, 35])
 (.cond (.tmp 35)
  (.seq (.reg [
      ⟨(some 6), .mv (.const (.slice none 0 0)), none⟩,
      ⟨(some 7), .mv (.const (.int .i64 5)), none⟩] [6, 7])
  (.ret))
  (.skip)))
 (.seq (.reg [
     ⟨(some 36), .mv (.tmp 8), none⟩,
     ⟨(some 37), .nilc (.tmp 36), none⟩,
     ⟨(some 38), .faddr 6 (.tmp 37), none⟩,
     ⟨(some 39), .load 1 false (.tmp 38), none⟩,
     ⟨(some 6), .mv (.tmp 39), none⟩,
     ⟨(some 7), .mv (.const (.int .i64 0)), none⟩] [6, 7])
 (.ret)))))))
theorem s_impl_TransversalsOf : stripF Try.prog 14 [[0, 1, 2], [0, 1, 2, 11], [6, 7], [0, 1, 2, 19], [6, 7], [8], [8], [8, 35], [6, 7], [6, 7]] = some (c_impl_TransversalsOf, [.tmp 6, .tmp 7], 40) := by kernel_rfl
theorem implTr_fss (a : List (List Int)) (lim b : Int) (hl : ∀ x ∈ a, x.length ≤ 2000000) : FSS Try.prog f_impl_TransversalsOf [ilSS a, I lim, I b] (trV a lim b).1 (trV a lim b).2 := by
  intro H
  have hv := ValidSquare_fn a hl
  refine ACalls.introB s_impl_TransversalsOf (by simp) ?_; intro hB hA; unfold c_impl_TransversalsOf; simp (config := { maxSteps := 1000000 }) (disch := (first | omega | (simp only [go_sem]; try omega))) only [go_sem, Nat.reduceAdd, Nat.reduceEqDiff, Nat.reduceLeDiff, Nat.reduceMul, Nat.reduceLT, reduceIte, Int.reduceToNat, w64_id, cast_succ]
  repeat (first | (with_reducible first | refine SW.seq ?_ | refine SW.block ?_ | refine SW.rowC ?_ | refine SW.skip ?_ | refine SW.exit ?_ | refine PFn.use (hv) ?_ | refine PFn.useq (hv) ?_ | intro _ | refine And.intro (by omega) ?_) | simp (config := { maxSteps := 1000000 }) (disch := (first | omega | (simp only [go_sem]; try omega))) only [go_sem, Nat.reduceAdd, Nat.reduceEqDiff, Nat.reduceLeDiff, Nat.reduceMul, Nat.reduceLT, reduceIte, Int.reduceToNat, w64_id, cast_succ])
  (first | refine SW.condD rfl (fun h => ?_) (fun h => ?_) | refine SW.condN rfl (fun h => ?_) (fun h => ?_) | refine SW.condNB rfl (fun h => ?_) (fun h => ?_) | refine SW.condB rfl (fun h => ?_) (fun h => ?_))
  · rw [trV, h]
    repeat (first | (with_reducible first | refine SW.seq ?_ | refine SW.block ?_ | refine SW.rowC ?_ | refine SW.skip ?_ | refine SW.exit ?_ | intro _ | refine And.intro (by omega) ?_) | simp (config := { maxSteps := 1000000 }) (disch := (first | omega | (simp only [go_sem]; try omega))) only [go_sem, Nat.reduceAdd, Nat.reduceEqDiff, Nat.reduceLeDiff, Nat.reduceMul, Nat.reduceLT, reduceIte, Int.reduceToNat, w64_id, cast_succ])
    refine SW.ret ?_; (try simp only [go_sem]); (first | refine FunPost.one ?_ | refine FunPost.two ?_ | refine FunPost.three ?_); (try simp (config := { maxSteps := 1000000 }) (disch := (first | omega | (simp only [go_sem]; try omega))) only [go_sem, Nat.reduceAdd, Nat.reduceEqDiff, Nat.reduceLeDiff, Nat.reduceMul, Nat.reduceLT, reduceIte, Int.reduceToNat, w64_id, cast_succ])
    exact GR.of nilFSS0
  have hf := latB_facts h
  rw [trV, h]
  cases h1 : (decide (1 ≤ b) && decide (b ≤ 20000))
  · have ib := isBudget_fn b
    rw [h1] at ib
    repeat (first | (with_reducible first | refine SW.seq ?_ | refine SW.block ?_ | refine SW.rowC ?_ | refine SW.skip ?_ | refine SW.exit ?_ | refine PFn.use (ib) ?_ | refine PFn.useq (ib) ?_ | intro _ | refine And.intro (by omega) ?_) | simp (config := { maxSteps := 1000000 }) (disch := (first | omega | (simp only [go_sem]; try omega))) only [go_sem, Nat.reduceAdd, Nat.reduceEqDiff, Nat.reduceLeDiff, Nat.reduceMul, Nat.reduceLT, reduceIte, Int.reduceToNat, w64_id, cast_succ])
    refine SW.condT rfl ?_
    repeat (first | (with_reducible first | refine SW.seq ?_ | refine SW.block ?_ | refine SW.rowC ?_ | refine SW.skip ?_ | refine SW.exit ?_ | intro _ | refine And.intro (by omega) ?_) | simp (config := { maxSteps := 1000000 }) (disch := (first | omega | (simp only [go_sem]; try omega))) only [go_sem, Nat.reduceAdd, Nat.reduceEqDiff, Nat.reduceLeDiff, Nat.reduceMul, Nat.reduceLT, reduceIte, Int.reduceToNat, w64_id, cast_succ])
    refine SW.ret ?_; (try simp only [go_sem]); (first | refine FunPost.one ?_ | refine FunPost.two ?_ | refine FunPost.three ?_); (try simp (config := { maxSteps := 1000000 }) (disch := (first | omega | (simp only [go_sem]; try omega))) only [go_sem, Nat.reduceAdd, Nat.reduceEqDiff, Nat.reduceLeDiff, Nat.reduceMul, Nat.reduceLT, reduceIte, Int.reduceToNat, w64_id, cast_succ])
    exact GR.of nilFSS0
  cases h2 : (decide (1 ≤ lim) && decide (lim ≤ 100))
  · have ib := isBudget_fn b
    rw [h1] at ib
    have wl := within_fn lim 1 100
    rw [h2] at wl
    repeat (first | (with_reducible first | refine SW.seq ?_ | refine SW.block ?_ | refine SW.rowC ?_ | refine SW.skip ?_ | refine SW.exit ?_ | refine PFn.use (ib) ?_ | refine PFn.useq (ib) ?_ | refine PFn.use (wl) ?_ | refine PFn.useq (wl) ?_ | intro _ | refine And.intro (by omega) ?_) | simp (config := { maxSteps := 1000000 }) (disch := (first | omega | (simp only [go_sem]; try omega))) only [go_sem, Nat.reduceAdd, Nat.reduceEqDiff, Nat.reduceLeDiff, Nat.reduceMul, Nat.reduceLT, reduceIte, Int.reduceToNat, w64_id, cast_succ])
    refine SW.condT rfl ?_
    repeat (first | (with_reducible first | refine SW.seq ?_ | refine SW.block ?_ | refine SW.rowC ?_ | refine SW.skip ?_ | refine SW.exit ?_ | intro _ | refine And.intro (by omega) ?_) | simp (config := { maxSteps := 1000000 }) (disch := (first | omega | (simp only [go_sem]; try omega))) only [go_sem, Nat.reduceAdd, Nat.reduceEqDiff, Nat.reduceLeDiff, Nat.reduceMul, Nat.reduceLT, reduceIte, Int.reduceToNat, w64_id, cast_succ])
    refine SW.ret ?_; (try simp only [go_sem]); (first | refine FunPost.one ?_ | refine FunPost.two ?_ | refine FunPost.three ?_); (try simp (config := { maxSteps := 1000000 }) (disch := (first | omega | (simp only [go_sem]; try omega))) only [go_sem, Nat.reduceAdd, Nat.reduceEqDiff, Nat.reduceLeDiff, Nat.reduceMul, Nat.reduceLT, reduceIte, Int.reduceToNat, w64_id, cast_succ])
    exact GR.of nilFSS0
  have ib := isBudget_fn b
  rw [h1] at ib
  have wl := within_fn lim 1 100
  rw [h2] at wl
  simp only [Bool.and_eq_true, decide_eq_true_eq] at h1 h2
  obtain ⟨b, rfl⟩ := Int.eq_ofNat_of_zero_le (show 0 ≤ b by omega)
  obtain ⟨lim, rfl⟩ := Int.eq_ofNat_of_zero_le (show 0 ≤ lim by omega)
  repeat (first | (with_reducible first | refine SW.seq ?_ | refine SW.block ?_ | refine SW.rowC ?_ | refine SW.skip ?_ | refine SW.exit ?_ | refine PFn.use (ib) ?_ | refine PFn.useq (ib) ?_ | refine PFn.use (wl) ?_ | refine PFn.useq (wl) ?_ | intro _ | refine And.intro (by omega) ?_) | simp (config := { maxSteps := 1000000 }) (disch := (first | omega | (simp only [go_sem]; try omega))) only [go_sem, Nat.reduceAdd, Nat.reduceEqDiff, Nat.reduceLeDiff, Nat.reduceMul, Nat.reduceLT, reduceIte, Int.reduceToNat, w64_id, cast_succ])
  refine SW.condF rfl ?_
  repeat (first | (with_reducible first | refine SW.seq ?_ | refine SW.block ?_ | refine SW.rowC ?_ | refine SW.skip ?_ | refine SW.exit ?_ | intro _ | refine And.intro (by omega) ?_) | simp (config := { maxSteps := 1000000 }) (disch := (first | omega | (simp only [go_sem]; try omega))) only [go_sem, Nat.reduceAdd, Nat.reduceEqDiff, Nat.reduceLeDiff, Nat.reduceMul, Nat.reduceLT, reduceIte, Int.reduceToNat, w64_id, cast_succ])
  refine (trSearch_ok a lim hf.1 hf.2.1 hf.2.2 (by omega) a.length _ H.length (H.length + 1) [] ⟨b, false, []⟩ ⟨nilS, nilS, by rw [List.getElem?_append_right (by omega), Nat.add_sub_cancel_left]; rfl, by rw [List.getElem?_append_right (Nat.le_refl _), Nat.sub_self, symsT_nil]; rfl, .inl ⟨rfl, rfl, rfl, rfl⟩⟩ (by omega) (by simp) (by simp) (by show 0 < lim; omega) rfl (by show b ≤ 20000; omega)).mono ?_
  rintro r H1 ⟨rfl, ⟨v, fv, hp, hq, hcg⟩, hl1, hfr⟩
  have hH1 : ∃ ext, H1 = H ++ ext := ext_of (by simp at hl1; omega) (fun j hj => by rw [hfr j hj, List.getElem?_append_left hj])
  clear hl1 hfr
  obtain ⟨ext, rfl⟩ := hH1
  rw [show (false || false) = false from rfl, if_neg (by simp)]
  generalize trv a a.length lim a.length [] ⟨b, false, []⟩ = s at *
  obtain ⟨left, spent, found⟩ := s
  simp only at hp hcg
  have hpa := fun o => pc_alive (off := o) hp
  have hpl := fun o => pc_ld (off := o) hp
  cases spent
  · repeat (first | (with_reducible first | refine SW.seq ?_ | refine SW.block ?_ | refine SW.rowC ?_ | refine SW.skip ?_ | refine SW.exit ?_ | intro _ | refine And.intro (by omega) ?_) | simp (config := { maxSteps := 1000000 }) (disch := (first | omega | (simp only [go_sem]; try omega))) only [go_sem, Nat.reduceAdd, Nat.reduceEqDiff, Nat.reduceLeDiff, Nat.reduceMul, Nat.reduceLT, reduceIte, Int.reduceToNat, w64_id, cast_succ, hpa, hpl])
    refine SW.condF rfl ?_
    repeat (first | (with_reducible first | refine SW.seq ?_ | refine SW.block ?_ | refine SW.rowC ?_ | refine SW.skip ?_ | refine SW.exit ?_ | intro _ | refine And.intro (by omega) ?_) | simp (config := { maxSteps := 1000000 }) (disch := (first | omega | (simp only [go_sem]; try omega))) only [go_sem, Nat.reduceAdd, Nat.reduceEqDiff, Nat.reduceLeDiff, Nat.reduceMul, Nat.reduceLT, reduceIte, Int.reduceToNat, w64_id, cast_succ, hpa, hpl])
    refine SW.ret ?_; (try simp only [go_sem]); (first | refine FunPost.one ?_ | refine FunPost.two ?_ | refine FunPost.three ?_); (try simp (config := { maxSteps := 1000000 }) (disch := (first | omega | (simp only [go_sem]; try omega))) only [go_sem, Nat.reduceAdd, Nat.reduceEqDiff, Nat.reduceLeDiff, Nat.reduceMul, Nat.reduceLT, reduceIte, Int.reduceToNat, w64_id, cast_succ])
    refine GR.of ⟨ext, fv, rfl, rfl, ?_⟩
    rcases hcg with ⟨-, -, rfl, rfl⟩ | ⟨t, ver, cells, rfl, h2, h3, h4, h5, h6⟩
    · exact .inr ⟨rfl, .inl rfl⟩
    · exact h6.own (by omega)
  · repeat (first | (with_reducible first | refine SW.seq ?_ | refine SW.block ?_ | refine SW.rowC ?_ | refine SW.skip ?_ | refine SW.exit ?_ | intro _ | refine And.intro (by omega) ?_) | simp (config := { maxSteps := 1000000 }) (disch := (first | omega | (simp only [go_sem]; try omega))) only [go_sem, Nat.reduceAdd, Nat.reduceEqDiff, Nat.reduceLeDiff, Nat.reduceMul, Nat.reduceLT, reduceIte, Int.reduceToNat, w64_id, cast_succ, hpa, hpl])
    refine SW.condT rfl ?_
    repeat (first | (with_reducible first | refine SW.seq ?_ | refine SW.block ?_ | refine SW.rowC ?_ | refine SW.skip ?_ | refine SW.exit ?_ | intro _ | refine And.intro (by omega) ?_) | simp (config := { maxSteps := 1000000 }) (disch := (first | omega | (simp only [go_sem]; try omega))) only [go_sem, Nat.reduceAdd, Nat.reduceEqDiff, Nat.reduceLeDiff, Nat.reduceMul, Nat.reduceLT, reduceIte, Int.reduceToNat, w64_id, cast_succ])
    refine SW.ret ?_; (try simp only [go_sem]); (first | refine FunPost.one ?_ | refine FunPost.two ?_ | refine FunPost.three ?_); (try simp (config := { maxSteps := 1000000 }) (disch := (first | omega | (simp only [go_sem]; try omega))) only [go_sem, Nat.reduceAdd, Nat.reduceEqDiff, Nat.reduceLeDiff, Nat.reduceMul, Nat.reduceLT, reduceIte, Int.reduceToNat, w64_id, cast_succ])
    exact GR.of (nilFSS (ext := _))
end Go.Proofs.Ytpaagkipnlbibaa
