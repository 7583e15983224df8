/- Counting packings: the reference's walk. -/
import Derived.Test.YthogadbnddmkdaaGreatzSR
import Derived.Test.YthogadbnddmkdaaGreatzOW
import Derived.Test.YthogadbnddmkdaaGreatzY0
import Derived.Test.YthogadbnddmkdaaGreatzU1
import Derived.Test.YthogadbnddmkdaaGreatzK28
import Derived.Test.YthogadbnddmkdaaGreatzJ9
import Derived.Test.YthogadbnddmkdaaGreatProg
import Derived.KernelRfl
set_option linter.unusedSimpArgs false
set_option linter.unusedVariables false
set_option maxHeartbeats 4000000
set_option maxRecDepth 100000
namespace Go.Proofs.YthogadbnddmkdaaGreat
open Go.Av
def ArgR (p : Nat) (H : List Blk) (a : AV) (B : List (List Int)) : Prop := (a = ilSS B ∨ a = nilS ∧ B = []) ∨ ∃ i ver, a = .nm i ver 0 B.length ∧ i ≠ p ∧ H[i]? = some ⟨ver, tyLL, 1, B.map ilS⟩
section
variable {p : Nat} {H : List Blk} {a : AV} {B : List (List Int)}
theorem ArgR.view (h : ArgR p H a B) : aview H a = some (B.length, B.map ilS) := by
  rcases h with (rfl | ⟨rfl, rfl⟩) | ⟨i, ver, rfl, -, h⟩
  · rfl
  · rfl
  · simp only [aview, h]; simp; exact List.take_of_length_le (by simp)
theorem ArgR.froz (h : ArgR p H a B) : Froz H 0 a (ilSS B) := by
  rcases h with (rfl | ⟨rfl, rfl⟩) | ⟨i, ver, rfl, -, h⟩
  · exact froz_ilSS _
  · exact .nil
  · exact froz_rowS (Nat.zero_le _) h
theorem ArgR.set (h : ArgR p H a B) (b : Blk) : ArgR p (H.set p b) a B := by
  rcases h with h | ⟨i, ver, rfl, hn, h⟩
  · exact .inl h
  · exact .inr ⟨i, ver, rfl, hn, by rw [List.getElem?_set_ne (Ne.symm hn)]; exact h⟩
theorem ArgR.app (h : ArgR p H a B) (ext : List Blk) : ArgR p (H ++ ext) a B := by
  rcases h with h | ⟨i, ver, rfl, hn, h⟩
  · exact .inl h
  · exact .inr ⟨i, ver, rfl, hn, by rw [List.getElem?_append_left (List.getElem?_eq_some_iff.1 h).1]; exact h⟩
theorem ArgR.bel (h : ArgR p H a B) : Bel H.length a := by
  rcases h with (rfl | ⟨rfl, rfl⟩) | ⟨i, ver, rfl, hn, h⟩
  · rw [Bel_ilSS]; trivial
  · exact .lit _
  · exact .nm _ _ _ _ (List.getElem?_eq_some_iff.1 h).1
end
theorem cl_no {s : Int} {B rest : List (List Int)} {x : List Int} {r left : Nat} (h : fitsC s B x = false) : cl s B (x :: rest) (r + 1) left = cl s B rest (r + 1) left := by
  rw [cl, h]; rfl
theorem cl_spent {s : Int} {B rest : List (List Int)} {x : List Int} {r : Nat} (h : fitsC s B x = true) : cl s B (x :: rest) (r + 1) 0 = none := by
  rw [cl, h]; rfl
theorem cl_yes {s : Int} {B rest : List (List Int)} {x : List Int} {r left : Nat} (h : fitsC s B x = true) (h0 : left ≠ 0) : cl s B (x :: rest) (r + 1) left = match cl s (B ++ [x]) rest r (left - 1) with
    | none => none
    | some (c, l) => match cl s B rest (r + 1) l with
      | none => none
      | some (d, l') => some (c + d, l') := by
  rw [cl, h, if_pos rfl, if_neg h0]; rfl
end Go.Proofs.YthogadbnddmkdaaGreat
namespace Go.Proofs.YthogadbnddmkdaaGreat
open Go.Av
abbrev f_slices_Clone_LLint64_Lint64 : Nat := 89
def c_slices_Clone_LLint64_Lint64 : SC :=
 .seq (.reg [
     ⟨(some 2), .mv (.const (.slice none 0 0)), none⟩] [0])
 (.seq (.seq (.reg [
     ⟨(some 3), .mv (.tmp 0), none⟩,
     ⟨(some 4), .isnil false (.tmp 3), none⟩] [0, 4])
 (.cond (.tmp 4)
  (.seq (.reg [
      ⟨(some 2), .mv (.const (.slice none 0 0)), none⟩] [2])
  (.ret))
  (.skip)))
 (.seq (.reg [
     ⟨(some 5), .bslice 50 1 0 [] [], none⟩,
     ⟨(some 6), .mv (.tmp 0), none⟩,
     ⟨(some 7), .app 50 1 24 (.tmp 5) (.tmp 6), none⟩,
     ⟨(some 2), .mv (.tmp 7), none⟩] [2])
 (.ret)))
theorem s_slices_Clone_LLint64_Lint64 : stripF Tryz.prog 89 [[0], [0, 4], [2], [2]] = some (c_slices_Clone_LLint64_Lint64, [.tmp 2], 8) := by kernel_rfl
theorem cloneSS_ok {p : Nat} (H : List Blk) (a : AV) (B : List (List Int)) (ha : ArgR p H a B) (hl : B.length ≤ 2000000) :
    ACalls Tryz.prog f_slices_Clone_LLint64_Lint64 [a] H (fun r H' => ∃ ver, r = .nm H.length ver 0 B.length ∧ H' = H ++ [⟨ver, tyLL, 1, B.map ilS⟩]) := by
  have hav := ha.view
  refine ACalls.introB s_slices_Clone_LLint64_Lint64 (by simp) ?_; intro hB hA; unfold c_slices_Clone_LLint64_Lint64; simp (config := { maxSteps := 1000000 }) (disch := (first | omega | (simp only [go_sem]; try omega))) only [go_sem, Nat.reduceAdd, Nat.reduceEqDiff, Nat.reduceLeDiff, Nat.reduceMul, Nat.reduceLT, reduceIte, Int.reduceToNat, w64_id, cast_succ]
  have h2 := (ha.app [⟨0, tyLL, 1, []⟩]).view
  refine SW.seq ?_; refine SW.rowC ?_; simp (config := { maxSteps := 1000000 }) (disch := (first | omega | (simp only [go_sem]; try omega))) only [go_sem, Nat.reduceAdd, Nat.reduceEqDiff, Nat.reduceLeDiff, Nat.reduceMul, Nat.reduceLT, reduceIte, Int.reduceToNat, w64_id, cast_succ]
  refine SW.seq ?_
  refine SW.seq ?_; refine SW.rowC ?_; simp (config := { maxSteps := 1000000 }) (disch := (first | omega | (simp only [go_sem]; try omega))) only [go_sem, Nat.reduceAdd, Nat.reduceEqDiff, Nat.reduceLeDiff, Nat.reduceMul, Nat.reduceLT, reduceIte, Int.reduceToNat, w64_id, cast_succ, hav]
  intro b hb
  refine SW.condB rfl (fun h => ?_) (fun h => ?_)
  · have : B = [] := List.eq_nil_of_length_eq_zero (hb h)
    subst this
    repeat (first | (with_reducible first | refine SW.seq ?_ | refine SW.block ?_ | refine SW.rowC ?_ | refine SW.skip ?_ | refine SW.exit ?_ | intro _ | refine And.intro (by omega) ?_) | simp (config := { maxSteps := 1000000 }) (disch := (first | omega | (simp only [go_sem]; try omega))) only [go_sem, Nat.reduceAdd, Nat.reduceEqDiff, Nat.reduceLeDiff, Nat.reduceMul, Nat.reduceLT, reduceIte, Int.reduceToNat, w64_id, cast_succ])
    refine SW.ret ?_; (try simp only [go_sem]); (first | refine FunPost.one ?_ | refine FunPost.two ?_ | refine FunPost.three ?_); (try simp (config := { maxSteps := 1000000 }) (disch := (first | omega | (simp only [go_sem]; try omega))) only [go_sem, Nat.reduceAdd, Nat.reduceEqDiff, Nat.reduceLeDiff, Nat.reduceMul, Nat.reduceLT, reduceIte, Int.reduceToNat, w64_id, cast_succ])
    refine GR.name tyLL 1 (GR.of ?_)
    exact ⟨0, rfl, rfl⟩
  · repeat (first | (with_reducible first | refine SW.seq ?_ | refine SW.block ?_ | refine SW.rowC ?_ | refine SW.skip ?_ | refine SW.exit ?_ | intro _ | refine And.intro (by omega) ?_) | simp (config := { maxSteps := 1000000 }) (disch := (first | omega | (simp only [go_sem]; try omega))) only [go_sem, Nat.reduceAdd, Nat.reduceEqDiff, Nat.reduceLeDiff, Nat.reduceMul, Nat.reduceLT, reduceIte, Int.reduceToNat, w64_id, cast_succ, hav, h2])
    refine SW.ret ?_; (try simp only [go_sem]); (first | refine FunPost.one ?_ | refine FunPost.two ?_ | refine FunPost.three ?_); (try simp (config := { maxSteps := 1000000 }) (disch := (first | omega | (simp only [go_sem]; try omega))) only [go_sem, Nat.reduceAdd, Nat.reduceEqDiff, Nat.reduceLeDiff, Nat.reduceMul, Nat.reduceLT, reduceIte, Int.reduceToNat, w64_id, cast_succ])
    exact GR.of ⟨1, rfl, rfl⟩
end Go.Proofs.YthogadbnddmkdaaGreat
namespace Go.Proofs.YthogadbnddmkdaaGreat
open Go.Av
abbrev f_impl_labeler_count_c1 : Nat := 86
def c_impl_labeler_count_c1 : SC :=
 .seq (.reg [
     ⟨(some 4), .mv (.const (.bool false)), none⟩] [0, 1, 2])
 (.seq (.reg [
     ⟨(some 5), .mv (.tmp 0), none⟩,
     ⟨(some 6), .load 1 false (.tmp 1), none⟩,
     ⟨(some 7), .nilc (.tmp 6), none⟩,
     ⟨(some 8), .faddr 2 (.tmp 7), none⟩,
     ⟨(some 9), .load 1 false (.tmp 8), none⟩,
     ⟨(some 10), .load 1 false (.tmp 2), none⟩,
     ⟨(some 11), .iaddr 1 (.tmp 9) (.tmp 10), none⟩,
     ⟨(some 12), .load 1 false (.tmp 11), none⟩,
     ⟨(some 13), .qcall 87 [(.tmp 5), (.tmp 12)], none⟩,
     ⟨(some 14), .load 1 false (.tmp 1), none⟩,
     ⟨(some 15), .nilc (.tmp 14), none⟩,
     ⟨(some 16), .faddr 4 (.tmp 15), none⟩,
     ⟨(some 17), .load 1 false (.tmp 16), none⟩,
     ⟨(some 18), .bin .gtr (.tmp 13) (.tmp 17), none⟩,
     ⟨(some 4), .mv (.tmp 18), none⟩] [4])
 (.ret))
theorem s_impl_labeler_count_c1 : stripF Tryz.prog 86 [[0, 1, 2], [4]] = some (c_impl_labeler_count_c1, [.tmp 4], 19) := by kernel_rfl
abbrev f_impl_counter_node : Nat := 88
def c_impl_counter_node : SC :=
 .seq (.reg [
     ⟨(some 2), .mv (.const (.bool false)), none⟩] [0])
 (.seq (.seq (.reg [
     ⟨(some 3), .mv (.tmp 0), none⟩,
     ⟨(some 4), .nilc (.tmp 3), none⟩,
     ⟨(some 5), .faddr 0 (.tmp 4), none⟩,
     ⟨(some 6), .load 1 false (.tmp 5), none⟩,
     ⟨(some 7), .bin .eql (.tmp 6) (.const (.int .i64 0)), none⟩] [0, 7])
 (.cond (.tmp 7)
  (.seq (.reg [
      ⟨(some 8), .mv (.tmp 0), none⟩,
      ⟨(some 9), .nilc (.tmp 8), none⟩,
      ⟨(some 10), .faddr 1 (.tmp 9), none⟩,
      ⟨none, .store 1 (.tmp 10) (.const (.bool true)), none⟩] [])
  (.seq (.reg [
      ⟨(some 2), .mv (.const (.bool false)), none⟩] [2])
  (.ret)))
  (.skip)))
 (.seq (.reg [
     ⟨(some 11), .mv (.tmp 0), none⟩,
     ⟨(some 12), .nilc (.tmp 11), none⟩,
     ⟨(some 13), .faddr 0 (.tmp 12), none⟩,
     ⟨(some 14), .load 1 false (.tmp 13), none⟩,
     ⟨(some 15), .bin .sub (.tmp 14) (.const (.int .i64 1)), none⟩,
     ⟨(some 16), .nilc (.tmp 11), none⟩,
     ⟨(some 17), .faddr 0 (.tmp 16), none⟩,
     ⟨none, .store 1 (.tmp 17) (.tmp 15), none⟩] [])
 (.seq (.reg [
     ⟨(some 2), .mv (.const (.bool true)), none⟩] [2])
 (.ret))))
theorem s_impl_counter_node : stripF Tryz.prog 88 [[0], [0, 7], [], [2], [], [2]] = some (c_impl_counter_node, [.tmp 2], 18) := by kernel_rfl
abbrev tyLab : Nat := 73
def labB (left : Nat) (spent : Bool) (S : List (List Int)) (m : Nat) (s : Int) : Blk := ⟨0, tyLab, 1, [I left, Bv spent, ilSS S, I m, I s]⟩
theorem node_none (H : List Blk) (p : Nat) (S : List (List Int)) (m : Nat) (s : Int) (hp : H[p]? = some (labB 0 false S m s)) :
    ACalls Tryz.prog f_impl_counter_node [.pc p 0 0] H (fun r H' => r = Bv false ∧ H' = H.set p (labB 0 true S m s)) := by
  have hpa := fun o => pc_alive (off := o) hp
  have hpl := fun o => pc_ld (off := o) hp
  unfold labB at *
  have hst : ∀ x, astore H [x] (.pc p 0 1) = some (H.set p ⟨0, tyLab, 1, [I (0 : Nat), x, ilSS S, I m, I s]⟩) := fun x => by rw [pc_st hp (by simp)]; rfl
  refine ACalls.introB s_impl_counter_node (by simp) ?_; intro hB hA; unfold c_impl_counter_node; simp (config := { maxSteps := 1000000 }) (disch := (first | omega | (simp only [go_sem]; try omega))) only [go_sem, Nat.reduceAdd, Nat.reduceEqDiff, Nat.reduceLeDiff, Nat.reduceMul, Nat.reduceLT, reduceIte, Int.reduceToNat, w64_id, cast_succ]
  repeat (first | (with_reducible first | refine SW.seq ?_ | refine SW.block ?_ | refine SW.rowC ?_ | refine SW.skip ?_ | refine SW.exit ?_ | intro _ | refine And.intro (by omega) ?_) | simp (config := { maxSteps := 1000000 }) (disch := (first | omega | (simp only [go_sem]; try omega))) only [go_sem, Nat.reduceAdd, Nat.reduceEqDiff, Nat.reduceLeDiff, Nat.reduceMul, Nat.reduceLT, reduceIte, Int.reduceToNat, w64_id, cast_succ, hpa, hpl])
  refine SW.condT rfl ?_
  repeat (first | (with_reducible first | refine SW.seq ?_ | refine SW.block ?_ | refine SW.rowC ?_ | refine SW.skip ?_ | refine SW.exit ?_ | intro _ | refine And.intro (by omega) ?_) | simp (config := { maxSteps := 1000000 }) (disch := (first | omega | (simp only [go_sem]; try omega))) only [go_sem, Nat.reduceAdd, Nat.reduceEqDiff, Nat.reduceLeDiff, Nat.reduceMul, Nat.reduceLT, reduceIte, Int.reduceToNat, w64_id, cast_succ, hpa, hpl, hst])
  refine SW.ret ?_; (try simp only [go_sem]); (first | refine FunPost.one ?_ | refine FunPost.two ?_ | refine FunPost.three ?_); (try simp (config := { maxSteps := 1000000 }) (disch := (first | omega | (simp only [go_sem]; try omega))) only [go_sem, Nat.reduceAdd, Nat.reduceEqDiff, Nat.reduceLeDiff, Nat.reduceMul, Nat.reduceLT, reduceIte, Int.reduceToNat, w64_id, cast_succ])
  exact GR.of ⟨rfl, rfl⟩
theorem node_some (H : List Blk) (p left : Nat) (S : List (List Int)) (m : Nat) (s : Int) (hl : left ≤ 20000) (hp : H[p]? = some (labB (left + 1) false S m s)) :
    ACalls Tryz.prog f_impl_counter_node [.pc p 0 0] H (fun r H' => r = Bv true ∧ H' = H.set p (labB left false S m s)) := by
  have hpa := fun o => pc_alive (off := o) hp
  have hpl := fun o => pc_ld (off := o) hp
  unfold labB at *
  have hst : ∀ x, astore H [x] (.pc p 0 0) = some (H.set p ⟨0, tyLab, 1, [x, Bv false, ilSS S, I m, I s]⟩) := fun x => by rw [pc_st hp (by simp)]; rfl
  refine ACalls.introB s_impl_counter_node (by simp) ?_; intro hB hA; unfold c_impl_counter_node; simp (config := { maxSteps := 1000000 }) (disch := (first | omega | (simp only [go_sem]; try omega))) only [go_sem, Nat.reduceAdd, Nat.reduceEqDiff, Nat.reduceLeDiff, Nat.reduceMul, Nat.reduceLT, reduceIte, Int.reduceToNat, w64_id, cast_succ]
  repeat (first | (with_reducible first | refine SW.seq ?_ | refine SW.block ?_ | refine SW.rowC ?_ | refine SW.skip ?_ | refine SW.exit ?_ | intro _ | refine And.intro (by omega) ?_) | simp (config := { maxSteps := 1000000 }) (disch := (first | omega | (simp only [go_sem]; try omega))) only [go_sem, Nat.reduceAdd, Nat.reduceEqDiff, Nat.reduceLeDiff, Nat.reduceMul, Nat.reduceLT, reduceIte, Int.reduceToNat, w64_id, cast_succ, hpa, hpl])
  refine SW.condF (show Bv (decide (((left + 1 : Nat) : Int) = 0)) = Bv false by rw [decide_eq_false (by omega)]) ?_
  repeat (first | (with_reducible first | refine SW.seq ?_ | refine SW.block ?_ | refine SW.rowC ?_ | refine SW.skip ?_ | refine SW.exit ?_ | intro _ | refine And.intro (by omega) ?_) | simp (config := { maxSteps := 1000000 }) (disch := (first | omega | (simp only [go_sem]; try omega))) only [go_sem, Nat.reduceAdd, Nat.reduceEqDiff, Nat.reduceLeDiff, Nat.reduceMul, Nat.reduceLT, reduceIte, Int.reduceToNat, w64_id, cast_succ, hpa, hpl, hst])
  refine SW.ret ?_; (try simp only [go_sem]); (first | refine FunPost.one ?_ | refine FunPost.two ?_ | refine FunPost.three ?_); (try simp (config := { maxSteps := 1000000 }) (disch := (first | omega | (simp only [go_sem]; try omega))) only [go_sem, Nat.reduceAdd, Nat.reduceEqDiff, Nat.reduceLeDiff, Nat.reduceMul, Nat.reduceLT, reduceIte, Int.reduceToNat, w64_id, cast_succ])
  exact GR.of ⟨rfl, by rw [show ((left + 1 : Nat) : Int) - 1 = (left : Int) by omega]⟩
theorem count_c1_ok (H : List Blk) (p p1 p2 left i ty1 ty2 : Nat) (spent : Bool) (S : List (List Int)) (m : Nat) (s : Int) (b : List Int) (hbl : b.length ≤ 1000000) (hi : i < S.length) (hp : H[p]? = some (labB left spent S m s)) (h1 : H[p1]? = some ⟨0, ty1, 1, [.pc p 0 0]⟩) (h2 : H[p2]? = some ⟨0, ty2, 1, [I i]⟩) :
    ACalls Tryz.prog f_impl_labeler_count_c1 [ilS b, .pc p1 0 0, .pc p2 0 0] H (fun r H' => r = Bv (decide (s < (comm b (S.getD i []) : Int))) ∧ H' = H) := by
  have hpa := fun o => pc_alive (off := o) hp
  have hpl := fun o => pc_ld (off := o) hp
  unfold labB at hpa hpl
  have hpl1 := fun o => pc_ld (off := o) h1
  have hpl2 := fun o => pc_ld (off := o) h2
  have hcm := common_fn b (S.getD i []) hbl
  refine ACalls.introB s_impl_labeler_count_c1 (by simp) ?_; intro hB hA; unfold c_impl_labeler_count_c1; simp (config := { maxSteps := 1000000 }) (disch := (first | omega | (simp only [go_sem]; try omega))) only [go_sem, Nat.reduceAdd, Nat.reduceEqDiff, Nat.reduceLeDiff, Nat.reduceMul, Nat.reduceLT, reduceIte, Int.reduceToNat, w64_id, cast_succ]
  repeat (first | (with_reducible first | refine SW.seq ?_ | refine SW.block ?_ | refine SW.rowC ?_ | refine SW.skip ?_ | refine SW.exit ?_ | refine PFn.use (hcm) ?_ | refine PFn.useq (hcm) ?_ | intro _ | refine And.intro (by omega) ?_) | simp (config := { maxSteps := 1000000 }) (disch := (first | omega | (simp only [go_sem]; try omega))) only [go_sem, Nat.reduceAdd, Nat.reduceEqDiff, Nat.reduceLeDiff, Nat.reduceMul, Nat.reduceLT, reduceIte, Int.reduceToNat, w64_id, cast_succ, hpa, hpl, hpl1, hpl2])
  refine SW.ret ?_; (try simp only [go_sem]); (first | refine FunPost.one ?_ | refine FunPost.two ?_ | refine FunPost.three ?_); (try simp (config := { maxSteps := 1000000 }) (disch := (first | omega | (simp only [go_sem]; try omega))) only [go_sem, Nat.reduceAdd, Nat.reduceEqDiff, Nat.reduceLeDiff, Nat.reduceMul, Nat.reduceLT, reduceIte, Int.reduceToNat, w64_id, cast_succ])
  exact GR.of ⟨rfl, rfl⟩
end Go.Proofs.YthogadbnddmkdaaGreat
namespace Go.Proofs.YthogadbnddmkdaaGreat
open Go.Av
abbrev f_impl_labeler_count : Nat := 39
def c_impl_labeler_count : SC :=
 .seq (.reg [
     ⟨(some 3), .box 68 (.tmp 0), none⟩,
     ⟨(some 6), .mv (.const (.int .i64 0)), none⟩] [1, 2, 3])
 (.seq (.seq (.reg [
     ⟨(some 9), .mv (.tmp 1), none⟩,
     ⟨(some 10), .len (.tmp 9), none⟩,
     ⟨(some 11), .load 1 false (.tmp 3), none⟩,
     ⟨(some 12), .nilc (.tmp 11), none⟩,
     ⟨(some 13), .faddr 3 (.tmp 12), none⟩,
     ⟨(some 14), .load 1 false (.tmp 13), none⟩,
     ⟨(some 15), .bin .eql (.tmp 10) (.tmp 14), none⟩] [1, 2, 3, 15])
 (.cond (.tmp 15)
  (.seq (.reg [
      ⟨(some 6), .mv (.const (.int .i64 1)), none⟩] [6])
  (.ret))
  (.skip)))
 (.seq (.reg [
     ⟨(some 7), .mv (.const (.int .i64 0)), none⟩] [1, 2, 3, 7])
 (.seq (.seq (.reg [
     ⟨(some 16), .mv (.tmp 2), none⟩,
     ⟨(some 8), .alloc 3 [(.int .i64 0)], none⟩,
     ⟨none, .store 1 (.tmp 8) (.tmp 16), none⟩] [1, 3, 7, 8])
 (.block 0 (.loop [1, 3, 7, 8]
   (.seq (.seq (.reg [
       ⟨(some 17), .load 1 false (.tmp 8), none⟩,
       ⟨(some 18), .load 1 false (.tmp 3), none⟩,
       ⟨(some 19), .nilc (.tmp 18), none⟩,
       ⟨(some 20), .faddr 2 (.tmp 19), none⟩,
       ⟨(some 21), .load 1 false (.tmp 20), none⟩,
       ⟨(some 22), .qlen (.tmp 21), none⟩,
       ⟨(some 23), .bin .lss (.tmp 17) (.tmp 22), none⟩] [1, 3, 7, 8, 23])
   (.cond (.tmp 23)
    (.skip)
    (.exit 0)))
   (.seq (.block 1 (.seq (.seq (.reg [
        ⟨(some 26), .mv (.tmp 1), none⟩,
        ⟨(some 27), .mkf 86 [(.tmp 3), (.tmp 8)], none⟩,
        ⟨(some 28), .call 85 [(.tmp 26), (.tmp 27)], none⟩] [1, 3, 7, 8, 28])
    (.cond (.tmp 28)
     (.exit 1)
     (.skip)))
    (.seq (.seq (.reg [
        ⟨(some 29), .load 1 false (.tmp 3), none⟩,
        ⟨(some 30), .nilc (.tmp 29), none⟩,
        ⟨(some 31), .faddr 0 (.tmp 30), none⟩,
        ⟨(some 32), .faddr 1 (.tmp 31), none⟩,
        ⟨(some 33), .load 1 false (.tmp 32), none⟩,
        ⟨(some 34), .mv (.tmp 33), none⟩,
        ⟨(some 35), .load 1 false (.tmp 3), (some (34, false))⟩,
        ⟨(some 36), .nilc (.tmp 35), (some (34, false))⟩,
        ⟨(some 37), .faddr 0 (.tmp 36), (some (34, false))⟩,
        ⟨(some 38), .call 88 [(.tmp 37)], (some (34, false))⟩,
        ⟨(some 39), .un .not (.tmp 38), (some (34, false))⟩,
        ⟨(some 40), .pick (.tmp 34) (.const (.bool true)) (.tmp 39), none⟩] [1, 3, 7, 8, 40])
    (.cond (.tmp 40)
     (.seq (.reg [
         ⟨(some 6), .mv (.const (.int .i64 0)), none⟩] [6])
     (.ret))
     (.skip)))
    (.mix (.one ⟨(some 41), .mv (.tmp 7), none⟩
     (.one ⟨(some 43), .mv (.tmp 1), none⟩
     (.one ⟨(some 45), .load 1 false (.tmp 3), none⟩
     (.one ⟨(some 46), .nilc (.tmp 45), none⟩
     (.one ⟨(some 47), .faddr 2 (.tmp 46), none⟩
     (.one ⟨(some 48), .load 1 false (.tmp 47), none⟩
     (.one ⟨(some 49), .load 1 false (.tmp 8), none⟩
     (.one ⟨(some 50), .iaddr 1 (.tmp 48) (.tmp 49), none⟩
     (.one ⟨(some 51), .load 1 false (.tmp 50), none⟩
     (.both (.both (.both (.one ⟨(some 42), .load 1 false (.tmp 3), none⟩
        (.both (.both (.one ⟨(some 44), .fcall 89 [(.tmp 43)], none⟩
          (.both (.one ⟨(some 52), .bslice 50 1 1 [(.slice none 0 0)] [(0, (.tmp 51))], none⟩
           (.both (.one ⟨(some 53), .app 50 1 24 (.tmp 44) (.tmp 52), none⟩
            (.one ⟨(some 54), .load 1 false (.tmp 8), none⟩
            (.one ⟨(some 55), .bin .add (.tmp 54) (.const (.int .i64 1)), none⟩
            (.one ⟨(some 56), .call 39 [(.tmp 42), (.tmp 53), (.tmp 55)], none⟩
            (.one ⟨(some 57), .bin .add (.tmp 41) (.tmp 56), none⟩
            (.one ⟨(some 7), .mv (.tmp 57), none⟩
            (.done)))))))
           (.one ⟨(some 54), .load 1 false (.tmp 8), none⟩
            (.one ⟨(some 55), .bin .add (.tmp 54) (.const (.int .i64 1)), none⟩
            (.one ⟨(some 53), .app 50 1 24 (.tmp 44) (.tmp 52), none⟩
            (.one ⟨(some 56), .call 39 [(.tmp 42), (.tmp 53), (.tmp 55)], none⟩
            (.one ⟨(some 57), .bin .add (.tmp 41) (.tmp 56), none⟩
            (.one ⟨(some 7), .mv (.tmp 57), none⟩
            (.done)))))))))
          (.one ⟨(some 54), .load 1 false (.tmp 8), none⟩
           (.one ⟨(some 55), .bin .add (.tmp 54) (.const (.int .i64 1)), none⟩
           (.one ⟨(some 52), .bslice 50 1 1 [(.slice none 0 0)] [(0, (.tmp 51))], none⟩
           (.one ⟨(some 53), .app 50 1 24 (.tmp 44) (.tmp 52), none⟩
           (.one ⟨(some 56), .call 39 [(.tmp 42), (.tmp 53), (.tmp 55)], none⟩
           (.one ⟨(some 57), .bin .add (.tmp 41) (.tmp 56), none⟩
           (.one ⟨(some 7), .mv (.tmp 57), none⟩
           (.done))))))))))
         (.one ⟨(some 52), .bslice 50 1 1 [(.slice none 0 0)] [(0, (.tmp 51))], none⟩
          (.both (.one ⟨(some 44), .fcall 89 [(.tmp 43)], none⟩
           (.both (.one ⟨(some 53), .app 50 1 24 (.tmp 44) (.tmp 52), none⟩
            (.one ⟨(some 54), .load 1 false (.tmp 8), none⟩
            (.one ⟨(some 55), .bin .add (.tmp 54) (.const (.int .i64 1)), none⟩
            (.one ⟨(some 56), .call 39 [(.tmp 42), (.tmp 53), (.tmp 55)], none⟩
            (.one ⟨(some 57), .bin .add (.tmp 41) (.tmp 56), none⟩
            (.one ⟨(some 7), .mv (.tmp 57), none⟩
            (.done)))))))
           (.one ⟨(some 54), .load 1 false (.tmp 8), none⟩
            (.one ⟨(some 55), .bin .add (.tmp 54) (.const (.int .i64 1)), none⟩
            (.one ⟨(some 53), .app 50 1 24 (.tmp 44) (.tmp 52), none⟩
            (.one ⟨(some 56), .call 39 [(.tmp 42), (.tmp 53), (.tmp 55)], none⟩
            (.one ⟨(some 57), .bin .add (.tmp 41) (.tmp 56), none⟩
            (.one ⟨(some 7), .mv (.tmp 57), none⟩
            (.done)))))))))
          (.one ⟨(some 54), .load 1 false (.tmp 8), none⟩
           (.one ⟨(some 55), .bin .add (.tmp 54) (.const (.int .i64 1)), none⟩
           (.one ⟨(some 44), .fcall 89 [(.tmp 43)], none⟩
           (.one ⟨(some 53), .app 50 1 24 (.tmp 44) (.tmp 52), none⟩
           (.one ⟨(some 56), .call 39 [(.tmp 42), (.tmp 53), (.tmp 55)], none⟩
           (.one ⟨(some 57), .bin .add (.tmp 41) (.tmp 56), none⟩
           (.one ⟨(some 7), .mv (.tmp 57), none⟩
           (.done)))))))))))
        (.one ⟨(some 54), .load 1 false (.tmp 8), none⟩
         (.one ⟨(some 55), .bin .add (.tmp 54) (.const (.int .i64 1)), none⟩
         (.both (.one ⟨(some 44), .fcall 89 [(.tmp 43)], none⟩
          (.one ⟨(some 52), .bslice 50 1 1 [(.slice none 0 0)] [(0, (.tmp 51))], none⟩
          (.one ⟨(some 53), .app 50 1 24 (.tmp 44) (.tmp 52), none⟩
          (.one ⟨(some 56), .call 39 [(.tmp 42), (.tmp 53), (.tmp 55)], none⟩
          (.one ⟨(some 57), .bin .add (.tmp 41) (.tmp 56), none⟩
          (.one ⟨(some 7), .mv (.tmp 57), none⟩
          (.done)))))))
         (.one ⟨(some 52), .bslice 50 1 1 [(.slice none 0 0)] [(0, (.tmp 51))], none⟩
          (.one ⟨(some 44), .fcall 89 [(.tmp 43)], none⟩
          (.one ⟨(some 53), .app 50 1 24 (.tmp 44) (.tmp 52), none⟩
          (.one ⟨(some 56), .call 39 [(.tmp 42), (.tmp 53), (.tmp 55)], none⟩
          (.one ⟨(some 57), .bin .add (.tmp 41) (.tmp 56), none⟩
          (.one ⟨(some 7), .mv (.tmp 57), none⟩
          (.done))))))))))))
       (.one ⟨(some 44), .fcall 89 [(.tmp 43)], none⟩
        (.both (.both (.one ⟨(some 42), .load 1 false (.tmp 3), none⟩
          (.both (.one ⟨(some 52), .bslice 50 1 1 [(.slice none 0 0)] [(0, (.tmp 51))], none⟩
           (.both (.one ⟨(some 53), .app 50 1 24 (.tmp 44) (.tmp 52), none⟩
            (.one ⟨(some 54), .load 1 false (.tmp 8), none⟩
            (.one ⟨(some 55), .bin .add (.tmp 54) (.const (.int .i64 1)), none⟩
            (.one ⟨(some 56), .call 39 [(.tmp 42), (.tmp 53), (.tmp 55)], none⟩
            (.one ⟨(some 57), .bin .add (.tmp 41) (.tmp 56), none⟩
            (.one ⟨(some 7), .mv (.tmp 57), none⟩
            (.done)))))))
           (.one ⟨(some 54), .load 1 false (.tmp 8), none⟩
            (.one ⟨(some 55), .bin .add (.tmp 54) (.const (.int .i64 1)), none⟩
            (.one ⟨(some 53), .app 50 1 24 (.tmp 44) (.tmp 52), none⟩
            (.one ⟨(some 56), .call 39 [(.tmp 42), (.tmp 53), (.tmp 55)], none⟩
            (.one ⟨(some 57), .bin .add (.tmp 41) (.tmp 56), none⟩
            (.one ⟨(some 7), .mv (.tmp 57), none⟩
            (.done)))))))))
          (.one ⟨(some 54), .load 1 false (.tmp 8), none⟩
           (.one ⟨(some 55), .bin .add (.tmp 54) (.const (.int .i64 1)), none⟩
           (.one ⟨(some 52), .bslice 50 1 1 [(.slice none 0 0)] [(0, (.tmp 51))], none⟩
           (.one ⟨(some 53), .app 50 1 24 (.tmp 44) (.tmp 52), none⟩
           (.one ⟨(some 56), .call 39 [(.tmp 42), (.tmp 53), (.tmp 55)], none⟩
           (.one ⟨(some 57), .bin .add (.tmp 41) (.tmp 56), none⟩
           (.one ⟨(some 7), .mv (.tmp 57), none⟩
           (.done))))))))))
         (.one ⟨(some 52), .bslice 50 1 1 [(.slice none 0 0)] [(0, (.tmp 51))], none⟩
          (.both (.both (.one ⟨(some 42), .load 1 false (.tmp 3), none⟩
            (.both (.one ⟨(some 53), .app 50 1 24 (.tmp 44) (.tmp 52), none⟩
             (.one ⟨(some 54), .load 1 false (.tmp 8), none⟩
             (.one ⟨(some 55), .bin .add (.tmp 54) (.const (.int .i64 1)), none⟩
             (.one ⟨(some 56), .call 39 [(.tmp 42), (.tmp 53), (.tmp 55)], none⟩
             (.one ⟨(some 57), .bin .add (.tmp 41) (.tmp 56), none⟩
             (.one ⟨(some 7), .mv (.tmp 57), none⟩
             (.done)))))))
            (.one ⟨(some 54), .load 1 false (.tmp 8), none⟩
             (.one ⟨(some 55), .bin .add (.tmp 54) (.const (.int .i64 1)), none⟩
             (.one ⟨(some 53), .app 50 1 24 (.tmp 44) (.tmp 52), none⟩
             (.one ⟨(some 56), .call 39 [(.tmp 42), (.tmp 53), (.tmp 55)], none⟩
             (.one ⟨(some 57), .bin .add (.tmp 41) (.tmp 56), none⟩
             (.one ⟨(some 7), .mv (.tmp 57), none⟩
             (.done)))))))))
           (.one ⟨(some 53), .app 50 1 24 (.tmp 44) (.tmp 52), none⟩
            (.one ⟨(some 42), .load 1 false (.tmp 3), none⟩
            (.one ⟨(some 54), .load 1 false (.tmp 8), none⟩
            (.one ⟨(some 55), .bin .add (.tmp 54) (.const (.int .i64 1)), none⟩
            (.one ⟨(some 56), .call 39 [(.tmp 42), (.tmp 53), (.tmp 55)], none⟩
            (.one ⟨(some 57), .bin .add (.tmp 41) (.tmp 56), none⟩
            (.one ⟨(some 7), .mv (.tmp 57), none⟩
            (.done)))))))))
          (.one ⟨(some 54), .load 1 false (.tmp 8), none⟩
           (.one ⟨(some 55), .bin .add (.tmp 54) (.const (.int .i64 1)), none⟩
           (.both (.one ⟨(some 42), .load 1 false (.tmp 3), none⟩
            (.one ⟨(some 53), .app 50 1 24 (.tmp 44) (.tmp 52), none⟩
            (.one ⟨(some 56), .call 39 [(.tmp 42), (.tmp 53), (.tmp 55)], none⟩
            (.one ⟨(some 57), .bin .add (.tmp 41) (.tmp 56), none⟩
            (.one ⟨(some 7), .mv (.tmp 57), none⟩
            (.done))))))
           (.one ⟨(some 53), .app 50 1 24 (.tmp 44) (.tmp 52), none⟩
            (.one ⟨(some 42), .load 1 false (.tmp 3), none⟩
            (.one ⟨(some 56), .call 39 [(.tmp 42), (.tmp 53), (.tmp 55)], none⟩
            (.one ⟨(some 57), .bin .add (.tmp 41) (.tmp 56), none⟩
            (.one ⟨(some 7), .mv (.tmp 57), none⟩
            (.done))))))))))))
        (.one ⟨(some 54), .load 1 false (.tmp 8), none⟩
         (.one ⟨(some 55), .bin .add (.tmp 54) (.const (.int .i64 1)), none⟩
         (.both (.one ⟨(some 42), .load 1 false (.tmp 3), none⟩
          (.one ⟨(some 52), .bslice 50 1 1 [(.slice none 0 0)] [(0, (.tmp 51))], none⟩
          (.one ⟨(some 53), .app 50 1 24 (.tmp 44) (.tmp 52), none⟩
          (.one ⟨(some 56), .call 39 [(.tmp 42), (.tmp 53), (.tmp 55)], none⟩
          (.one ⟨(some 57), .bin .add (.tmp 41) (.tmp 56), none⟩
          (.one ⟨(some 7), .mv (.tmp 57), none⟩
          (.done)))))))
         (.one ⟨(some 52), .bslice 50 1 1 [(.slice none 0 0)] [(0, (.tmp 51))], none⟩
          (.both (.one ⟨(some 42), .load 1 false (.tmp 3), none⟩
           (.one ⟨(some 53), .app 50 1 24 (.tmp 44) (.tmp 52), none⟩
           (.one ⟨(some 56), .call 39 [(.tmp 42), (.tmp 53), (.tmp 55)], none⟩
           (.one ⟨(some 57), .bin .add (.tmp 41) (.tmp 56), none⟩
           (.one ⟨(some 7), .mv (.tmp 57), none⟩
           (.done))))))
          (.one ⟨(some 53), .app 50 1 24 (.tmp 44) (.tmp 52), none⟩
           (.one ⟨(some 42), .load 1 false (.tmp 3), none⟩
           (.one ⟨(some 56), .call 39 [(.tmp 42), (.tmp 53), (.tmp 55)], none⟩
           (.one ⟨(some 57), .bin .add (.tmp 41) (.tmp 56), none⟩
           (.one ⟨(some 7), .mv (.tmp 57), none⟩
           (.done))))))))))))))
      (.one ⟨(some 52), .bslice 50 1 1 [(.slice none 0 0)] [(0, (.tmp 51))], none⟩
       (.both (.both (.one ⟨(some 42), .load 1 false (.tmp 3), none⟩
         (.both (.one ⟨(some 44), .fcall 89 [(.tmp 43)], none⟩
          (.both (.one ⟨(some 53), .app 50 1 24 (.tmp 44) (.tmp 52), none⟩
           (.one ⟨(some 54), .load 1 false (.tmp 8), none⟩
           (.one ⟨(some 55), .bin .add (.tmp 54) (.const (.int .i64 1)), none⟩
           (.one ⟨(some 56), .call 39 [(.tmp 42), (.tmp 53), (.tmp 55)], none⟩
           (.one ⟨(some 57), .bin .add (.tmp 41) (.tmp 56), none⟩
           (.one ⟨(some 7), .mv (.tmp 57), none⟩
           (.done)))))))
          (.one ⟨(some 54), .load 1 false (.tmp 8), none⟩
           (.one ⟨(some 55), .bin .add (.tmp 54) (.const (.int .i64 1)), none⟩
           (.one ⟨(some 53), .app 50 1 24 (.tmp 44) (.tmp 52), none⟩
           (.one ⟨(some 56), .call 39 [(.tmp 42), (.tmp 53), (.tmp 55)], none⟩
           (.one ⟨(some 57), .bin .add (.tmp 41) (.tmp 56), none⟩
           (.one ⟨(some 7), .mv (.tmp 57), none⟩
           (.done)))))))))
         (.one ⟨(some 54), .load 1 false (.tmp 8), none⟩
          (.one ⟨(some 55), .bin .add (.tmp 54) (.const (.int .i64 1)), none⟩
          (.one ⟨(some 44), .fcall 89 [(.tmp 43)], none⟩
          (.one ⟨(some 53), .app 50 1 24 (.tmp 44) (.tmp 52), none⟩
          (.one ⟨(some 56), .call 39 [(.tmp 42), (.tmp 53), (.tmp 55)], none⟩
          (.one ⟨(some 57), .bin .add (.tmp 41) (.tmp 56), none⟩
          (.one ⟨(some 7), .mv (.tmp 57), none⟩
          (.done))))))))))
        (.one ⟨(some 44), .fcall 89 [(.tmp 43)], none⟩
         (.both (.both (.one ⟨(some 42), .load 1 false (.tmp 3), none⟩
           (.both (.one ⟨(some 53), .app 50 1 24 (.tmp 44) (.tmp 52), none⟩
            (.one ⟨(some 54), .load 1 false (.tmp 8), none⟩
            (.one ⟨(some 55), .bin .add (.tmp 54) (.const (.int .i64 1)), none⟩
            (.one ⟨(some 56), .call 39 [(.tmp 42), (.tmp 53), (.tmp 55)], none⟩
            (.one ⟨(some 57), .bin .add (.tmp 41) (.tmp 56), none⟩
            (.one ⟨(some 7), .mv (.tmp 57), none⟩
            (.done)))))))
           (.one ⟨(some 54), .load 1 false (.tmp 8), none⟩
            (.one ⟨(some 55), .bin .add (.tmp 54) (.const (.int .i64 1)), none⟩
            (.one ⟨(some 53), .app 50 1 24 (.tmp 44) (.tmp 52), none⟩
            (.one ⟨(some 56), .call 39 [(.tmp 42), (.tmp 53), (.tmp 55)], none⟩
            (.one ⟨(some 57), .bin .add (.tmp 41) (.tmp 56), none⟩
            (.one ⟨(some 7), .mv (.tmp 57), none⟩
            (.done)))))))))
          (.one ⟨(some 53), .app 50 1 24 (.tmp 44) (.tmp 52), none⟩
           (.one ⟨(some 42), .load 1 false (.tmp 3), none⟩
           (.one ⟨(some 54), .load 1 false (.tmp 8), none⟩
           (.one ⟨(some 55), .bin .add (.tmp 54) (.const (.int .i64 1)), none⟩
           (.one ⟨(some 56), .call 39 [(.tmp 42), (.tmp 53), (.tmp 55)], none⟩
           (.one ⟨(some 57), .bin .add (.tmp 41) (.tmp 56), none⟩
           (.one ⟨(some 7), .mv (.tmp 57), none⟩
           (.done)))))))))
         (.one ⟨(some 54), .load 1 false (.tmp 8), none⟩
          (.one ⟨(some 55), .bin .add (.tmp 54) (.const (.int .i64 1)), none⟩
          (.both (.one ⟨(some 42), .load 1 false (.tmp 3), none⟩
           (.one ⟨(some 53), .app 50 1 24 (.tmp 44) (.tmp 52), none⟩
           (.one ⟨(some 56), .call 39 [(.tmp 42), (.tmp 53), (.tmp 55)], none⟩
           (.one ⟨(some 57), .bin .add (.tmp 41) (.tmp 56), none⟩
           (.one ⟨(some 7), .mv (.tmp 57), none⟩
           (.done))))))
          (.one ⟨(some 53), .app 50 1 24 (.tmp 44) (.tmp 52), none⟩
           (.one ⟨(some 42), .load 1 false (.tmp 3), none⟩
           (.one ⟨(some 56), .call 39 [(.tmp 42), (.tmp 53), (.tmp 55)], none⟩
           (.one ⟨(some 57), .bin .add (.tmp 41) (.tmp 56), none⟩
           (.one ⟨(some 7), .mv (.tmp 57), none⟩
           (.done))))))))))))
       (.one ⟨(some 54), .load 1 false (.tmp 8), none⟩
        (.one ⟨(some 55), .bin .add (.tmp 54) (.const (.int .i64 1)), none⟩
        (.both (.one ⟨(some 42), .load 1 false (.tmp 3), none⟩
         (.one ⟨(some 44), .fcall 89 [(.tmp 43)], none⟩
         (.one ⟨(some 53), .app 50 1 24 (.tmp 44) (.tmp 52), none⟩
         (.one ⟨(some 56), .call 39 [(.tmp 42), (.tmp 53), (.tmp 55)], none⟩
         (.one ⟨(some 57), .bin .add (.tmp 41) (.tmp 56), none⟩
         (.one ⟨(some 7), .mv (.tmp 57), none⟩
         (.done)))))))
        (.one ⟨(some 44), .fcall 89 [(.tmp 43)], none⟩
         (.both (.one ⟨(some 42), .load 1 false (.tmp 3), none⟩
          (.one ⟨(some 53), .app 50 1 24 (.tmp 44) (.tmp 52), none⟩
          (.one ⟨(some 56), .call 39 [(.tmp 42), (.tmp 53), (.tmp 55)], none⟩
          (.one ⟨(some 57), .bin .add (.tmp 41) (.tmp 56), none⟩
          (.one ⟨(some 7), .mv (.tmp 57), none⟩
          (.done))))))
         (.one ⟨(some 53), .app 50 1 24 (.tmp 44) (.tmp 52), none⟩
          (.one ⟨(some 42), .load 1 false (.tmp 3), none⟩
          (.one ⟨(some 56), .call 39 [(.tmp 42), (.tmp 53), (.tmp 55)], none⟩
          (.one ⟨(some 57), .bin .add (.tmp 41) (.tmp 56), none⟩
          (.one ⟨(some 7), .mv (.tmp 57), none⟩
          (.done))))))))))))))
     (.one ⟨(some 54), .load 1 false (.tmp 8), none⟩
      (.one ⟨(some 55), .bin .add (.tmp 54) (.const (.int .i64 1)), none⟩
      (.both (.both (.one ⟨(some 42), .load 1 false (.tmp 3), none⟩
        (.both (.one ⟨(some 44), .fcall 89 [(.tmp 43)], none⟩
         (.one ⟨(some 52), .bslice 50 1 1 [(.slice none 0 0)] [(0, (.tmp 51))], none⟩
         (.one ⟨(some 53), .app 50 1 24 (.tmp 44) (.tmp 52), none⟩
         (.one ⟨(some 56), .call 39 [(.tmp 42), (.tmp 53), (.tmp 55)], none⟩
         (.one ⟨(some 57), .bin .add (.tmp 41) (.tmp 56), none⟩
         (.one ⟨(some 7), .mv (.tmp 57), none⟩
         (.done)))))))
        (.one ⟨(some 52), .bslice 50 1 1 [(.slice none 0 0)] [(0, (.tmp 51))], none⟩
         (.one ⟨(some 44), .fcall 89 [(.tmp 43)], none⟩
         (.one ⟨(some 53), .app 50 1 24 (.tmp 44) (.tmp 52), none⟩
         (.one ⟨(some 56), .call 39 [(.tmp 42), (.tmp 53), (.tmp 55)], none⟩
         (.one ⟨(some 57), .bin .add (.tmp 41) (.tmp 56), none⟩
         (.one ⟨(some 7), .mv (.tmp 57), none⟩
         (.done)))))))))
       (.one ⟨(some 44), .fcall 89 [(.tmp 43)], none⟩
        (.both (.one ⟨(some 42), .load 1 false (.tmp 3), none⟩
         (.one ⟨(some 52), .bslice 50 1 1 [(.slice none 0 0)] [(0, (.tmp 51))], none⟩
         (.one ⟨(some 53), .app 50 1 24 (.tmp 44) (.tmp 52), none⟩
         (.one ⟨(some 56), .call 39 [(.tmp 42), (.tmp 53), (.tmp 55)], none⟩
         (.one ⟨(some 57), .bin .add (.tmp 41) (.tmp 56), none⟩
         (.one ⟨(some 7), .mv (.tmp 57), none⟩
         (.done)))))))
        (.one ⟨(some 52), .bslice 50 1 1 [(.slice none 0 0)] [(0, (.tmp 51))], none⟩
         (.both (.one ⟨(some 42), .load 1 false (.tmp 3), none⟩
          (.one ⟨(some 53), .app 50 1 24 (.tmp 44) (.tmp 52), none⟩
          (.one ⟨(some 56), .call 39 [(.tmp 42), (.tmp 53), (.tmp 55)], none⟩
          (.one ⟨(some 57), .bin .add (.tmp 41) (.tmp 56), none⟩
          (.one ⟨(some 7), .mv (.tmp 57), none⟩
          (.done))))))
         (.one ⟨(some 53), .app 50 1 24 (.tmp 44) (.tmp 52), none⟩
          (.one ⟨(some 42), .load 1 false (.tmp 3), none⟩
          (.one ⟨(some 56), .call 39 [(.tmp 42), (.tmp 53), (.tmp 55)], none⟩
          (.one ⟨(some 57), .bin .add (.tmp 41) (.tmp 56), none⟩
          (.one ⟨(some 7), .mv (.tmp 57), none⟩
          (.done)))))))))))
      (.one ⟨(some 52), .bslice 50 1 1 [(.slice none 0 0)] [(0, (.tmp 51))], none⟩
       (.both (.one ⟨(some 42), .load 1 false (.tmp 3), none⟩
        (.one ⟨(some 44), .fcall 89 [(.tmp 43)], none⟩
        (.one ⟨(some 53), .app 50 1 24 (.tmp 44) (.tmp 52), none⟩
        (.one ⟨(some 56), .call 39 [(.tmp 42), (.tmp 53), (.tmp 55)], none⟩
        (.one ⟨(some 57), .bin .add (.tmp 41) (.tmp 56), none⟩
        (.one ⟨(some 7), .mv (.tmp 57), none⟩
        (.done)))))))
       (.one ⟨(some 44), .fcall 89 [(.tmp 43)], none⟩
        (.both (.one ⟨(some 42), .load 1 false (.tmp 3), none⟩
         (.one ⟨(some 53), .app 50 1 24 (.tmp 44) (.tmp 52), none⟩
         (.one ⟨(some 56), .call 39 [(.tmp 42), (.tmp 53), (.tmp 55)], none⟩
         (.one ⟨(some 57), .bin .add (.tmp 41) (.tmp 56), none⟩
         (.one ⟨(some 7), .mv (.tmp 57), none⟩
         (.done))))))
        (.one ⟨(some 53), .app 50 1 24 (.tmp 44) (.tmp 52), none⟩
         (.one ⟨(some 42), .load 1 false (.tmp 3), none⟩
         (.one ⟨(some 56), .call 39 [(.tmp 42), (.tmp 53), (.tmp 55)], none⟩
         (.one ⟨(some 57), .bin .add (.tmp 41) (.tmp 56), none⟩
         (.one ⟨(some 7), .mv (.tmp 57), none⟩
         (.done))))))))))))))))))))))) [1, 3, 7, 8]))))
   (.seq (.seq (.reg [
       ⟨(some 58), .load 1 false (.tmp 8), none⟩] [1, 3, 7, 58])
   (.reg [
       ⟨(some 8), .alloc 3 [(.int .i64 0)], none⟩,
       ⟨none, .store 1 (.tmp 8) (.tmp 58), none⟩] [1, 3, 7, 8]))
   (.reg [
       ⟨(some 24), .load 1 false (.tmp 8), none⟩,
       ⟨(some 25), .bin .add (.tmp 24) (.const (.int .i64 1)), none⟩,
       ⟨none, .store 1 (.tmp 8) (.tmp 25), none⟩] [1, 3, 7, 8])))))))
 (.seq (.reg [
     ⟨(some 59), .mv (.tmp 7), none⟩,
     ⟨(some 6), .mv (.tmp 59), none⟩] [6])
 (.ret)))))
theorem s_impl_labeler_count : stripF Tryz.prog 39 [[1, 2, 3], [1, 2, 3, 15], [6], [1, 2, 3, 7], [1, 3, 7, 8], [1, 3, 7, 8], [1, 3, 7, 8, 23], [1, 3, 7, 8, 28], [1, 3, 7, 8, 40], [6], [1, 3, 7, 8, 1001003, 1000015], [1, 3, 7, 58], [1, 3, 7, 8], [1, 3, 7, 8], [6]] = some (c_impl_labeler_count, [.tmp 6], 60) := by kernel_rfl
theorem getAppB {H : List Blk} {p : Nat} {b : Blk} (h : H[p]? = some b) (ext : List Blk) : (H ++ ext)[p]? = some b := by
  rw [List.getElem?_append_left (List.getElem?_eq_some_iff.1 h).1]; exact h
def LabR (S : List (List Int)) (m : Nat) (s : Int) (H : List Blk) (p left r : Nat) (o : Option (Nat × Nat)) (r' : AV) (H' : List Blk) : Prop :=
  ∃ (c left' : Nat) (spent : Bool), r' = I c ∧ H' = H.set p (labB left' spent S m s) ∧ left' ≤ left ∧ c + left' ≤ left + (if r = 0 then 1 else 0) ∧ (spent = true → o = none) ∧ (spent = false → o = some (c, left'))
theorem FcallW.rows {P : Program} {f : FuncId} {args : List AV} {X : List Blk} {B : List (List Int)} {K : AV → List Blk → Prop}
    (h : ACalls P f args X (fun r H' => ∃ ver, r = .nm X.length ver 0 B.length ∧ H' = X ++ [⟨ver, tyLL, 1, B.map ilS⟩]))
    (hk : ∀ ver, K (.nm X.length ver 0 B.length) (X ++ [⟨ver, tyLL, 1, B.map ilS⟩])) : FcallW P f args X K := by
  refine h.mono ?_
  rintro r H' ⟨ver, rfl, rfl⟩
  exact ⟨hk ver, _, rfl⟩
theorem cl_nil (s : Int) (B : List (List Int)) (r left : Nat) : cl s B [] (r + 1) left = some (0, left) := rfl
theorem labCount_ok (S : List (List Int)) (m : Nat) (s : Int) (hm : m ≤ 1000) (hSl : S.length ≤ 1000000) (hSa : ∀ t ∈ S, t.length ≤ 32) :
    ∀ (r : Nat) (H : List Blk) (p : Nat) (a : AV) (B : List (List Int)) (at_ left : Nat), ArgR p H a B → B.length + r = m → (∀ b ∈ B, b.length ≤ 32) → at_ ≤ S.length → left ≤ 20000 → H[p]? = some (labB left false S m s) →
    ACalls Tryz.prog f_impl_labeler_count [.pc p 0 0, a, I at_] H (LabR S m s H p left r (cl s B (S.drop at_) r left)) := by
  intro r
  induction r with
  | zero =>
    intro H p a B at_ left ha hBm hBl hat hleft hp
    have hpa := fun o ext => pc_alive (off := o) (getAppB hp ext)
    have hpl := fun o ext => pc_ld (off := o) (getAppB hp ext)
    have hav := fun ext => (ha.app ext).view
    have hav0 := ha.view
    unfold labB at hpa hpl
    refine ACalls.introB s_impl_labeler_count (by simp) ?_; intro hB hA; unfold c_impl_labeler_count; simp (config := { maxSteps := 1000000 }) (disch := (first | omega | (simp only [go_sem]; try omega))) only [go_sem, Nat.reduceAdd, Nat.reduceEqDiff, Nat.reduceLeDiff, Nat.reduceMul, Nat.reduceLT, reduceIte, Int.reduceToNat, w64_id, cast_succ]
    repeat (first | (with_reducible first | refine SW.seq ?_ | refine SW.block ?_ | refine SW.rowC ?_ | refine SW.skip ?_ | refine SW.exit ?_ | intro _ | refine And.intro (by omega) ?_) | simp (config := { maxSteps := 1000000 }) (disch := (first | omega | (simp only [go_sem]; try omega))) only [go_sem, Nat.reduceAdd, Nat.reduceEqDiff, Nat.reduceLeDiff, Nat.reduceMul, Nat.reduceLT, reduceIte, Int.reduceToNat, w64_id, cast_succ, hpa, hpl, hav, hav0])
    refine ⟨rfl, ?_⟩
    rw [show partsOf (AV.pc p 0 0) = [.pc p 0 0] from rfl]
    repeat (first | (with_reducible first | refine SW.seq ?_ | refine SW.block ?_ | refine SW.rowC ?_ | refine SW.skip ?_ | refine SW.exit ?_ | intro _ | refine And.intro (by omega) ?_) | simp (config := { maxSteps := 1000000 }) (disch := (first | omega | (simp only [go_sem]; try omega))) only [go_sem, Nat.reduceAdd, Nat.reduceEqDiff, Nat.reduceLeDiff, Nat.reduceMul, Nat.reduceLT, reduceIte, Int.reduceToNat, w64_id, cast_succ, hpa, hpl, hav, hav0])
    refine SW.condT (show Bv (decide ((B.length : Int) = m)) = Bv true by rw [decide_eq_true (by omega)]) ?_
    repeat (first | (with_reducible first | refine SW.seq ?_ | refine SW.block ?_ | refine SW.rowC ?_ | refine SW.skip ?_ | refine SW.exit ?_ | intro _ | refine And.intro (by omega) ?_) | simp (config := { maxSteps := 1000000 }) (disch := (first | omega | (simp only [go_sem]; try omega))) only [go_sem, Nat.reduceAdd, Nat.reduceEqDiff, Nat.reduceLeDiff, Nat.reduceMul, Nat.reduceLT, reduceIte, Int.reduceToNat, w64_id, cast_succ])
    refine SW.ret ?_; (try simp only [go_sem]); (first | refine FunPost.one ?_ | refine FunPost.two ?_ | refine FunPost.three ?_); (try simp (config := { maxSteps := 1000000 }) (disch := (first | omega | (simp only [go_sem]; try omega))) only [go_sem, Nat.reduceAdd, Nat.reduceEqDiff, Nat.reduceLeDiff, Nat.reduceMul, Nat.reduceLT, reduceIte, Int.reduceToNat, w64_id, cast_succ])
    have hself : H.set p (labB left false S m s) = H := by
      obtain ⟨g1, g2⟩ := List.getElem?_eq_some_iff.1 hp
      rw [← g2]; exact List.set_getElem_self g1
    exact GR.froz (.old _ (.lit _)) ⟨1, left, false, rfl, hself.symm, Nat.le_refl _, by simp; omega, by simp, fun _ => cl_zero _ _ _ _⟩
  | succ r ih =>
    intro H p a B at_ left ha hBm hBl hat hleft hp
    have hlt := (List.getElem?_eq_some_iff.1 hp).1
    have hself : H.set p (labB left false S m s) = H := by
      obtain ⟨g1, g2⟩ := List.getElem?_eq_some_iff.1 hp
      rw [← g2]; exact List.set_getElem_self g1
    have hgp : ∀ (b : Blk) ext, (H.set p b ++ ext)[p]? = some b := fun b ext => getAppB (List.getElem?_set_self hlt) ext
    have hpa := fun o ext => pc_alive (off := o) (getAppB hp ext)
    have hpl := fun o ext => pc_ld (off := o) (getAppB hp ext)
    have hav := fun ext => (ha.app ext).view
    have hav0 := ha.view
    unfold labB at hpa hpl
    refine ACalls.introB s_impl_labeler_count (by simp) ?_; intro hB hA; unfold c_impl_labeler_count; simp (config := { maxSteps := 1000000 }) (disch := (first | omega | (simp only [go_sem]; try omega))) only [go_sem, Nat.reduceAdd, Nat.reduceEqDiff, Nat.reduceLeDiff, Nat.reduceMul, Nat.reduceLT, reduceIte, Int.reduceToNat, w64_id, cast_succ]
    have hBG : ∀ l2 sp2, HB (H.set p (labB l2 sp2 S m s)) := fun l2 sp2 b hb c hcc => by
      rw [List.length_set]
      rcases List.mem_or_eq_of_mem_set hb with hb | rfl
      · exact hB b hb c hcc
      · unfold labB at hcc
        simp only [List.mem_cons, List.not_mem_nil, or_false] at hcc
        rcases hcc with rfl | rfl | rfl | rfl | rfl
        · exact .lit _
        · exact .lit _
        · rw [Bel_ilSS]; trivial
        · exact .lit _
        · exact .lit _
    repeat (first | (with_reducible first | refine SW.seq ?_ | refine SW.block ?_ | refine SW.rowC ?_ | refine SW.skip ?_ | refine SW.exit ?_ | intro _ | refine And.intro (by omega) ?_) | simp (config := { maxSteps := 1000000 }) (disch := (first | omega | (simp only [go_sem]; try omega))) only [go_sem, Nat.reduceAdd, Nat.reduceEqDiff, Nat.reduceLeDiff, Nat.reduceMul, Nat.reduceLT, reduceIte, Int.reduceToNat, w64_id, cast_succ, hpa, hpl, hav, hav0])
    refine ⟨rfl, ?_⟩
    rw [show partsOf (AV.pc p 0 0) = [.pc p 0 0] from rfl]
    repeat (first | (with_reducible first | refine SW.seq ?_ | refine SW.block ?_ | refine SW.rowC ?_ | refine SW.skip ?_ | refine SW.exit ?_ | intro _ | refine And.intro (by omega) ?_) | simp (config := { maxSteps := 1000000 }) (disch := (first | omega | (simp only [go_sem]; try omega))) only [go_sem, Nat.reduceAdd, Nat.reduceEqDiff, Nat.reduceLeDiff, Nat.reduceMul, Nat.reduceLT, reduceIte, Int.reduceToNat, w64_id, cast_succ, hpa, hpl, hav, hav0])
    refine SW.condF (show Bv (decide ((B.length : Int) = m)) = Bv false by rw [decide_eq_false (by omega)]) ?_
    repeat (first | (with_reducible first | refine SW.seq ?_ | refine SW.block ?_ | refine SW.rowC ?_ | refine SW.skip ?_ | refine SW.exit ?_ | intro _ | refine And.intro (by omega) ?_) | simp (config := { maxSteps := 1000000 }) (disch := (first | omega | (simp only [go_sem]; try omega))) only [go_sem, Nat.reduceAdd, Nat.reduceEqDiff, Nat.reduceLeDiff, Nat.reduceMul, Nat.reduceLT, reduceIte, Int.reduceToNat, w64_id, cast_succ])
    refine SW.loopE (fun E0 H0 q E' H' => ∃ (i sum left' ty1 ty2 j : Nat) (spent : Bool) (ext : List Blk), at_ ≤ i ∧ i ≤ S.length ∧ q = S.length - i ∧ E' = aput (aput E0 7 (I sum)) 8 (.pc j 0 0) ∧ H' = H.set p (labB left' spent S m s) ++ ext ∧ H'[H.length]? = some ⟨0, ty1, 1, [.pc p 0 0]⟩ ∧ H.length ≤ j ∧ H'[j]? = some ⟨0, ty2, 1, [I i]⟩ ∧ left' ≤ left ∧ sum + left' ≤ left ∧
      (spent = true → cl s B (S.drop at_) (r + 1) left = none) ∧ (spent = false → cl s B (S.drop at_) (r + 1) left = match cl s B (S.drop i) (r + 1) left' with | none => none | some (d, l) => some (sum + d, l))) (S.length - at_)
      ⟨at_, 0, left, _, _, H.length + 1, false, _, Nat.le_refl _, hat, rfl, rfl, by rw [hself], by rw [List.getElem?_append_right (Nat.le_refl _), Nat.sub_self]; rfl, by omega, by rw [List.getElem?_append_right (by omega), Nat.add_sub_cancel_left]; rfl, Nat.le_refl _, by omega, by simp, fun _ => ?_⟩ ?_
    · cases cl s B (S.drop at_) (r + 1) left with
      | none => rfl
      | some p => simp
    rintro q E' H' ⟨i, sum, left', ty1, ty2, j, spent, ext, hai, hi, rfl, rfl, rfl, hb0, hj, hb1, hl1, hl2, ho1, ho2⟩
    have hpG := hgp (labB left' spent S m s) ext
    have hq1 := fun o => pc_alive (off := o) hpG
    have hq2 := fun o => pc_ld (off := o) hpG
    have hl : (H.set p (labB left' spent S m s)).length = H.length := List.length_set
    have hq3 := fun o => pc_ld (off := o) hb0
    have hq4 := fun o => pc_ld (off := o) hb1
    have hq5 := fun o => pc_alive (off := o) hb0
    have hq6 := fun o => pc_alive (off := o) hb1
    have hjl : j < (H.set p (labB left' spent S m s) ++ ext).length := (List.getElem?_eq_some_iff.1 hb1).1
    have hcc : callable Tryz.prog f_impl_labeler_count_c1 = true := by kernel_rfl
    have haG := (ha.set (labB left' spent S m s)).app ext
    have hset : ∀ l2 sp2 ext2, (H.set p (labB left' spent S m s) ++ ext2).set p (labB l2 sp2 S m s) = H.set p (labB l2 sp2 S m s) ++ ext2 := fun l2 sp2 ext2 => by rw [List.set_append_left _ _ (by omega), List.set_set]
    generalize hG : H.set p (labB left' spent S m s) ++ ext = G at *
    simp (config := { maxSteps := 1000000 }) (disch := (first | omega | (simp only [go_sem]; try omega))) only [go_sem, Nat.reduceAdd, Nat.reduceEqDiff, Nat.reduceLeDiff, Nat.reduceMul, Nat.reduceLT, reduceIte, Int.reduceToNat, w64_id, cast_succ]
    repeat (first | (with_reducible first | refine SW.seq ?_ | refine SW.block ?_ | refine SW.rowC ?_ | refine SW.skip ?_ | refine SW.exit ?_ | intro _ | refine And.intro (by omega) ?_) | simp (config := { maxSteps := 1000000 }) (disch := (first | omega | (simp only [go_sem]; try omega))) only [go_sem, Nat.reduceAdd, Nat.reduceEqDiff, Nat.reduceLeDiff, Nat.reduceMul, Nat.reduceLT, reduceIte, Int.reduceToNat, w64_id, cast_succ, hq1, hq2, hq3, hq4, hq5, hq6])
    (first | refine SW.condD rfl (fun h2 => ?_) (fun h2 => ?_) | refine SW.condN rfl (fun h2 => ?_) (fun h2 => ?_) | refine SW.condNB rfl (fun h2 => ?_) (fun h2 => ?_) | refine SW.condB rfl (fun h2 => ?_) (fun h2 => ?_))
    · repeat (first | (with_reducible first | refine SW.seq ?_ | refine SW.block ?_ | refine SW.rowC ?_ | refine SW.skip ?_ | refine SW.exit ?_ | intro _ | refine And.intro (by omega) ?_) | simp (config := { maxSteps := 1000000 }) (disch := (first | omega | (simp only [go_sem]; try omega))) only [go_sem, Nat.reduceAdd, Nat.reduceEqDiff, Nat.reduceLeDiff, Nat.reduceMul, Nat.reduceLT, reduceIte, Int.reduceToNat, w64_id, cast_succ, hq1, hq2, hq3, hq4, hq5, hq6, hcc])
      refine (conSS_ok ilS G a B haG.view f_impl_labeler_count_c1 [.pc H.length 0 0, .pc j 0 0] hcc (fun b => decide (s < (comm b (S.getD i []) : Int))) (fun b hb => count_c1_ok G p H.length j left' i ty1 ty2 spent S m s b (by have := hBl b hb; omega) (by omega) hpG hb0 hb1)).mono ?_
      rintro r1 H1 ⟨rfl, rfl⟩
      have hany : (B.any fun b => decide (s < (comm b (S.getD i []) : Int))) = !fitsC s B (S.getD i []) := by unfold fitsC; rw [List.any_eq_not_all_not]
      rw [hany]
      have hdr : S.drop i = S.getD i [] :: S.drop (i + 1) := by rw [List.getD_eq_getElem?_getD, List.getElem?_eq_getElem (by omega)]; exact List.drop_eq_getElem_cons (by omega)
      rw [hdr] at ho2
      have hxl : (S.getD i []).length ≤ 32 := hSa _ (by rw [List.getD_eq_getElem?_getD, List.getElem?_eq_getElem (by omega)]; exact List.getElem_mem _)
      cases hf : fitsC s B (S.getD i [])
      · repeat (first | (with_reducible first | refine SW.seq ?_ | refine SW.block ?_ | refine SW.rowC ?_ | refine SW.skip ?_ | refine SW.exit ?_ | intro _ | refine And.intro (by omega) ?_) | simp (config := { maxSteps := 1000000 }) (disch := (first | omega | (simp only [go_sem]; try omega))) only [go_sem, Nat.reduceAdd, Nat.reduceEqDiff, Nat.reduceLeDiff, Nat.reduceMul, Nat.reduceLT, reduceIte, Int.reduceToNat, w64_id, cast_succ])
        refine SW.condT rfl ?_
        repeat (first | (with_reducible first | refine SW.seq ?_ | refine SW.block ?_ | refine SW.rowC ?_ | refine SW.skip ?_ | refine SW.exit ?_ | intro _ | refine And.intro (by omega) ?_) | simp (config := { maxSteps := 1000000 }) (disch := (first | omega | (simp only [go_sem]; try omega))) only [go_sem, Nat.reduceAdd, Nat.reduceEqDiff, Nat.reduceLeDiff, Nat.reduceMul, Nat.reduceLT, reduceIte, Int.reduceToNat, w64_id, cast_succ, hq1, hq2, hq3, hq4, hq5, hq6])
        refine SLoop.next (S.length - (i + 1)) (by omega) ⟨i + 1, sum, left', ty1, _, _, spent, ext ++ [_], by omega, by omega, rfl, rfl, by rw [← hG, List.append_assoc], getAppB hb0 _, ?_, by rw [List.getElem?_append_right (Nat.le_refl _), Nat.sub_self]; rfl, hl1, hl2, ho1, fun h => ?_⟩
        · rw [← hG, List.length_append]; omega
        · have := ho2 h
          rw [cl_no hf] at this
          exact this
      · repeat (first | (with_reducible first | refine SW.seq ?_ | refine SW.block ?_ | refine SW.rowC ?_ | refine SW.skip ?_ | refine SW.exit ?_ | intro _ | refine And.intro (by omega) ?_) | simp (config := { maxSteps := 1000000 }) (disch := (first | omega | (simp only [go_sem]; try omega))) only [go_sem, Nat.reduceAdd, Nat.reduceEqDiff, Nat.reduceLeDiff, Nat.reduceMul, Nat.reduceLT, reduceIte, Int.reduceToNat, w64_id, cast_succ])
        refine SW.condF rfl ?_
        cases spent
        · repeat (first | (with_reducible first | refine SW.seq ?_ | refine SW.block ?_ | refine SW.rowC ?_ | refine SW.skip ?_ | refine SW.exit ?_ | intro _ | refine And.intro (by omega) ?_) | simp (config := { maxSteps := 1000000 }) (disch := (first | omega | (simp only [go_sem]; try omega))) only [go_sem, Nat.reduceAdd, Nat.reduceEqDiff, Nat.reduceLeDiff, Nat.reduceMul, Nat.reduceLT, reduceIte, Int.reduceToNat, w64_id, cast_succ, hq1, hq2, hq3, hq4, hq5, hq6])
          rcases Nat.eq_zero_or_pos left' with rfl | hpos
          · refine (node_none _ p S m s hpG).mono ?_
            rintro r1 H2 ⟨rfl, rfl⟩
            rw [← hG, hset]
            repeat (first | (with_reducible first | refine SW.seq ?_ | refine SW.block ?_ | refine SW.rowC ?_ | refine SW.skip ?_ | refine SW.exit ?_ | intro _ | refine And.intro (by omega) ?_) | simp (config := { maxSteps := 1000000 }) (disch := (first | omega | (simp only [go_sem]; try omega))) only [go_sem, Nat.reduceAdd, Nat.reduceEqDiff, Nat.reduceLeDiff, Nat.reduceMul, Nat.reduceLT, reduceIte, Int.reduceToNat, w64_id, cast_succ])
            refine SW.condT rfl ?_
            repeat (first | (with_reducible first | refine SW.seq ?_ | refine SW.block ?_ | refine SW.rowC ?_ | refine SW.skip ?_ | refine SW.exit ?_ | intro _ | refine And.intro (by omega) ?_) | simp (config := { maxSteps := 1000000 }) (disch := (first | omega | (simp only [go_sem]; try omega))) only [go_sem, Nat.reduceAdd, Nat.reduceEqDiff, Nat.reduceLeDiff, Nat.reduceMul, Nat.reduceLT, reduceIte, Int.reduceToNat, w64_id, cast_succ])
            refine SW.ret ?_; (try simp only [go_sem]); (first | refine FunPost.one ?_ | refine FunPost.two ?_ | refine FunPost.three ?_); (try simp (config := { maxSteps := 1000000 }) (disch := (first | omega | (simp only [go_sem]; try omega))) only [go_sem, Nat.reduceAdd, Nat.reduceEqDiff, Nat.reduceLeDiff, Nat.reduceMul, Nat.reduceLT, reduceIte, Int.reduceToNat, w64_id, cast_succ])
            have hn := ho2 rfl
            rw [cl_spent hf] at hn
            exact GR.frozH (H0 := H) (H1 := H.set p (labB 0 true S m s)) (by simp) (hBG _ _) (froz_I' (0 : Int)) ⟨0, 0, true, rfl, rfl, by omega, by omega, fun _ => hn, by simp⟩
          · obtain ⟨l2, rfl⟩ : ∃ l2, left' = l2 + 1 := ⟨left' - 1, by omega⟩
            refine (node_some _ p l2 S m s (by omega) hpG).mono ?_
            rintro r1 H2 ⟨rfl, rfl⟩
            rw [← hG, hset]
            repeat (first | (with_reducible first | refine SW.seq ?_ | refine SW.block ?_ | refine SW.rowC ?_ | refine SW.skip ?_ | refine SW.exit ?_ | intro _ | refine And.intro (by omega) ?_) | simp (config := { maxSteps := 1000000 }) (disch := (first | omega | (simp only [go_sem]; try omega))) only [go_sem, Nat.reduceAdd, Nat.reduceEqDiff, Nat.reduceLeDiff, Nat.reduceMul, Nat.reduceLT, reduceIte, Int.reduceToNat, w64_id, cast_succ])
            refine SW.condF rfl ?_
            repeat (first | (with_reducible first | refine SW.seq ?_ | refine SW.block ?_ | refine SW.rowC ?_ | refine SW.skip ?_ | refine SW.exit ?_ | intro _ | refine And.intro (by omega) ?_) | simp (config := { maxSteps := 1000000 }) (disch := (first | omega | (simp only [go_sem]; try omega))) only [go_sem, Nat.reduceAdd, Nat.reduceEqDiff, Nat.reduceLeDiff, Nat.reduceMul, Nat.reduceLT, reduceIte, Int.reduceToNat, w64_id, cast_succ])
            generalize hx : S.getD i [] = x at *
            refine SW.mixR (fun E' H' => ∃ (c l3 : Nat) (sp3 : Bool) (ext2 : List Blk), keep [1, 3, 7, 8] E' = [(1, a), (3, AV.pc H.length 0 0), (7, I ((sum : Int) + c)), (8, AV.pc j 0 0)] ∧ H' = H.set p (labB l3 sp3 S m s) ++ (ext ++ ext2) ∧ l3 ≤ l2 ∧ c + l3 ≤ l2 + (if r = 0 then 1 else 0) ∧ (sp3 = true → cl s (B ++ [x]) (S.drop (i + 1)) r l2 = none) ∧ (sp3 = false → cl s (B ++ [x]) (S.drop (i + 1)) r l2 = some (c, l3))) ?_ ?_
            · have hl3 : (H.set p (labB l2 false S m s)).length = H.length := List.length_set
              have hb0' := hb0
              have hx0 : ∀ ext2, (H.set p (labB l2 false S m s) ++ ext ++ ext2)[H.length]? = some ⟨0, ty1, 1, [.pc p 0 0]⟩ := fun ext2 => by
                refine getAppB ?_ ext2
                rw [← hG, List.getElem?_append_right (by omega), hl] at hb0'
                rw [List.getElem?_append_right (by omega), hl3]; exact hb0'
              have hx1 : ∀ ext2, (H.set p (labB l2 false S m s) ++ ext ++ ext2)[j]? = some ⟨0, ty2, 1, [I i]⟩ := fun ext2 => by
                refine getAppB ?_ ext2
                rw [← hG, List.getElem?_append_right (by omega)] at hb1
                rw [List.getElem?_append_right (by omega), hl3, ← hl]; exact hb1
              have hx2 : ∀ ext2, (H.set p (labB l2 false S m s) ++ ext ++ ext2)[p]? = some (labB l2 false S m s) := fun ext2 => by
                rw [List.append_assoc]; exact hgp _ _
              have haX := (ha.set (labB l2 false S m s)).app ext
              have hsetX : ∀ l4 sp4 ext2, (H.set p (labB l2 false S m s) ++ ext ++ ext2).set p (labB l4 sp4 S m s) = H.set p (labB l4 sp4 S m s) ++ (ext ++ ext2) := fun l4 sp4 ext2 => by rw [List.append_assoc, List.set_append_left _ _ (by omega), List.set_set]
              have hXp : p < (H.set p (labB l2 false S m s) ++ ext).length := by rw [List.length_append, hl3]; omega
              clear hq1 hq2 hq3 hq4 hq5 hq6 hb0 hb1 hpG haG hset hcc
              generalize H.set p (labB l2 false S m s) ++ ext = X at *
              have y0 := fun o ext2 => pc_ld (off := o) (hx0 ext2)
              have y1 := fun o ext2 => pc_ld (off := o) (hx1 ext2)
              have y2 := fun o ext2 => pc_ld (off := o) (hx2 ext2)
              have z0 := fun o ext2 => pc_alive (off := o) (hx0 ext2)
              have z1 := fun o ext2 => pc_alive (off := o) (hx1 ext2)
              have z2 := fun o ext2 => pc_alive (off := o) (hx2 ext2)
              have u0 := fun o => pc_ld (off := o) (show X[H.length]? = _ from by have := hx0 []; rwa [List.append_nil] at this)
              have u1 := fun o => pc_ld (off := o) (show X[j]? = _ from by have := hx1 []; rwa [List.append_nil] at this)
              have u2 := fun o => pc_ld (off := o) (show X[p]? = _ from by have := hx2 []; rwa [List.append_nil] at this)
              have v0 := fun o => pc_alive (off := o) (show X[H.length]? = _ from by have := hx0 []; rwa [List.append_nil] at this)
              have v1 := fun o => pc_alive (off := o) (show X[j]? = _ from by have := hx1 []; rwa [List.append_nil] at this)
              have v2 := fun o => pc_alive (off := o) (show X[p]? = _ from by have := hx2 []; rwa [List.append_nil] at this)
              have leaf : ∀ (q ver : Nat) (ext2 : List Blk) (K : AV → List Blk → Prop), (X ++ ext2)[q]? = some ⟨ver, tyLL, 1, (B ++ [x]).map ilS⟩ → q ≠ p →
                  (∀ (c l3 : Nat) (sp3 : Bool), l3 ≤ l2 → c + l3 ≤ l2 + (if r = 0 then 1 else 0) → (sp3 = true → cl s (B ++ [x]) (S.drop (i + 1)) r l2 = none) → (sp3 = false → cl s (B ++ [x]) (S.drop (i + 1)) r l2 = some (c, l3)) → K (I c) (H.set p (labB l3 sp3 S m s) ++ (ext ++ ext2))) →
                  ACalls Tryz.prog f_impl_labeler_count [.pc p 0 0, .nm q ver 0 (B.length + 1), I ((i + 1 : Nat) : Int)] (X ++ ext2) K := by
                intro q ver ext2 K hq hqp hK
                refine (ih (X ++ ext2) p (.nm q ver 0 (B.length + 1)) (B ++ [x]) (i + 1) l2 (.inr ⟨q, ver, by simp, hqp, hq⟩) (by simp; omega) (fun b hb => ?_) (by omega) (by omega) (hx2 ext2)).mono ?_
                · rcases List.mem_append.1 hb with hb | hb
                  · exact hBl b hb
                  · rw [List.mem_singleton.1 hb]; exact hxl
                · rintro r2 H3 ⟨c, l3, sp3, rfl, rfl, g1, g2, g3, g4⟩
                  rw [hsetX]
                  exact hK c l3 sp3 g1 g2 g3 g4
              have cl0 := cloneSS_ok X a B haX (by omega)
              have cl1 := fun ext2 => cloneSS_ok (X ++ ext2) a B (haX.app ext2) (by omega)
              simp (config := { maxSteps := 1000000 }) (disch := (first | omega | (simp only [go_sem]; try omega))) only [go_sem, Nat.reduceAdd, Nat.reduceEqDiff, Nat.reduceLeDiff, Nat.reduceMul, Nat.reduceLT, reduceIte, Int.reduceToNat, w64_id, cast_succ, y0, y1, y2, z0, z1, z2, u0, u1, u2, v0, v1, v2]
              repeat' (with_reducible refine And.intro ?_ ?_)
              all_goals (first | refine FcallW.rows cl0 ?_ | refine FcallW.rows (cl1 _) ?_)
              all_goals intro ver
              all_goals (simp (config := { maxSteps := 1000000 }) (disch := (first | omega | (simp only [go_sem]; try omega))) only [go_sem, Nat.reduceAdd, Nat.reduceEqDiff, Nat.reduceLeDiff, Nat.reduceMul, Nat.reduceLT, reduceIte, Int.reduceToNat, w64_id, cast_succ, y0, y1, y2, z0, z1, z2, u0, u1, u2, v0, v1, v2])
              all_goals (try rw [hx])
              all_goals (repeat' (with_reducible refine And.intro ?_ ?_))
              all_goals (first | refine leaf X.length _ _ _ (by rw [List.getElem?_append_right (Nat.le_refl _), Nat.sub_self]; rfl) (by omega) ?_ | refine leaf (X.length + 1) _ _ _ (by rw [List.getElem?_append_right (by omega), Nat.add_sub_cancel_left]; rfl) (by omega) ?_)
              all_goals (intro c l3 sp3 w1 w2 w3 w4)
              all_goals (have hcb : c ≤ 20001 := by (split at w2 <;> omega))
              all_goals simp (config := { maxSteps := 1000000 }) (disch := (first | omega | (simp only [go_sem]; try omega))) only [go_sem, Nat.reduceAdd, Nat.reduceEqDiff, Nat.reduceLeDiff, Nat.reduceMul, Nat.reduceLT, reduceIte, Int.reduceToNat, w64_id, cast_succ]
              all_goals exact ⟨c, l3, sp3, _, by simp [go_sem], rfl, w1, w2, w3, w4⟩
            rintro E2 H2 ⟨c, l3, sp3, ext2, hk, rfl, w1, w2, w3, w4⟩
            have hl3 : (H.set p (labB l3 sp3 S m s)).length = H.length := List.length_set
            have hw0 : (H.set p (labB l3 sp3 S m s) ++ (ext ++ ext2))[H.length]? = some ⟨0, ty1, 1, [.pc p 0 0]⟩ := by
              rw [← List.append_assoc]
              refine getAppB ?_ ext2
              rw [← hG, List.getElem?_append_right (by omega), hl] at hb0
              rw [List.getElem?_append_right (by omega), hl3]; exact hb0
            have hw1 : (H.set p (labB l3 sp3 S m s) ++ (ext ++ ext2))[j]? = some ⟨0, ty2, 1, [I i]⟩ := by
              rw [← List.append_assoc]
              refine getAppB ?_ ext2
              rw [← hG, List.getElem?_append_right (by omega), hl] at hb1
              rw [List.getElem?_append_right (by omega), hl3]; exact hb1
            have u1 := fun o => pc_ld (off := o) hw1
            have v1 := fun o => pc_alive (off := o) hw1
            rw [hk]
            have hn := ho2 rfl
            rw [cl_yes hf (by omega), Nat.add_sub_cancel] at hn
            generalize hY : H.set p (labB l3 sp3 S m s) ++ (ext ++ ext2) = Y at *
            have hYj : j < Y.length := (List.getElem?_eq_some_iff.1 hw1).1
            have hr1 : c + l3 ≤ l2 + 1 := by split at w2 <;> omega
            repeat (first | (with_reducible first | refine SW.seq ?_ | refine SW.block ?_ | refine SW.rowC ?_ | refine SW.skip ?_ | refine SW.exit ?_ | intro _ | refine And.intro (by omega) ?_) | simp (config := { maxSteps := 1000000 }) (disch := (first | omega | (simp only [go_sem]; try omega))) only [go_sem, Nat.reduceAdd, Nat.reduceEqDiff, Nat.reduceLeDiff, Nat.reduceMul, Nat.reduceLT, reduceIte, Int.reduceToNat, w64_id, cast_succ, u1, v1])
            refine SLoop.next (S.length - (i + 1)) (by omega) ⟨i + 1, sum + c, l3, ty1, _, Y.length, sp3, ext ++ ext2 ++ [_], by omega, by omega, rfl, by simp [go_sem], by rw [← hY]; simp only [List.append_assoc]; rfl, getAppB hw0 _, by omega, by rw [List.getElem?_append_right (Nat.le_refl _), Nat.sub_self]; rfl, by omega, by omega, fun h => ?_, fun h => ?_⟩
            · rw [hn, w3 h]
            · rw [hn, w4 h]
              dsimp only
              cases cl s B (S.drop (i + 1)) (r + 1) l3 with
              | none => rfl
              | some q => simp [Nat.add_assoc]
        · repeat (first | (with_reducible first | refine SW.seq ?_ | refine SW.block ?_ | refine SW.rowC ?_ | refine SW.skip ?_ | refine SW.exit ?_ | intro _ | refine And.intro (by omega) ?_) | simp (config := { maxSteps := 1000000 }) (disch := (first | omega | (simp only [go_sem]; try omega))) only [go_sem, Nat.reduceAdd, Nat.reduceEqDiff, Nat.reduceLeDiff, Nat.reduceMul, Nat.reduceLT, reduceIte, Int.reduceToNat, w64_id, cast_succ, hq1, hq2, hq3, hq4, hq5, hq6])
          refine SW.condT rfl ?_
          rw [← hG]
          repeat (first | (with_reducible first | refine SW.seq ?_ | refine SW.block ?_ | refine SW.rowC ?_ | refine SW.skip ?_ | refine SW.exit ?_ | intro _ | refine And.intro (by omega) ?_) | simp (config := { maxSteps := 1000000 }) (disch := (first | omega | (simp only [go_sem]; try omega))) only [go_sem, Nat.reduceAdd, Nat.reduceEqDiff, Nat.reduceLeDiff, Nat.reduceMul, Nat.reduceLT, reduceIte, Int.reduceToNat, w64_id, cast_succ])
          refine SW.ret ?_; (try simp only [go_sem]); (first | refine FunPost.one ?_ | refine FunPost.two ?_ | refine FunPost.three ?_); (try simp (config := { maxSteps := 1000000 }) (disch := (first | omega | (simp only [go_sem]; try omega))) only [go_sem, Nat.reduceAdd, Nat.reduceEqDiff, Nat.reduceLeDiff, Nat.reduceMul, Nat.reduceLT, reduceIte, Int.reduceToNat, w64_id, cast_succ])
          exact GR.frozH (H0 := H) (H1 := H.set p (labB left' true S m s)) (by simp) (hBG _ _) (froz_I' (0 : Int)) ⟨0, left', true, rfl, rfl, hl1, by omega, fun _ => ho1 rfl, by simp⟩
    · have : i = S.length := by omega
      subst this
      rw [List.drop_length] at ho2
      repeat (first | (with_reducible first | refine SW.seq ?_ | refine SW.block ?_ | refine SW.rowC ?_ | refine SW.skip ?_ | refine SW.exit ?_ | intro _ | refine And.intro (by omega) ?_) | simp (config := { maxSteps := 1000000 }) (disch := (first | omega | (simp only [go_sem]; try omega))) only [go_sem, Nat.reduceAdd, Nat.reduceEqDiff, Nat.reduceLeDiff, Nat.reduceMul, Nat.reduceLT, reduceIte, Int.reduceToNat, w64_id, cast_succ])
      rw [← hG]
      refine SW.ret ?_; (try simp only [go_sem]); (first | refine FunPost.one ?_ | refine FunPost.two ?_ | refine FunPost.three ?_); (try simp (config := { maxSteps := 1000000 }) (disch := (first | omega | (simp only [go_sem]; try omega))) only [go_sem, Nat.reduceAdd, Nat.reduceEqDiff, Nat.reduceLeDiff, Nat.reduceMul, Nat.reduceLT, reduceIte, Int.reduceToNat, w64_id, cast_succ])
      exact GR.frozH (H0 := H) (H1 := H.set p (labB left' spent S m s)) (by simp) (hBG _ _) (froz_I' _) ⟨sum, left', spent, rfl, rfl, hl1, by simp; omega, ho1, fun h => by rw [ho2 h, cl_nil]; rfl⟩
end Go.Proofs.YthogadbnddmkdaaGreat
