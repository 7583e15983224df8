/- Exact covers: all, their number, the first: the program. -/
import Derived.Test.YtnlfokkljgbaaaaProg
import Derived.KernelRfl
import Derived.Test.YtnlfokkljgbaaaazCM
import Derived.Test.YtnlfokkljgbaaaazCF
set_option linter.unusedSimpArgs false
set_option linter.unusedVariables false
set_option maxHeartbeats 4000000
set_option maxRecDepth 100000
namespace Go.Proofs.Ytnlfokkljgbaaaa
open Go.Av
abbrev f_impl_AllCovers : Nat := 10
def c_impl_AllCovers : SC :=
 .seq (.reg [
     ⟨(some 2), .box 34 (.tmp 0), none⟩,
     ⟨(some 4), .mv (.const (.slice none 0 0)), none⟩,
     ⟨(some 5), .mv (.const (.int .i64 0)), none⟩] [1, 2])
 (.seq (.reg [
     ⟨(some 9), .load 2 true (.tmp 2), none⟩,
     ⟨(some 10), .mv (.tmp 1), none⟩,
     ⟨(some 11), .call 27 [(.tmp 9), (.tmp 10), (.const (.bool false))], none⟩,
     ⟨(some 8), .mv (.tmp 11), none⟩,
     ⟨(some 12), .ext (.tmp 8) 0, none⟩,
     ⟨(some 13), .ext (.tmp 8) 1, none⟩,
     ⟨(some 6), .mv (.tmp 12), none⟩,
     ⟨(some 7), .mv (.tmp 13), none⟩] [6, 7])
 (.seq (.seq (.reg [
     ⟨(some 14), .mv (.tmp 7), none⟩,
     ⟨(some 15), .bin .neq (.tmp 14) (.const (.int .i64 0)), none⟩] [6, 7, 15])
 (.cond (.tmp 15)
  (.seq (.reg [
      ⟨(some 16), .mv (.tmp 7), none⟩,
      ⟨(some 4), .mv (.const (.slice none 0 0)), none⟩,
      ⟨(some 5), .mv (.tmp 16), none⟩] [4, 5])
  (.ret))
  (.skip)))
 (.seq (.reg [
     ⟨(some 17), .mv (.tmp 6), none⟩,
     ⟨(some 18), .nilc (.tmp 17), none⟩,
     ⟨(some 19), .faddr 9 (.tmp 18), none⟩,
     ⟨(some 20), .load 1 false (.tmp 19), none⟩,
     ⟨(some 4), .mv (.tmp 20), none⟩,
     ⟨(some 5), .mv (.const (.int .i64 0)), none⟩] [4, 5])
 (.ret))))
theorem s_impl_AllCovers : stripF Try.prog 10 [[1, 2], [6, 7], [6, 7, 15], [4, 5], [4, 5]] = some (c_impl_AllCovers, [.tmp 4, .tmp 5], 21) := by kernel_rfl
abbrev f_impl_CountCovers : Nat := 11
def c_impl_CountCovers : SC :=
 .seq (.reg [
     ⟨(some 2), .box 34 (.tmp 0), none⟩,
     ⟨(some 4), .mv (.const (.int .i64 0)), none⟩,
     ⟨(some 5), .mv (.const (.int .i64 0)), none⟩] [1, 2])
 (.seq (.reg [
     ⟨(some 9), .load 2 true (.tmp 2), none⟩,
     ⟨(some 10), .mv (.tmp 1), none⟩,
     ⟨(some 11), .call 10 [(.tmp 9), (.tmp 10)], none⟩,
     ⟨(some 8), .mv (.tmp 11), none⟩,
     ⟨(some 12), .ext (.tmp 8) 0, none⟩,
     ⟨(some 13), .ext (.tmp 8) 1, none⟩,
     ⟨(some 6), .mv (.tmp 12), none⟩,
     ⟨(some 7), .mv (.tmp 13), none⟩] [6, 7])
 (.seq (.reg [
     ⟨(some 14), .mv (.tmp 6), none⟩,
     ⟨(some 15), .call 28 [(.tmp 14)], none⟩,
     ⟨(some 16), .mv (.tmp 7), none⟩,
     ⟨(some 4), .mv (.tmp 15), none⟩,
     ⟨(some 5), .mv (.tmp 16), none⟩] [4, 5])
 (.ret)))
theorem s_impl_CountCovers : stripF Try.prog 11 [[1, 2], [6, 7], [4, 5]] = some (c_impl_CountCovers, [.tmp 4, .tmp 5], 17) := by kernel_rfl
abbrev f_impl_FirstCover : Nat := 13
def c_impl_FirstCover : SC :=
 .seq (.reg [
     ⟨(some 2), .box 34 (.tmp 0), none⟩,
     ⟨(some 4), .mv (.const (.slice none 0 0)), none⟩,
     ⟨(some 5), .mv (.const (.int .i64 0)), none⟩] [1, 2])
 (.seq (.reg [
     ⟨(some 9), .load 2 true (.tmp 2), none⟩,
     ⟨(some 10), .mv (.tmp 1), none⟩,
     ⟨(some 11), .call 27 [(.tmp 9), (.tmp 10), (.const (.bool true))], none⟩,
     ⟨(some 8), .mv (.tmp 11), none⟩,
     ⟨(some 12), .ext (.tmp 8) 0, none⟩,
     ⟨(some 13), .ext (.tmp 8) 1, none⟩,
     ⟨(some 6), .mv (.tmp 12), none⟩,
     ⟨(some 7), .mv (.tmp 13), none⟩] [6, 7])
 (.seq (.seq (.reg [
     ⟨(some 14), .mv (.tmp 7), none⟩,
     ⟨(some 15), .bin .neq (.tmp 14) (.const (.int .i64 0)), none⟩] [6, 7, 15])
 (.cond (.tmp 15)
  (.seq (.reg [
      ⟨(some 16), .mv (.tmp 7), none⟩,
      ⟨(some 4), .mv (.const (.slice none 0 0)), none⟩,
      ⟨(some 5), .mv (.tmp 16), none⟩] [4, 5])
  (.ret))
  (.skip)))
 (.seq (.seq (.reg [
     ⟨(some 17), .mv (.tmp 6), none⟩,
     ⟨(some 18), .nilc (.tmp 17), none⟩,
     ⟨(some 19), .faddr 9 (.tmp 18), none⟩,
     ⟨(some 20), .load 1 false (.tmp 19), none⟩,
     ⟨(some 21), .len (.tmp 20), none⟩,
     ⟨(some 22), .bin .eql (.tmp 21) (.const (.int .i64 0)), none⟩] [6, 22])
 (.cond (.tmp 22)
  (.seq (.reg [
      ⟨(some 4), .mv (.const (.slice none 0 0)), none⟩,
      ⟨(some 5), .mv (.const (.int .i64 3)), none⟩] [4, 5])
  (.ret))
  (.skip)))
 (.seq (.reg [
     ⟨(some 23), .mv (.tmp 6), none⟩,
     ⟨(some 24), .nilc (.tmp 23), none⟩,
     ⟨(some 25), .faddr 9 (.tmp 24), none⟩,
     ⟨(some 26), .load 1 false (.tmp 25), none⟩,
     ⟨(some 27), .iaddr 1 (.tmp 26) (.const (.int .i64 0)), none⟩,
     ⟨(some 28), .load 1 false (.tmp 27), none⟩,
     ⟨(some 4), .mv (.tmp 28), none⟩,
     ⟨(some 5), .mv (.const (.int .i64 0)), none⟩] [4, 5])
 (.ret)))))
theorem s_impl_FirstCover : stripF Try.prog 13 [[1, 2], [6, 7], [6, 7, 15], [4, 5], [6, 22], [4, 5], [4, 5]] = some (c_impl_FirstCover, [.tmp 4, .tmp 5], 29) := by kernel_rfl
def acE (O : List (List Int)) (n : Nat) : Bool := (cvS O n false 1000).spent
theorem acE_found {O : List (List Int)} {n : Nat} (h : acE O n = false) : (cvS O n false 1000).found = solsAll O n := by
  have := vst_sols (O := O) (n := n) (n + 1) [] ⟨1000, false, []⟩ h
  rw [List.nil_append] at this
  exact this
theorem ColG.frozC {H : List Blk} {base b : Nat} {v fv : AV} {cols : List Int} {found : List (List Int)} (h : ColG H base v cols fv found) (hb : b ≤ base) : Froz H b fv (ilSS found) := by
  rcases h with ⟨_, _, rfl, rfl⟩ | ⟨t, ver, cells, _, h2, _, _, _, hg⟩
  · exact .nil
  · exact (hg.own (Nat.le_refl _)).froz (fun r hr => by have := hr.1; omega)
theorem AllCovers_fn (n : Nat) (O : List (List Int)) (hx : ∀ xs ∈ O, ∀ x ∈ xs, (Lit.int .i64 x).wf = true) (hc : coverOk (n : Int) O = true) :
    PFn Try.prog f_impl_AllCovers [.agg [I n, ilSS O], I 1000] (.tup [ilSS (if acE O n = true then [] else solsAll O n), I (if acE O n = true then 5 else 0)]) := by
  intro H
  refine ACalls.introB s_impl_AllCovers (by simp) ?_; intro hB hA; unfold c_impl_AllCovers; simp (config := { maxSteps := 1000000 }) (disch := (first | omega | (simp only [go_sem]; try omega))) only [go_sem, Nat.reduceAdd, Nat.reduceEqDiff, Nat.reduceLeDiff, Nat.reduceMul, Nat.reduceLT, reduceIte, Int.reduceToNat, w64_id, cast_succ]
  repeat (first | (with_reducible first | refine SW.seq ?_ | refine SW.block ?_ | refine SW.rowC ?_ | refine SW.skip ?_ | refine SW.exit ?_ | intro _ | refine And.intro (by omega) ?_) | simp (config := { maxSteps := 1000000 }) (disch := (first | omega | (simp only [go_sem]; try omega))) only [go_sem, Nat.reduceAdd, Nat.reduceEqDiff, Nat.reduceLeDiff, Nat.reduceMul, Nat.reduceLT, reduceIte, Int.reduceToNat, w64_id, cast_succ])
  refine (searched_ok n O 1000 false hx hc (by omega) _).mono ?_
  intro r H1 hr
  cases hs : acE O n
  · rw [if_neg (show ¬ (cvS O n false 1000).spent = true by unfold acE at hs; rw [hs]; simp)] at hr
    obtain ⟨ext, q, p, W, v, fv, rfl, rfl, hp, h1, hcg⟩ := hr
    rw [acE_found hs] at hcg
    rw [List.append_assoc] at h1 hcg
    simp only [List.cons_append, List.nil_append] at h1 hcg
    have ha := fun o => pc_alive (off := o) h1.box
    have hl := fun o => pc_ld (off := o) h1.box
    have hf := hcg.frozC (b := H.length) (by simp at hp; omega)
    repeat (first | (with_reducible first | refine SW.seq ?_ | refine SW.block ?_ | refine SW.rowC ?_ | refine SW.skip ?_ | refine SW.exit ?_ | intro _ | refine And.intro (by omega) ?_) | simp (config := { maxSteps := 1000000 }) (disch := (first | omega | (simp only [go_sem]; try omega))) only [go_sem, Nat.reduceAdd, Nat.reduceEqDiff, Nat.reduceLeDiff, Nat.reduceMul, Nat.reduceLT, reduceIte, Int.reduceToNat, w64_id, cast_succ, ha, hl])
    refine SW.condF rfl ?_
    repeat (first | (with_reducible first | refine SW.seq ?_ | refine SW.block ?_ | refine SW.rowC ?_ | refine SW.skip ?_ | refine SW.exit ?_ | intro _ | refine And.intro (by omega) ?_) | simp (config := { maxSteps := 1000000 }) (disch := (first | omega | (simp only [go_sem]; try omega))) only [go_sem, Nat.reduceAdd, Nat.reduceEqDiff, Nat.reduceLeDiff, Nat.reduceMul, Nat.reduceLT, reduceIte, Int.reduceToNat, w64_id, cast_succ, ha, hl])
    refine SW.ret ?_; (try simp only [go_sem]); (first | refine FunPost.one ?_ | refine FunPost.two ?_ | refine FunPost.three ?_); (try simp (config := { maxSteps := 1000000 }) (disch := (first | omega | (simp only [go_sem]; try omega))) only [go_sem, Nat.reduceAdd, Nat.reduceEqDiff, Nat.reduceLeDiff, Nat.reduceMul, Nat.reduceLT, reduceIte, Int.reduceToNat, w64_id, cast_succ])
    exact GR.froz (froz_tup2 hf (froz_I' _)) ⟨rfl, rfl⟩
  · rw [if_pos (show (cvS O n false 1000).spent = true from hs)] at hr
    obtain ⟨z, rfl, rfl⟩ := hr
    repeat (first | (with_reducible first | refine SW.seq ?_ | refine SW.block ?_ | refine SW.rowC ?_ | refine SW.skip ?_ | refine SW.exit ?_ | intro _ | refine And.intro (by omega) ?_) | simp (config := { maxSteps := 1000000 }) (disch := (first | omega | (simp only [go_sem]; try omega))) only [go_sem, Nat.reduceAdd, Nat.reduceEqDiff, Nat.reduceLeDiff, Nat.reduceMul, Nat.reduceLT, reduceIte, Int.reduceToNat, w64_id, cast_succ])
    refine SW.condT rfl ?_
    repeat (first | (with_reducible first | refine SW.seq ?_ | refine SW.block ?_ | refine SW.rowC ?_ | refine SW.skip ?_ | refine SW.exit ?_ | intro _ | refine And.intro (by omega) ?_) | simp (config := { maxSteps := 1000000 }) (disch := (first | omega | (simp only [go_sem]; try omega))) only [go_sem, Nat.reduceAdd, Nat.reduceEqDiff, Nat.reduceLeDiff, Nat.reduceMul, Nat.reduceLT, reduceIte, Int.reduceToNat, w64_id, cast_succ])
    refine SW.ret ?_; (try simp only [go_sem]); (first | refine FunPost.one ?_ | refine FunPost.two ?_ | refine FunPost.three ?_); (try simp (config := { maxSteps := 1000000 }) (disch := (first | omega | (simp only [go_sem]; try omega))) only [go_sem, Nat.reduceAdd, Nat.reduceEqDiff, Nat.reduceLeDiff, Nat.reduceMul, Nat.reduceLT, reduceIte, Int.reduceToNat, w64_id, cast_succ])
    exact GR.froz (froz_tup2 .nil (froz_I' _)) ⟨rfl, rfl⟩
theorem CountCovers_fn (n : Nat) (O : List (List Int)) (hx : ∀ xs ∈ O, ∀ x ∈ xs, (Lit.int .i64 x).wf = true) (hc : coverOk (n : Int) O = true) :
    PFn Try.prog f_impl_CountCovers [.agg [I n, ilSS O], I 1000] (.tup [I (if acE O n = true then ([] : List (List Int)) else solsAll O n).length, I (if acE O n = true then 5 else 0)]) := by
  have h1 := AllCovers_fn n O hx hc
  generalize hL : (if acE O n = true then [] else solsAll O n) = L at *
  generalize (if acE O n = true then (5 : Int) else 0) = z at *
  intro H
  refine ACalls.introB s_impl_CountCovers (by simp) ?_; intro hB hA; unfold c_impl_CountCovers; simp (config := { maxSteps := 1000000 }) (disch := (first | omega | (simp only [go_sem]; try omega))) only [go_sem, Nat.reduceAdd, Nat.reduceEqDiff, Nat.reduceLeDiff, Nat.reduceMul, Nat.reduceLT, reduceIte, Int.reduceToNat, w64_id, cast_succ]
  repeat (first | (with_reducible first | refine SW.seq ?_ | refine SW.block ?_ | refine SW.rowC ?_ | refine SW.skip ?_ | refine SW.exit ?_ | refine PFn.use (h1) ?_ | refine PFn.useq (h1) ?_ | refine PFn.use (sizeS_fn L) ?_ | refine PFn.useq (sizeS_fn L) ?_ | intro _ | refine And.intro (by omega) ?_) | simp (config := { maxSteps := 1000000 }) (disch := (first | omega | (simp only [go_sem]; try omega))) only [go_sem, Nat.reduceAdd, Nat.reduceEqDiff, Nat.reduceLeDiff, Nat.reduceMul, Nat.reduceLT, reduceIte, Int.reduceToNat, w64_id, cast_succ])
  refine SW.ret ?_; (try simp only [go_sem]); (first | refine FunPost.one ?_ | refine FunPost.two ?_ | refine FunPost.three ?_); (try simp (config := { maxSteps := 1000000 }) (disch := (first | omega | (simp only [go_sem]; try omega))) only [go_sem, Nat.reduceAdd, Nat.reduceEqDiff, Nat.reduceLeDiff, Nat.reduceMul, Nat.reduceLT, reduceIte, Int.reduceToNat, w64_id, cast_succ])
  exact GR.froz (froz_tup2 (froz_I' _) (froz_I' _)) ⟨rfl, rfl⟩
theorem sols_few {O : List (List Int)} {n : Nat} (h : acE O n = false) : (solsAll O n).length ≤ 1000 := by
  have h2 := vst_found (O := O) (n := n) (one := false) (n + 1) [] ⟨1000, false, []⟩
  change (cvS O n false 1000).found.length + (cvS O n false 1000).left ≤ 0 + 1000 at h2
  rw [acE_found h] at h2
  omega
theorem vst_less {O : List (List Int)} {n : Nat} {one : Bool} (d : Nat) (ch : List Int) (st : VS) (h0 : st.spent = false) (h1 : st.found = []) (h2 : (vst O n one (d + 1) ch st).spent = false) : (vst O n one (d + 1) ch st).left < st.left := by
  unfold vst at h2 ⊢
  rw [if_neg (show ¬ (st.spent = true ∨ one = true ∧ st.found ≠ []) by rw [h0, h1]; simp)] at h2 ⊢
  by_cases h3 : st.left = 0
  · rw [if_pos h3] at h2; cases h2
  rw [if_neg h3] at h2 ⊢
  by_cases h4 : (marks n (itemsOf O ch)).contains false = false
  · rw [if_pos h4]; show st.left - 1 < st.left; omega
  rw [if_neg h4]
  have go : ∀ (l : List Int) (s : VS), (l.foldl (fun st k => vst O n one d (ch ++ [k]) st) s).left ≤ s.left := by
    intro l
    induction l with
    | nil => intro s; exact Nat.le_refl _
    | cons k l ih => intro s; rw [List.foldl_cons]; exact Nat.le_trans (ih _) (vst_left _ _ _)
  have := go (chs O (itemsOf O ch) n) { st with left := st.left - 1 }
  change _ ≤ st.left - 1 at this
  omega
theorem nodes_pos {O : List (List Int)} {n : Nat} (h : acE O n = false) : 1 ≤ 1000 - (cvS O n false 1000).left := by
  have := vst_less (O := O) (n := n) (one := false) n [] ⟨1000, false, []⟩ rfl rfl h
  change (cvS O n false 1000).left < 1000 at this
  omega
theorem first_is {O : List (List Int)} {n : Nat} (h : acE O n = false) : (cvS O n true 1000).spent = false ∧ (cvS O n true 1000).found.head? = (solsAll O n).head? ∧ ((cvS O n true 1000).found = [] ↔ solsAll O n = []) := by
  have hr := vst_first (O := O) (n := n) (n + 1) [] ⟨1000, false, []⟩ ⟨1000, false, []⟩ (.inl ⟨rfl, rfl⟩) h
  change relF (cvS O n true 1000) (cvS O n false 1000) at hr
  have hf := acE_found h
  rcases hr with ⟨h1, h2⟩ | ⟨x, h1, h2, h3⟩
  · rw [h2] at h1
    rw [hf] at h1
    rw [h2]
    exact ⟨h, by rw [hf], by rw [hf]⟩
  · rw [hf] at h3
    refine ⟨h2, by rw [h1, h3]; rfl, ?_⟩
    rw [h1]
    constructor
    · intro h; cases h
    · intro h; rw [h] at h3; cases h3
def fcV (O : List (List Int)) (n : Nat) : List Int × Int := match solsAll O n with
  | [] => ([], 3)
  | x :: _ => (x, 0)
theorem FirstCover_fn (n : Nat) (O : List (List Int)) (hx : ∀ xs ∈ O, ∀ x ∈ xs, (Lit.int .i64 x).wf = true) (hc : coverOk (n : Int) O = true) (hs : acE O n = false) :
    PFn Try.prog f_impl_FirstCover [.agg [I n, ilSS O], I 1000] (.tup [ilS (fcV O n).1, I (fcV O n).2]) := by
  obtain ⟨f1, f2, f3⟩ := first_is hs
  have fl : (cvS O n true 1000).found.length + (cvS O n true 1000).left ≤ 0 + 1000 := vst_found (O := O) (n := n) (one := true) (n + 1) [] ⟨1000, false, []⟩
  intro H
  refine ACalls.introB s_impl_FirstCover (by simp) ?_; intro hB hA; unfold c_impl_FirstCover; simp (config := { maxSteps := 1000000 }) (disch := (first | omega | (simp only [go_sem]; try omega))) only [go_sem, Nat.reduceAdd, Nat.reduceEqDiff, Nat.reduceLeDiff, Nat.reduceMul, Nat.reduceLT, reduceIte, Int.reduceToNat, w64_id, cast_succ]
  repeat (first | (with_reducible first | refine SW.seq ?_ | refine SW.block ?_ | refine SW.rowC ?_ | refine SW.skip ?_ | refine SW.exit ?_ | intro _ | refine And.intro (by omega) ?_) | simp (config := { maxSteps := 1000000 }) (disch := (first | omega | (simp only [go_sem]; try omega))) only [go_sem, Nat.reduceAdd, Nat.reduceEqDiff, Nat.reduceLeDiff, Nat.reduceMul, Nat.reduceLT, reduceIte, Int.reduceToNat, w64_id, cast_succ])
  refine (searched_ok n O 1000 true hx hc (by omega) _).mono ?_
  intro r H1 hr
  rw [if_neg (show ¬ (cvS O n true 1000).spent = true by rw [f1]; simp)] at hr
  obtain ⟨ext, q, p, W, v, fv, rfl, rfl, hp, h1, hcg⟩ := hr
  generalize (cvS O n true 1000).found = F at *
  rw [List.append_assoc] at h1 hcg
  simp only [List.cons_append, List.nil_append] at h1 hcg
  have ha := fun o => pc_alive (off := o) h1.box
  have hl := fun o => pc_ld (off := o) h1.box
  rcases hcg with ⟨_, _, rfl, rfl⟩ | ⟨t, ver, cells, _, h2, _, _, _, hg⟩
  · have h0 := f3.1 rfl
    unfold fcV
    rw [h0]
    repeat (first | (with_reducible first | refine SW.seq ?_ | refine SW.block ?_ | refine SW.rowC ?_ | refine SW.skip ?_ | refine SW.exit ?_ | intro _ | refine And.intro (by omega) ?_) | simp (config := { maxSteps := 1000000 }) (disch := (first | omega | (simp only [go_sem]; try omega))) only [go_sem, Nat.reduceAdd, Nat.reduceEqDiff, Nat.reduceLeDiff, Nat.reduceMul, Nat.reduceLT, reduceIte, Int.reduceToNat, w64_id, cast_succ, ha, hl])
    refine SW.condF rfl ?_
    repeat (first | (with_reducible first | refine SW.seq ?_ | refine SW.block ?_ | refine SW.rowC ?_ | refine SW.skip ?_ | refine SW.exit ?_ | intro _ | refine And.intro (by omega) ?_) | simp (config := { maxSteps := 1000000 }) (disch := (first | omega | (simp only [go_sem]; try omega))) only [go_sem, Nat.reduceAdd, Nat.reduceEqDiff, Nat.reduceLeDiff, Nat.reduceMul, Nat.reduceLT, reduceIte, Int.reduceToNat, w64_id, cast_succ, ha, hl])
    refine SW.condT rfl ?_
    repeat (first | (with_reducible first | refine SW.seq ?_ | refine SW.block ?_ | refine SW.rowC ?_ | refine SW.skip ?_ | refine SW.exit ?_ | intro _ | refine And.intro (by omega) ?_) | simp (config := { maxSteps := 1000000 }) (disch := (first | omega | (simp only [go_sem]; try omega))) only [go_sem, Nat.reduceAdd, Nat.reduceEqDiff, Nat.reduceLeDiff, Nat.reduceMul, Nat.reduceLT, reduceIte, Int.reduceToNat, w64_id, cast_succ])
    refine SW.ret ?_; (try simp only [go_sem]); (first | refine FunPost.one ?_ | refine FunPost.two ?_ | refine FunPost.three ?_); (try simp (config := { maxSteps := 1000000 }) (disch := (first | omega | (simp only [go_sem]; try omega))) only [go_sem, Nat.reduceAdd, Nat.reduceEqDiff, Nat.reduceLeDiff, Nat.reduceMul, Nat.reduceLT, reduceIte, Int.reduceToNat, w64_id, cast_succ])
    exact GR.froz (froz_tup2 .nil (froz_I' _)) ⟨rfl, rfl⟩
  · have ho := hg.own (Nat.le_refl _)
    have hone : fv.cell1 = true ∧ partsOf fv = [fv] := by
      rcases ho with ⟨t', ver', ty', cs, rfl, _⟩ | ⟨_, rfl | rfl⟩ <;> exact ⟨rfl, rfl⟩
    obtain ⟨cs, hv, hcl, -⟩ := ho.rd
    cases F with
    | nil =>
      have h0 := f3.1 rfl
      unfold fcV
      rw [h0]
      rw [List.length_nil] at hv
      repeat (first | (with_reducible first | refine SW.seq ?_ | refine SW.block ?_ | refine SW.rowC ?_ | refine SW.skip ?_ | refine SW.exit ?_ | intro _ | refine And.intro (by omega) ?_) | simp (config := { maxSteps := 1000000 }) (disch := (first | omega | (simp only [go_sem]; try omega))) only [go_sem, Nat.reduceAdd, Nat.reduceEqDiff, Nat.reduceLeDiff, Nat.reduceMul, Nat.reduceLT, reduceIte, Int.reduceToNat, w64_id, cast_succ, ha, hl])
      refine SW.condF rfl ?_
      repeat (first | (with_reducible first | refine SW.seq ?_ | refine SW.block ?_ | refine SW.rowC ?_ | refine SW.skip ?_ | refine SW.exit ?_ | intro _ | refine And.intro (by omega) ?_) | simp (config := { maxSteps := 1000000 }) (disch := (first | omega | (simp only [go_sem]; try omega))) only [go_sem, Nat.reduceAdd, Nat.reduceEqDiff, Nat.reduceLeDiff, Nat.reduceMul, Nat.reduceLT, reduceIte, Int.reduceToNat, w64_id, cast_succ, ha, hl, hv, hone.1, hone.2])
      refine SW.condT rfl ?_
      repeat (first | (with_reducible first | refine SW.seq ?_ | refine SW.block ?_ | refine SW.rowC ?_ | refine SW.skip ?_ | refine SW.exit ?_ | intro _ | refine And.intro (by omega) ?_) | simp (config := { maxSteps := 1000000 }) (disch := (first | omega | (simp only [go_sem]; try omega))) only [go_sem, Nat.reduceAdd, Nat.reduceEqDiff, Nat.reduceLeDiff, Nat.reduceMul, Nat.reduceLT, reduceIte, Int.reduceToNat, w64_id, cast_succ])
      refine SW.ret ?_; (try simp only [go_sem]); (first | refine FunPost.one ?_ | refine FunPost.two ?_ | refine FunPost.three ?_); (try simp (config := { maxSteps := 1000000 }) (disch := (first | omega | (simp only [go_sem]; try omega))) only [go_sem, Nat.reduceAdd, Nat.reduceEqDiff, Nat.reduceLeDiff, Nat.reduceMul, Nat.reduceLT, reduceIte, Int.reduceToNat, w64_id, cast_succ])
      exact GR.froz (froz_tup2 .nil (froz_I' _)) ⟨rfl, rfl⟩
    | cons x F =>
      have hfc : fcV O n = (x, 0) := by
        unfold fcV
        cases hS : solsAll O n with
        | nil => rw [hS] at f2; cases f2
        | cons y S => rw [hS] at f2; cases f2; rfl
      rw [hfc]
      have d1 : decide (((F.length + 1 : Nat) : Int) = 0) = false := decide_eq_false (by omega)
      rw [List.length_cons] at hv hcl
      rcases ho with ⟨t', ver', ty', cells', rfl, o1, o2, o3, o4, o5⟩ | ⟨h, _⟩
      rotate_left
      · cases h
      have hv2 := view_nm o2 o3
      rw [List.length_cons] at hv2 o3
      obtain ⟨c, hc0⟩ : ∃ c, cells'[0]? = some c := ⟨_, List.getElem?_eq_getElem (by omega)⟩
      have hcr := o4 0 c x hc0 rfl
      have hcf := hcr.froz (base := H.length) (fun r hr => by have := hr.1; simp at hp; omega)
      repeat (first | (with_reducible first | refine SW.seq ?_ | refine SW.block ?_ | refine SW.rowC ?_ | refine SW.skip ?_ | refine SW.exit ?_ | intro _ | refine And.intro (by omega) ?_) | simp (config := { maxSteps := 1000000 }) (disch := (first | omega | (simp only [go_sem]; try omega))) only [go_sem, Nat.reduceAdd, Nat.reduceEqDiff, Nat.reduceLeDiff, Nat.reduceMul, Nat.reduceLT, reduceIte, Int.reduceToNat, w64_id, cast_succ, ha, hl])
      refine SW.condF rfl ?_
      repeat (first | (with_reducible first | refine SW.seq ?_ | refine SW.block ?_ | refine SW.rowC ?_ | refine SW.skip ?_ | refine SW.exit ?_ | intro _ | refine And.intro (by omega) ?_) | simp (config := { maxSteps := 1000000 }) (disch := (first | omega | (simp only [go_sem]; try omega))) only [go_sem, Nat.reduceAdd, Nat.reduceEqDiff, Nat.reduceLeDiff, Nat.reduceMul, Nat.reduceLT, reduceIte, Int.reduceToNat, w64_id, cast_succ, ha, hl, hv2, d1])
      refine SW.condF rfl ?_
      repeat (first | (with_reducible first | refine SW.seq ?_ | refine SW.block ?_ | refine SW.rowC ?_ | refine SW.skip ?_ | refine SW.exit ?_ | intro _ | refine And.intro (by omega) ?_) | simp (config := { maxSteps := 1000000 }) (disch := (first | omega | (simp only [go_sem]; try omega))) only [go_sem, Nat.reduceAdd, Nat.reduceEqDiff, Nat.reduceLeDiff, Nat.reduceMul, Nat.reduceLT, reduceIte, Int.reduceToNat, w64_id, cast_succ, ha, hl, hv2, hc0])
      refine SW.ret ?_; (try simp only [go_sem]); (first | refine FunPost.one ?_ | refine FunPost.two ?_ | refine FunPost.three ?_); (try simp (config := { maxSteps := 1000000 }) (disch := (first | omega | (simp only [go_sem]; try omega))) only [go_sem, Nat.reduceAdd, Nat.reduceEqDiff, Nat.reduceLeDiff, Nat.reduceMul, Nat.reduceLT, reduceIte, Int.reduceToNat, w64_id, cast_succ])
      exact GR.froz (froz_tup2 hcf (froz_I' _)) ⟨rfl, rfl⟩
end Go.Proofs.Ytnlfokkljgbaaaa
