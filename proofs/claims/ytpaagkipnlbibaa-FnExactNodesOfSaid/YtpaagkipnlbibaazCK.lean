/- Exact covers: the number of nodes, the reference; the law. -/
import Derived.Test.YtpaagkipnlbibaaProg
import Derived.KernelRfl
import Derived.Test.YtpaagkipnlbibaazCJ
import Derived.Test.YtpaagkipnlbibaazCF
set_option linter.unusedSimpArgs false
set_option linter.unusedVariables false
set_option maxHeartbeats 4000000
set_option maxRecDepth 100000
namespace Go.Proofs.Ytpaagkipnlbibaa
open Go.Av
abbrev f_laws_FnExactNodesOf : Nat := 6
def c_laws_FnExactNodesOf : SC :=
 .seq (.reg [
     ⟨(some 2), .box 41 (.tmp 0), none⟩,
     ⟨(some 4), .mv (.const (.bool false)), none⟩] [1, 2])
 (.seq (.reg [
     ⟨(some 5), .mv (.const (.int .i64 1048576)), none⟩] [1, 2, 5])
 (.seq (.reg [
     ⟨(some 11), .load 2 true (.tmp 2), none⟩,
     ⟨(some 12), .mv (.tmp 5), none⟩,
     ⟨(some 13), .call 20 [(.tmp 11), (.tmp 12)], none⟩,
     ⟨(some 5), .mv (.tmp 13), none⟩] [1, 2, 5])
 (.seq (.seq (.reg [
     ⟨(some 14), .mv (.tmp 5), none⟩,
     ⟨(some 15), .bin .lss (.tmp 14) (.const (.int .i64 0)), none⟩] [1, 2, 15])
 (.cond (.tmp 15)
  (.seq (.reg [
      ⟨(some 4), .mv (.const (.bool true)), none⟩] [4])
  (.ret))
  (.skip)))
 (.seq (.reg [
     ⟨(some 17), .load 2 true (.tmp 2), none⟩,
     ⟨(some 18), .call 22 [(.tmp 17)], none⟩,
     ⟨(some 19), .mv (.tmp 1), none⟩,
     ⟨(some 20), .call 21 [(.tmp 18), (.tmp 19)], none⟩,
     ⟨(some 16), .mv (.tmp 20), none⟩,
     ⟨(some 21), .ext (.tmp 16) 0, none⟩,
     ⟨(some 22), .ext (.tmp 16) 1, none⟩,
     ⟨(some 6), .mv (.tmp 21), none⟩,
     ⟨(some 7), .mv (.tmp 22), none⟩] [1, 2, 6, 7])
 (.seq (.reg [
     ⟨(some 23), .load 2 true (.tmp 2), none⟩,
     ⟨(some 24), .call 22 [(.tmp 23)], none⟩,
     ⟨(some 8), .alloc 45 [(.int .i64 0), (.slice none 0 0)], none⟩,
     ⟨none, .store 2 (.tmp 8) (.tmp 24), none⟩] [1, 2, 6, 7, 8])
 (.seq (.reg [
     ⟨(some 26), .load 2 true (.tmp 8), none⟩,
     ⟨(some 27), .mv (.tmp 1), none⟩,
     ⟨(some 28), .call 23 [(.tmp 26), (.tmp 27)], none⟩,
     ⟨(some 25), .mv (.tmp 28), none⟩,
     ⟨(some 29), .ext (.tmp 25) 0, none⟩,
     ⟨(some 30), .ext (.tmp 25) 1, none⟩,
     ⟨(some 9), .mv (.tmp 29), none⟩,
     ⟨(some 10), .mv (.tmp 30), none⟩] [2, 6, 7, 8, 9, 10])
 (.seq (.seq (.reg [
     ⟨(some 31), .mv (.tmp 9), none⟩,
     ⟨(some 32), .mv (.tmp 6), none⟩,
     ⟨(some 33), .bin .neq (.tmp 31) (.tmp 32), none⟩,
     ⟨(some 34), .mv (.tmp 33), none⟩,
     ⟨(some 35), .mv (.tmp 10), (some (34, false))⟩,
     ⟨(some 36), .mv (.tmp 7), (some (34, false))⟩,
     ⟨(some 37), .bin .neq (.tmp 35) (.tmp 36), (some (34, false))⟩,
     ⟨(some 38), .pick (.tmp 34) (.const (.bool true)) (.tmp 37), none⟩] [2, 8, 38])
 (.cond (.tmp 38)
  (.seq (.reg [
      ⟨(some 4), .mv (.const (.bool false)), none⟩] [4])
  (.ret))
  (.skip)))
 (.seq (.seq (.reg [
     ⟨(some 39), .load 2 true (.tmp 8), none⟩,
     ⟨(some 40), .load 2 true (.tmp 2), none⟩,
     ⟨(some 41), .qcall 22 [(.tmp 40)], none⟩,
     ⟨(some 42), .qcall 24 [(.tmp 39), (.tmp 41)], none⟩,
     ⟨(some 43), .un .not (.tmp 42), none⟩] [43])
 (.cond (.tmp 43)
  (.seq (.reg [
      ⟨(some 4), .mv (.const (.bool false)), none⟩] [4])
  (.ret))
  (.skip)))
 (.seq (.reg [
     ⟨(some 4), .mv (.const (.bool true)), none⟩] [4])
 (.ret))))))))))
theorem s_laws_FnExactNodesOf : stripF Try.prog 6 [[1, 2], [1, 2, 5], [1, 2, 5], [1, 2, 15], [4], [1, 2, 6, 7], [1, 2, 6, 7, 8], [2, 6, 7, 8, 9, 10], [2, 8, 38], [4], [43], [4], [4]] = some (c_laws_FnExactNodesOf, [.tmp 4], 44) := by kernel_rfl
abbrev f_spec_NodesOf : Nat := 21
def c_spec_NodesOf : SC :=
 .seq (.reg [
     ⟨(some 2), .box 45 (.tmp 0), none⟩,
     ⟨(some 4), .mv (.const (.int .i64 0)), none⟩,
     ⟨(some 5), .mv (.const (.int .i64 0)), none⟩] [1, 2])
 (.seq (.reg [
     ⟨(some 9), .mv (.tmp 1), none⟩,
     ⟨(some 10), .call 61 [(.tmp 2), (.tmp 9), (.const (.int .i64 0))], none⟩,
     ⟨(some 8), .mv (.tmp 10), none⟩,
     ⟨(some 11), .ext (.tmp 8) 0, none⟩,
     ⟨(some 12), .ext (.tmp 8) 1, none⟩,
     ⟨(some 6), .mv (.tmp 11), none⟩,
     ⟨(some 7), .mv (.tmp 12), none⟩] [6, 7])
 (.seq (.seq (.reg [
     ⟨(some 13), .mv (.tmp 7), none⟩,
     ⟨(some 14), .bin .neq (.tmp 13) (.const (.int .i64 0)), none⟩] [6, 7, 14])
 (.cond (.tmp 14)
  (.seq (.reg [
      ⟨(some 15), .mv (.tmp 7), none⟩,
      ⟨(some 4), .mv (.const (.int .i64 0)), none⟩,
      ⟨(some 5), .mv (.tmp 15), none⟩] [4, 5])
  (.ret))
  (.skip)))
 (.seq (.reg [
     ⟨(some 16), .mv (.tmp 6), none⟩,
     ⟨(some 17), .nilc (.tmp 16), none⟩,
     ⟨(some 18), .faddr 6 (.tmp 17), none⟩,
     ⟨(some 19), .load 1 false (.tmp 18), none⟩,
     ⟨(some 4), .mv (.tmp 19), none⟩,
     ⟨(some 5), .mv (.const (.int .i64 0)), none⟩] [4, 5])
 (.ret))))
theorem s_spec_NodesOf : stripF Try.prog 21 [[1, 2], [6, 7], [6, 7, 14], [4, 5], [4, 5]] = some (c_spec_NodesOf, [.tmp 4, .tmp 5], 20) := by kernel_rfl
abbrev f_spec_l24Run : Nat := 61
def c_spec_l24Run : SC :=
 .seq (.reg [
     ⟨(some 6), .mv (.const (.pointer none)), none⟩,
     ⟨(some 7), .mv (.const (.int .i64 0)), none⟩] [0, 1, 2])
 (.seq (.reg [
     ⟨(some 9), .mv (.tmp 0), none⟩,
     ⟨(some 10), .mv (.tmp 1), none⟩,
     ⟨(some 11), .mv (.tmp 2), none⟩,
     ⟨(some 12), .build [(.pointer none), (.slice none 0 0), (.slice none 0 0), (.slice none 0 0), (.slice none 0 0), (.int .i64 0), (.int .i64 0), (.int .i64 0), (.int .i64 0)] [(0, 1, (.tmp 9)), (7, 1, (.tmp 10)), (8, 1, (.tmp 11))], none⟩,
     ⟨(some 13), .box 96 (.tmp 12), none⟩,
     ⟨(some 8), .mv (.tmp 13), none⟩] [0, 1, 8])
 (.seq (.seq (.reg [
     ⟨(some 14), .mv (.tmp 0), none⟩,
     ⟨(some 15), .call 64 [(.tmp 14)], none⟩,
     ⟨(some 16), .un .not (.tmp 15), none⟩] [0, 1, 8, 16])
 (.cond (.tmp 16)
  (.seq (.reg [
      ⟨(some 17), .mv (.tmp 8), none⟩,
      ⟨(some 6), .mv (.tmp 17), none⟩,
      ⟨(some 7), .mv (.const (.int .i64 1)), none⟩] [6, 7])
  (.ret))
  (.skip)))
 (.seq (.seq (.reg [
     ⟨(some 18), .mv (.tmp 1), none⟩,
     ⟨(some 19), .call 44 [(.tmp 18), (.const (.int .i64 1)), (.const (.int .i64 20000))], none⟩,
     ⟨(some 20), .un .not (.tmp 19), none⟩] [0, 1, 8, 20])
 (.cond (.tmp 20)
  (.seq (.reg [
      ⟨(some 21), .mv (.tmp 8), none⟩,
      ⟨(some 6), .mv (.tmp 21), none⟩,
      ⟨(some 7), .mv (.const (.int .i64 2)), none⟩] [6, 7])
  (.ret))
  (.skip)))
 (.seq (.reg [
     ⟨(some 22), .mv (.tmp 8), none⟩,
     ⟨(some 23), .mv (.tmp 0), none⟩,
     ⟨(some 24), .nilc (.tmp 23), none⟩,
     ⟨(some 25), .faddr 0 (.tmp 24), none⟩,
     ⟨(some 26), .load 1 false (.tmp 25), none⟩,
     ⟨(some 27), .mslice 4 1 (.bool false) (.tmp 26) (.tmp 26), none⟩,
     ⟨(some 28), .nilc (.tmp 22), none⟩,
     ⟨(some 29), .faddr 1 (.tmp 28), none⟩,
     ⟨none, .store 1 (.tmp 29) (.tmp 27), none⟩] [0, 1, 8])
 (.seq (.reg [
     ⟨(some 30), .mv (.tmp 8), none⟩,
     ⟨(some 31), .mv (.tmp 0), none⟩,
     ⟨(some 32), .nilc (.tmp 31), none⟩,
     ⟨(some 33), .faddr 1 (.tmp 32), none⟩,
     ⟨(some 34), .load 1 false (.tmp 33), none⟩,
     ⟨(some 35), .len (.tmp 34), none⟩,
     ⟨(some 36), .mslice 2 8 (.int .i64 0) (.tmp 35) (.tmp 35), none⟩,
     ⟨(some 37), .nilc (.tmp 30), none⟩,
     ⟨(some 38), .faddr 2 (.tmp 37), none⟩,
     ⟨none, .store 1 (.tmp 38) (.tmp 36), none⟩] [1, 8])
 (.seq (.reg [
     ⟨(some 39), .mv (.tmp 8), none⟩,
     ⟨(some 40), .call 91 [(.tmp 39)], none⟩] [1, 8])
 (.seq (.seq (.reg [
     ⟨(some 41), .mv (.tmp 8), none⟩,
     ⟨(some 42), .nilc (.tmp 41), none⟩,
     ⟨(some 43), .faddr 6 (.tmp 42), none⟩,
     ⟨(some 44), .load 1 false (.tmp 43), none⟩,
     ⟨(some 45), .mv (.tmp 1), none⟩,
     ⟨(some 46), .bin .gtr (.tmp 44) (.tmp 45), none⟩] [8, 46])
 (.cond (.tmp 46)
  (.seq (.reg [
      ⟨(some 47), .mv (.tmp 8), none⟩,
      ⟨(some 6), .mv (.tmp 47), none⟩,
      ⟨(some 7), .mv (.const (.int .i64 5)), none⟩] [6, 7])
  (.ret))
  (.skip)))
 (.seq (.reg [
     ⟨(some 48), .mv (.tmp 8), none⟩,
     ⟨(some 6), .mv (.tmp 48), none⟩,
     ⟨(some 7), .mv (.const (.int .i64 0)), none⟩] [6, 7])
 (.ret)))))))))
theorem s_spec_l24Run : stripF Try.prog 61 [[0, 1, 2], [0, 1, 8], [0, 1, 8, 16], [6, 7], [0, 1, 8, 20], [6, 7], [0, 1, 8], [1, 8], [1, 8], [8, 46], [6, 7], [6, 7]] = some (c_spec_l24Run, [.tmp 6, .tmp 7], 49) := by kernel_rfl
theorem l24Run_ok (H : List Blk) (pc : Nat) (n : Int) (O : List (List Int)) (b : Int) (hx : ∀ xs ∈ O, ∀ x ∈ xs, (Lit.int .i64 x).wf = true) (hp : H[pc]? = some ⟨0, 45, 1, [I n, ilSS O]⟩) :
    ACalls Try.prog f_spec_l24Run [.pc pc 0 0, I b, I 0] H (fun r H' => ∃ ext p, H' = H ++ ext ∧ r = .tup [.pc p 0 0, I (nnV n O b).2] ∧ ((nnV n O b).2 = 0 → ∃ m k v cnt, H'[p]? = some (spB p pc m k v cnt (nnV n O b).1 b))) := by
  have hok := fun ext => l24Ok_ok (H ++ ext) pc 0 n O hx (get_appU hp ext)
  have hib := l00In_fn b 1 20000
  have hplt := (List.getElem?_eq_some_iff.1 hp).1
  have hpp : partsOf (AV.pc pc 0 0) = [AV.pc pc 0 0] := rfl
  have hp1 : (AV.pc pc 0 0).cell1 = true := rfl
  unfold nnV
  refine ACalls.introB s_spec_l24Run (by simp) ?_; intro hB hA; unfold c_spec_l24Run; simp (config := { maxSteps := 1000000 }) (disch := (first | omega | (simp only [go_sem]; try omega))) only [go_sem, Nat.reduceAdd, Nat.reduceEqDiff, Nat.reduceLeDiff, Nat.reduceMul, Nat.reduceLT, reduceIte, Int.reduceToNat, w64_id, cast_succ]
  repeat (first | (with_reducible first | refine SW.seq ?_ | refine SW.block ?_ | refine SW.rowC ?_ | refine SW.skip ?_ | refine SW.exit ?_ | intro _ | refine And.intro (by omega) ?_) | simp (config := { maxSteps := 1000000 }) (disch := (first | omega | (simp only [go_sem]; try omega))) only [go_sem, Nat.reduceAdd, Nat.reduceEqDiff, Nat.reduceLeDiff, Nat.reduceMul, Nat.reduceLT, reduceIte, Int.reduceToNat, w64_id, cast_succ, hpp, hp1])
  refine (hok _).mono ?_
  rintro r H1 ⟨rfl, rfl⟩
  cases hc : coverOk n O
  · rw [if_pos rfl]
    repeat (first | (with_reducible first | refine SW.seq ?_ | refine SW.block ?_ | refine SW.rowC ?_ | refine SW.skip ?_ | refine SW.exit ?_ | intro _ | refine And.intro (by omega) ?_) | simp (config := { maxSteps := 1000000 }) (disch := (first | omega | (simp only [go_sem]; try omega))) only [go_sem, Nat.reduceAdd, Nat.reduceEqDiff, Nat.reduceLeDiff, Nat.reduceMul, Nat.reduceLT, reduceIte, Int.reduceToNat, w64_id, cast_succ])
    refine SW.condT rfl ?_
    repeat (first | (with_reducible first | refine SW.seq ?_ | refine SW.block ?_ | refine SW.rowC ?_ | refine SW.skip ?_ | refine SW.exit ?_ | intro _ | refine And.intro (by omega) ?_) | simp (config := { maxSteps := 1000000 }) (disch := (first | omega | (simp only [go_sem]; try omega))) only [go_sem, Nat.reduceAdd, Nat.reduceEqDiff, Nat.reduceLeDiff, Nat.reduceMul, Nat.reduceLT, reduceIte, Int.reduceToNat, w64_id, cast_succ])
    refine SW.ret ?_; (try simp only [go_sem]); (first | refine FunPost.one ?_ | refine FunPost.two ?_ | refine FunPost.three ?_); (try simp (config := { maxSteps := 1000000 }) (disch := (first | omega | (simp only [go_sem]; try omega))) only [go_sem, Nat.reduceAdd, Nat.reduceEqDiff, Nat.reduceLeDiff, Nat.reduceMul, Nat.reduceLT, reduceIte, Int.reduceToNat, w64_id, cast_succ])
    exact GR.of ⟨_, H.length, rfl, rfl, fun h => by cases h⟩
  rw [if_neg (by simp)]
  repeat (first | (with_reducible first | refine SW.seq ?_ | refine SW.block ?_ | refine SW.rowC ?_ | refine SW.skip ?_ | refine SW.exit ?_ | intro _ | refine And.intro (by omega) ?_) | simp (config := { maxSteps := 1000000 }) (disch := (first | omega | (simp only [go_sem]; try omega))) only [go_sem, Nat.reduceAdd, Nat.reduceEqDiff, Nat.reduceLeDiff, Nat.reduceMul, Nat.reduceLT, reduceIte, Int.reduceToNat, w64_id, cast_succ])
  refine SW.condF rfl ?_
  cases hb : (decide ((1 : Int) ≤ b) && decide (b ≤ 20000))
  · rw [hb] at hib
    rw [if_pos rfl]
    repeat (first | (with_reducible first | refine SW.seq ?_ | refine SW.block ?_ | refine SW.rowC ?_ | refine SW.skip ?_ | refine SW.exit ?_ | refine PFn.use (hib) ?_ | refine PFn.useq (hib) ?_ | intro _ | refine And.intro (by omega) ?_) | simp (config := { maxSteps := 1000000 }) (disch := (first | omega | (simp only [go_sem]; try omega))) only [go_sem, Nat.reduceAdd, Nat.reduceEqDiff, Nat.reduceLeDiff, Nat.reduceMul, Nat.reduceLT, reduceIte, Int.reduceToNat, w64_id, cast_succ])
    refine SW.condT rfl ?_
    repeat (first | (with_reducible first | refine SW.seq ?_ | refine SW.block ?_ | refine SW.rowC ?_ | refine SW.skip ?_ | refine SW.exit ?_ | intro _ | refine And.intro (by omega) ?_) | simp (config := { maxSteps := 1000000 }) (disch := (first | omega | (simp only [go_sem]; try omega))) only [go_sem, Nat.reduceAdd, Nat.reduceEqDiff, Nat.reduceLeDiff, Nat.reduceMul, Nat.reduceLT, reduceIte, Int.reduceToNat, w64_id, cast_succ])
    refine SW.ret ?_; (try simp only [go_sem]); (first | refine FunPost.one ?_ | refine FunPost.two ?_ | refine FunPost.three ?_); (try simp (config := { maxSteps := 1000000 }) (disch := (first | omega | (simp only [go_sem]; try omega))) only [go_sem, Nat.reduceAdd, Nat.reduceEqDiff, Nat.reduceLeDiff, Nat.reduceMul, Nat.reduceLT, reduceIte, Int.reduceToNat, w64_id, cast_succ])
    exact GR.of ⟨_, H.length, rfl, rfl, fun h => by cases h⟩
  rw [hb] at hib
  rw [if_neg (by simp)]
  simp only [Bool.and_eq_true, decide_eq_true_eq] at hb
  obtain ⟨b, rfl⟩ := Int.eq_ofNat_of_zero_le (show 0 ≤ b by omega)
  have hn := coverOk_facts hc
  obtain ⟨n, rfl⟩ := Int.eq_ofNat_of_zero_le (show 0 ≤ n by omega)
  rw [Int.toNat_natCast, Int.toNat_natCast]
  repeat (first | (with_reducible first | refine SW.seq ?_ | refine SW.block ?_ | refine SW.rowC ?_ | refine SW.skip ?_ | refine SW.exit ?_ | refine PFn.use (hib) ?_ | refine PFn.useq (hib) ?_ | intro _ | refine And.intro (by omega) ?_) | simp (config := { maxSteps := 1000000 }) (disch := (first | omega | (simp only [go_sem]; try omega))) only [go_sem, Nat.reduceAdd, Nat.reduceEqDiff, Nat.reduceLeDiff, Nat.reduceMul, Nat.reduceLT, reduceIte, Int.reduceToNat, w64_id, cast_succ])
  refine SW.condF rfl ?_
  have hca := fun o ext => pc_alive (off := o) (get_appU hp ext)
  have hcl := fun o ext => pc_ld (off := o) (get_appU hp ext)
  repeat (first | (with_reducible first | refine SW.seq ?_ | refine SW.block ?_ | refine SW.rowC ?_ | refine SW.skip ?_ | refine SW.exit ?_ | intro _ | refine And.intro (by omega) ?_) | simp (config := { maxSteps := 1000000 }) (disch := (first | omega | (simp only [go_sem]; try omega))) only [go_sem, Nat.reduceAdd, Nat.reduceEqDiff, Nat.reduceLeDiff, Nat.reduceMul, Nat.reduceLT, reduceIte, Int.reduceToNat, w64_id, cast_succ, hca, hcl])
  have h0 : SpH (H ++ [⟨0, tySp, 1, [.pc pc 0 0, .nm (H.length + 1) 0 0 n, .nm (H.length + 2) 0 0 O.length, nilS, nilS, I 0, I 0, I b, I 0]⟩, ⟨0, 4, 1, (List.replicate n false).map Bv⟩, ⟨0, 2, 1, (List.replicate O.length 0).map I⟩]) H.length pc n O (marks n (itemsOf O [])) (offL O []) nilS ((⟨b, false, []⟩ : VS).found.length : Int) ((b - (⟨b, false, []⟩ : VS).left : Nat) : Int) b := by
    refine ⟨hplt, ?_, get_appU hp _, ?_, ?_, marks_length _ _, offL_len _ _⟩
    · rw [List.getElem?_append_right (Nat.le_refl _), Nat.sub_self]; simp
    · rw [List.getElem?_append_right (by omega), Nat.add_sub_cancel_left, marks_nil]; rfl
    · rw [List.getElem?_append_right (by omega), Nat.add_sub_cancel_left, ← offL_nil]; rfl
  refine (spVisit_ok n O b hc (by omega) (n + 1) _ H.length pc [] ⟨b, false, []⟩ nilS h0 (.inl ⟨rfl, rfl, rfl, rfl⟩) (ChOk.nil O n) (by simp) (Nat.le_refl _) (by simp; omega) rfl).mono ?_
  rintro r X1 ⟨rfl, ⟨v, h1, hcg⟩, hl1, hf1⟩
  obtain ⟨ext1, rfl⟩ : ∃ ext, X1 = H ++ ext := ext_of (by simp at hl1; omega) (fun j hj => by rw [hf1 j hj, List.getElem?_append_left hj])
  change SpH (H ++ ext1) H.length pc n O (marks n (itemsOf O [])) (offL O []) v ((cvS O n false b).found.length : Int) (nodC b (cvS O n false b)) b at h1
  generalize cvS O n false b = S at *
  have ha := fun o => pc_alive (off := o) h1.box
  have hl := fun o => pc_ld (off := o) h1.box
  cases hs : S.spent
  · have hnc : nodC b S = ((b - S.left : Nat) : Int) := by unfold nodC; rw [if_neg (by rw [hs]; simp)]
    rw [hnc] at hl
    have d1 : decide ((b : Int) < ((b - S.left : Nat) : Int)) = false := decide_eq_false (by omega)
    repeat (first | (with_reducible first | refine SW.seq ?_ | refine SW.block ?_ | refine SW.rowC ?_ | refine SW.skip ?_ | refine SW.exit ?_ | intro _ | refine And.intro (by omega) ?_) | simp (config := { maxSteps := 1000000 }) (disch := (first | omega | (simp only [go_sem]; try omega))) only [go_sem, Nat.reduceAdd, Nat.reduceEqDiff, Nat.reduceLeDiff, Nat.reduceMul, Nat.reduceLT, reduceIte, Int.reduceToNat, w64_id, cast_succ, ha, hl, d1])
    refine SW.condF rfl ?_
    repeat (first | (with_reducible first | refine SW.seq ?_ | refine SW.block ?_ | refine SW.rowC ?_ | refine SW.skip ?_ | refine SW.exit ?_ | intro _ | refine And.intro (by omega) ?_) | simp (config := { maxSteps := 1000000 }) (disch := (first | omega | (simp only [go_sem]; try omega))) only [go_sem, Nat.reduceAdd, Nat.reduceEqDiff, Nat.reduceLeDiff, Nat.reduceMul, Nat.reduceLT, reduceIte, Int.reduceToNat, w64_id, cast_succ])
    refine SW.ret ?_; (try simp only [go_sem]); (first | refine FunPost.one ?_ | refine FunPost.two ?_ | refine FunPost.three ?_); (try simp (config := { maxSteps := 1000000 }) (disch := (first | omega | (simp only [go_sem]; try omega))) only [go_sem, Nat.reduceAdd, Nat.reduceEqDiff, Nat.reduceLeDiff, Nat.reduceMul, Nat.reduceLT, reduceIte, Int.reduceToNat, w64_id, cast_succ])
    exact GR.of ⟨ext1, H.length, rfl, rfl, n, O.length, v, _, by rw [← hnc]; exact h1.box⟩
  · have hnc : nodC b S = ((b + 1 : Nat) : Int) := by unfold nodC; rw [if_pos hs]; omega
    rw [hnc] at hl
    have d1 : decide ((b : Int) < ((b + 1 : Nat) : Int)) = true := decide_eq_true (by omega)
    repeat (first | (with_reducible first | refine SW.seq ?_ | refine SW.block ?_ | refine SW.rowC ?_ | refine SW.skip ?_ | refine SW.exit ?_ | intro _ | refine And.intro (by omega) ?_) | simp (config := { maxSteps := 1000000 }) (disch := (first | omega | (simp only [go_sem]; try omega))) only [go_sem, Nat.reduceAdd, Nat.reduceEqDiff, Nat.reduceLeDiff, Nat.reduceMul, Nat.reduceLT, reduceIte, Int.reduceToNat, w64_id, cast_succ, ha, hl, d1])
    refine SW.condT rfl ?_
    repeat (first | (with_reducible first | refine SW.seq ?_ | refine SW.block ?_ | refine SW.rowC ?_ | refine SW.skip ?_ | refine SW.exit ?_ | intro _ | refine And.intro (by omega) ?_) | simp (config := { maxSteps := 1000000 }) (disch := (first | omega | (simp only [go_sem]; try omega))) only [go_sem, Nat.reduceAdd, Nat.reduceEqDiff, Nat.reduceLeDiff, Nat.reduceMul, Nat.reduceLT, reduceIte, Int.reduceToNat, w64_id, cast_succ])
    refine SW.ret ?_; (try simp only [go_sem]); (first | refine FunPost.one ?_ | refine FunPost.two ?_ | refine FunPost.three ?_); (try simp (config := { maxSteps := 1000000 }) (disch := (first | omega | (simp only [go_sem]; try omega))) only [go_sem, Nat.reduceAdd, Nat.reduceEqDiff, Nat.reduceLeDiff, Nat.reduceMul, Nat.reduceLT, reduceIte, Int.reduceToNat, w64_id, cast_succ])
    exact GR.of ⟨ext1, H.length, rfl, rfl, fun h => by cases h⟩
theorem specNodes_fn (n : Int) (O : List (List Int)) (b : Int) (hx : ∀ xs ∈ O, ∀ x ∈ xs, (Lit.int .i64 x).wf = true) : PFn Try.prog f_spec_NodesOf [.agg [I n, ilSS O], I b] (.tup [I (nnV n O b).1, I (nnV n O b).2]) := by
  intro H
  have hz : (nnV n O b).2 ≠ 0 → (nnV n O b).1 = 0 := by
    unfold nnV
    split
    · intro _; rfl
    · split
      · intro _; rfl
      · split
        · intro _; rfl
        · exact fun h => absurd rfl h
  refine ACalls.introB s_spec_NodesOf (by simp) ?_; intro hB hA; unfold c_spec_NodesOf; simp (config := { maxSteps := 1000000 }) (disch := (first | omega | (simp only [go_sem]; try omega))) only [go_sem, Nat.reduceAdd, Nat.reduceEqDiff, Nat.reduceLeDiff, Nat.reduceMul, Nat.reduceLT, reduceIte, Int.reduceToNat, w64_id, cast_succ]
  repeat (first | (with_reducible first | refine SW.seq ?_ | refine SW.block ?_ | refine SW.rowC ?_ | refine SW.skip ?_ | refine SW.exit ?_ | intro _ | refine And.intro (by omega) ?_) | simp (config := { maxSteps := 1000000 }) (disch := (first | omega | (simp only [go_sem]; try omega))) only [go_sem, Nat.reduceAdd, Nat.reduceEqDiff, Nat.reduceLeDiff, Nat.reduceMul, Nat.reduceLT, reduceIte, Int.reduceToNat, w64_id, cast_succ])
  refine (l24Run_ok _ H.length n O b hx (by rw [List.getElem?_append_right (Nat.le_refl _), Nat.sub_self]; rfl)).mono ?_
  rintro r X ⟨ext, p, rfl, rfl, hbox⟩
  generalize nnV n O b = V at *
  obtain ⟨a, c⟩ := V
  by_cases hc : c = 0
  · subst hc
    obtain ⟨m, k, v, cnt, hb⟩ := hbox rfl
    rw [List.append_assoc] at hb
    simp only [List.cons_append, List.nil_append] at hb
    have ha := fun o => pc_alive (off := o) hb
    have hl := fun o => pc_ld (off := o) hb
    repeat (first | (with_reducible first | refine SW.seq ?_ | refine SW.block ?_ | refine SW.rowC ?_ | refine SW.skip ?_ | refine SW.exit ?_ | intro _ | refine And.intro (by omega) ?_) | simp (config := { maxSteps := 1000000 }) (disch := (first | omega | (simp only [go_sem]; try omega))) only [go_sem, Nat.reduceAdd, Nat.reduceEqDiff, Nat.reduceLeDiff, Nat.reduceMul, Nat.reduceLT, reduceIte, Int.reduceToNat, w64_id, cast_succ, ha, hl])
    refine SW.condF rfl ?_
    repeat (first | (with_reducible first | refine SW.seq ?_ | refine SW.block ?_ | refine SW.rowC ?_ | refine SW.skip ?_ | refine SW.exit ?_ | intro _ | refine And.intro (by omega) ?_) | simp (config := { maxSteps := 1000000 }) (disch := (first | omega | (simp only [go_sem]; try omega))) only [go_sem, Nat.reduceAdd, Nat.reduceEqDiff, Nat.reduceLeDiff, Nat.reduceMul, Nat.reduceLT, reduceIte, Int.reduceToNat, w64_id, cast_succ, ha, hl])
    refine SW.ret ?_; (try simp only [go_sem]); (first | refine FunPost.one ?_ | refine FunPost.two ?_ | refine FunPost.three ?_); (try simp (config := { maxSteps := 1000000 }) (disch := (first | omega | (simp only [go_sem]; try omega))) only [go_sem, Nat.reduceAdd, Nat.reduceEqDiff, Nat.reduceLeDiff, Nat.reduceMul, Nat.reduceLT, reduceIte, Int.reduceToNat, w64_id, cast_succ])
    exact GR.froz (froz_tup2 (froz_I' _) (froz_I' _)) ⟨rfl, rfl⟩
  · have := hz hc
    simp only at this
    subst this
    have d1 : decide (c = 0) = false := decide_eq_false hc
    repeat (first | (with_reducible first | refine SW.seq ?_ | refine SW.block ?_ | refine SW.rowC ?_ | refine SW.skip ?_ | refine SW.exit ?_ | intro _ | refine And.intro (by omega) ?_) | simp (config := { maxSteps := 1000000 }) (disch := (first | omega | (simp only [go_sem]; try omega))) only [go_sem, Nat.reduceAdd, Nat.reduceEqDiff, Nat.reduceLeDiff, Nat.reduceMul, Nat.reduceLT, reduceIte, Int.reduceToNat, w64_id, cast_succ, d1])
    refine SW.condT rfl ?_
    repeat (first | (with_reducible first | refine SW.seq ?_ | refine SW.block ?_ | refine SW.rowC ?_ | refine SW.skip ?_ | refine SW.exit ?_ | intro _ | refine And.intro (by omega) ?_) | simp (config := { maxSteps := 1000000 }) (disch := (first | omega | (simp only [go_sem]; try omega))) only [go_sem, Nat.reduceAdd, Nat.reduceEqDiff, Nat.reduceLeDiff, Nat.reduceMul, Nat.reduceLT, reduceIte, Int.reduceToNat, w64_id, cast_succ])
    refine SW.ret ?_; (try simp only [go_sem]); (first | refine FunPost.one ?_ | refine FunPost.two ?_ | refine FunPost.three ?_); (try simp (config := { maxSteps := 1000000 }) (disch := (first | omega | (simp only [go_sem]; try omega))) only [go_sem, Nat.reduceAdd, Nat.reduceEqDiff, Nat.reduceLeDiff, Nat.reduceMul, Nat.reduceLT, reduceIte, Int.reduceToNat, w64_id, cast_succ])
    exact GR.froz (froz_tup2 (froz_I' _) (froz_I' _)) ⟨rfl, rfl⟩
theorem lawNodesOf_ok (H : List Blk) (n : Int) (xss : List (List Int)) (b : Int) (hx : ∀ xs ∈ xss, ∀ x ∈ xs, (Lit.int .i64 x).wf = true) : ACalls Try.prog f_laws_FnExactNodesOf [.agg [I n, ilSS xss], I b] H (fun r _ => r = Bv true) := by
  have hs := specNodes_fn n xss b hx
  have hi := implNodes_fn n xss b hx
  refine ACalls.introB s_laws_FnExactNodesOf (by simp) ?_; intro hB hA; unfold c_laws_FnExactNodesOf; simp (config := { maxSteps := 1000000 }) (disch := (first | omega | (simp only [go_sem]; try omega))) only [go_sem, Nat.reduceAdd, Nat.reduceEqDiff, Nat.reduceLeDiff, Nat.reduceMul, Nat.reduceLT, reduceIte, Int.reduceToNat, w64_id, cast_succ]
  repeat (first | (with_reducible first | refine SW.seq ?_ | refine SW.block ?_ | refine SW.rowC ?_ | refine SW.skip ?_ | refine SW.exit ?_ | intro _ | refine And.intro (by omega) ?_) | simp (config := { maxSteps := 1000000 }) (disch := (first | omega | (simp only [go_sem]; try omega))) only [go_sem, Nat.reduceAdd, Nat.reduceEqDiff, Nat.reduceLeDiff, Nat.reduceMul, Nat.reduceLT, reduceIte, Int.reduceToNat, w64_id, cast_succ])
  refine (szCover_ok _ n _ xss _ rfl (rd_ilSS _ _) (by omega) (by omega)).mono ?_
  rintro r H' ⟨⟨z, rfl, g1, g2, g3⟩, rfl⟩
  repeat (first | (with_reducible first | refine SW.seq ?_ | refine SW.block ?_ | refine SW.rowC ?_ | refine SW.skip ?_ | refine SW.exit ?_ | intro _ | refine And.intro (by omega) ?_) | simp (config := { maxSteps := 1000000 }) (disch := (first | omega | (simp only [go_sem]; try omega))) only [go_sem, Nat.reduceAdd, Nat.reduceEqDiff, Nat.reduceLeDiff, Nat.reduceMul, Nat.reduceLT, reduceIte, Int.reduceToNat, w64_id, cast_succ])
  (first | refine SW.condD rfl (fun h2 => ?_) (fun h2 => ?_) | refine SW.condN rfl (fun h2 => ?_) (fun h2 => ?_) | refine SW.condNB rfl (fun h2 => ?_) (fun h2 => ?_) | refine SW.condB rfl (fun h2 => ?_) (fun h2 => ?_))
  · repeat (first | (with_reducible first | refine SW.seq ?_ | refine SW.block ?_ | refine SW.rowC ?_ | refine SW.skip ?_ | refine SW.exit ?_ | intro _ | refine And.intro (by omega) ?_) | simp (config := { maxSteps := 1000000 }) (disch := (first | omega | (simp only [go_sem]; try omega))) only [go_sem, Nat.reduceAdd, Nat.reduceEqDiff, Nat.reduceLeDiff, Nat.reduceMul, Nat.reduceLT, reduceIte, Int.reduceToNat, w64_id, cast_succ])
    refine SW.ret ?_; (try simp only [go_sem]); (first | refine FunPost.one ?_ | refine FunPost.two ?_ | refine FunPost.three ?_); (try simp (config := { maxSteps := 1000000 }) (disch := (first | omega | (simp only [go_sem]; try omega))) only [go_sem, Nat.reduceAdd, Nat.reduceEqDiff, Nat.reduceLeDiff, Nat.reduceMul, Nat.reduceLT, reduceIte, Int.reduceToNat, w64_id, cast_succ])
    exact GR.of rfl
  have hsx := small_rows (by omega) (g3 (by omega)) (by omega)
  have t1 := toCover_fn n xss hsx.1 hsx.2
  repeat (first | (with_reducible first | refine SW.seq ?_ | refine SW.block ?_ | refine SW.rowC ?_ | refine SW.skip ?_ | refine SW.exit ?_ | refine PFn.use (t1) ?_ | refine PFn.useq (t1) ?_ | refine PFn.use (hs) ?_ | refine PFn.useq (hs) ?_ | refine PFn.use (hi) ?_ | refine PFn.useq (hi) ?_ | intro _ | refine And.intro (by omega) ?_) | simp (config := { maxSteps := 1000000 }) (disch := (first | omega | (simp only [go_sem]; try omega))) only [go_sem, Nat.reduceAdd, Nat.reduceEqDiff, Nat.reduceLeDiff, Nat.reduceMul, Nat.reduceLT, reduceIte, Int.reduceToNat, w64_id, cast_succ])
  refine SW.condF rfl ?_
  repeat (first | (with_reducible first | refine SW.seq ?_ | refine SW.block ?_ | refine SW.rowC ?_ | refine SW.skip ?_ | refine SW.exit ?_ | refine PFn.use (t1) ?_ | refine PFn.useq (t1) ?_ | refine PFn.use (eqCover_fn2 n xss) ?_ | refine PFn.useq (eqCover_fn2 n xss) ?_ | intro _ | refine And.intro (by omega) ?_) | simp (config := { maxSteps := 1000000 }) (disch := (first | omega | (simp only [go_sem]; try omega))) only [go_sem, Nat.reduceAdd, Nat.reduceEqDiff, Nat.reduceLeDiff, Nat.reduceMul, Nat.reduceLT, reduceIte, Int.reduceToNat, w64_id, cast_succ])
  refine SW.condF rfl ?_
  repeat (first | (with_reducible first | refine SW.seq ?_ | refine SW.block ?_ | refine SW.rowC ?_ | refine SW.skip ?_ | refine SW.exit ?_ | intro _ | refine And.intro (by omega) ?_) | simp (config := { maxSteps := 1000000 }) (disch := (first | omega | (simp only [go_sem]; try omega))) only [go_sem, Nat.reduceAdd, Nat.reduceEqDiff, Nat.reduceLeDiff, Nat.reduceMul, Nat.reduceLT, reduceIte, Int.reduceToNat, w64_id, cast_succ])
  refine SW.ret ?_; (try simp only [go_sem]); (first | refine FunPost.one ?_ | refine FunPost.two ?_ | refine FunPost.three ?_); (try simp (config := { maxSteps := 1000000 }) (disch := (first | omega | (simp only [go_sem]; try omega))) only [go_sem, Nat.reduceAdd, Nat.reduceEqDiff, Nat.reduceLeDiff, Nat.reduceMul, Nat.reduceLT, reduceIte, Int.reduceToNat, w64_id, cast_succ])
  exact GR.of rfl
end Go.Proofs.Ytpaagkipnlbibaa
