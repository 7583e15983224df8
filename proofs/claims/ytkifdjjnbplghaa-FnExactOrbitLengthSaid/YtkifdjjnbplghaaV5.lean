/- Groups of permutations: valid groups in the program. -/
import Derived.Test.YtkifdjjnbplghaaProg
import Derived.KernelRfl
import Derived.Test.YtkifdjjnbplghaaV4
set_option linter.unusedSimpArgs false
set_option linter.unusedVariables false
set_option maxHeartbeats 4000000
set_option maxRecDepth 100000
namespace Go.Proofs.Ytkifdjjnbplghaa
open Go.Av

/-! The abstract code of functions, printed by program and tied to the program by the kernel. -/
/-- loop.example/g00920/impl.ValidGroup -/
abbrev f_impl_ValidGroup : Nat := 36
def c_impl_ValidGroup : SC :=
 .seq (.reg [
     ⟨(some 1), .box 29 (.tmp 0), none⟩,
     ⟨(some 2), .mv (.const (.bool false)), none⟩] [1])
 (.seq (.seq (.reg [
     ⟨(some 7), .faddr 0 (.tmp 1), none⟩,
     ⟨(some 8), .load 1 false (.tmp 7), none⟩,
     ⟨(some 9), .call 37 [(.tmp 8), (.const (.int .i64 1)), (.const (.int .i64 32))], none⟩,
     ⟨(some 10), .un .not (.tmp 9), none⟩,
     ⟨(some 11), .mv (.tmp 10), none⟩,
     ⟨(some 12), .faddr 1 (.tmp 1), (some (11, false))⟩,
     ⟨(some 13), .load 1 false (.tmp 12), (some (11, false))⟩,
     ⟨(some 14), .len (.tmp 13), (some (11, false))⟩,
     ⟨(some 15), .bin .lss (.tmp 14) (.const (.int .i64 1)), (some (11, false))⟩,
     ⟨(some 16), .pick (.tmp 11) (.const (.bool true)) (.tmp 15), none⟩,
     ⟨(some 17), .mv (.tmp 16), none⟩,
     ⟨(some 18), .faddr 1 (.tmp 1), (some (17, false))⟩,
     ⟨(some 19), .load 1 false (.tmp 18), (some (17, false))⟩,
     ⟨(some 20), .len (.tmp 19), (some (17, false))⟩,
     ⟨(some 21), .bin .gtr (.tmp 20) (.const (.int .i64 720)), (some (17, false))⟩,
     ⟨(some 22), .pick (.tmp 17) (.const (.bool true)) (.tmp 21), none⟩,
     ⟨(some 23), .mv (.tmp 22), none⟩,
     ⟨(some 24), .faddr 0 (.tmp 1), (some (23, false))⟩,
     ⟨(some 25), .load 1 false (.tmp 24), (some (23, false))⟩,
     ⟨(some 26), .faddr 1 (.tmp 1), (some (23, false))⟩,
     ⟨(some 27), .load 1 false (.tmp 26), (some (23, false))⟩,
     ⟨(some 28), .call 60 [(.tmp 25), (.tmp 27)], (some (23, false))⟩,
     ⟨(some 29), .un .not (.tmp 28), (some (23, false))⟩,
     ⟨(some 30), .pick (.tmp 23) (.const (.bool true)) (.tmp 29), none⟩] [1, 30])
 (.cond (.tmp 30)
  (.seq (.reg [
      ⟨(some 2), .mv (.const (.bool false)), none⟩] [2])
  (.ret))
  (.skip)))
 (.seq (.seq (.reg [
     ⟨(some 3), .mv (.const (.int .i64 1)), none⟩] [1, 3])
 (.block 0 (.loop [1, 3]
   (.seq (.seq (.reg [
       ⟨(some 31), .mv (.tmp 3), none⟩,
       ⟨(some 32), .faddr 1 (.tmp 1), none⟩,
       ⟨(some 33), .load 1 false (.tmp 32), none⟩,
       ⟨(some 34), .len (.tmp 33), none⟩,
       ⟨(some 35), .bin .lss (.tmp 31) (.tmp 34), none⟩] [1, 3, 35])
   (.cond (.tmp 35)
    (.skip)
    (.exit 0)))
   (.seq (.block 1 (.seq (.reg [
        ⟨(some 38), .faddr 1 (.tmp 1), none⟩,
        ⟨(some 39), .load 1 false (.tmp 38), none⟩,
        ⟨(some 40), .mv (.tmp 3), none⟩,
        ⟨(some 41), .bin .sub (.tmp 40) (.const (.int .i64 1)), none⟩,
        ⟨(some 42), .iaddr 1 (.tmp 39) (.tmp 41), none⟩,
        ⟨(some 43), .load 1 false (.tmp 42), none⟩,
        ⟨(some 44), .faddr 1 (.tmp 1), none⟩,
        ⟨(some 45), .load 1 false (.tmp 44), none⟩,
        ⟨(some 46), .mv (.tmp 3), none⟩,
        ⟨(some 47), .iaddr 1 (.tmp 45) (.tmp 46), none⟩,
        ⟨(some 48), .load 1 false (.tmp 47), none⟩,
        ⟨(some 49), .qcall 55 [(.tmp 43), (.tmp 48)], none⟩,
        ⟨(some 50), .bin .geq (.tmp 49) (.const (.int .i64 0)), none⟩] [1, 3, 50])
    (.cond (.tmp 50)
     (.seq (.reg [
         ⟨(some 2), .mv (.const (.bool false)), none⟩] [2])
     (.ret))
     (.skip))))
   (.reg [
       ⟨(some 36), .mv (.tmp 3), none⟩,
       ⟨(some 37), .bin .add (.tmp 36) (.const (.int .i64 1)), none⟩,
       ⟨(some 3), .mv (.tmp 37), none⟩] [1, 3]))))))
 (.seq (.reg [
     ⟨(some 52), .faddr 0 (.tmp 1), none⟩,
     ⟨(some 53), .load 1 false (.tmp 52), none⟩,
     ⟨(some 54), .faddr 1 (.tmp 1), none⟩,
     ⟨(some 55), .load 1 false (.tmp 54), none⟩,
     ⟨(some 56), .call 61 [(.tmp 53), (.tmp 55)], none⟩,
     ⟨(some 51), .mv (.tmp 56), none⟩,
     ⟨(some 57), .ext (.tmp 51) 0, none⟩,
     ⟨(some 58), .ext (.tmp 51) 1, none⟩,
     ⟨(some 59), .ext (.tmp 51) 2, none⟩,
     ⟨(some 4), .mv (.tmp 57), none⟩,
     ⟨(some 5), .mv (.tmp 58), none⟩,
     ⟨(some 6), .mv (.tmp 59), none⟩] [1, 5, 6])
 (.seq (.reg [
     ⟨(some 60), .mv (.tmp 6), none⟩,
     ⟨(some 61), .mv (.tmp 60), none⟩,
     ⟨(some 62), .mv (.tmp 5), (some (61, true))⟩,
     ⟨(some 63), .len (.tmp 62), (some (61, true))⟩,
     ⟨(some 64), .faddr 1 (.tmp 1), (some (61, true))⟩,
     ⟨(some 65), .load 1 false (.tmp 64), (some (61, true))⟩,
     ⟨(some 66), .len (.tmp 65), (some (61, true))⟩,
     ⟨(some 67), .bin .eql (.tmp 63) (.tmp 66), (some (61, true))⟩,
     ⟨(some 68), .pick (.tmp 61) (.tmp 67) (.const (.bool false)), none⟩,
     ⟨(some 2), .mv (.tmp 68), none⟩] [2])
 (.ret)))))
theorem s_impl_ValidGroup : stripF Try.prog 36 [[1], [1, 30], [2], [1, 3], [1, 3], [1, 3, 35], [1, 3, 50], [2], [1, 3], [1, 5, 6], [2]] = some (c_impl_ValidGroup, [.tmp 2], 69) := by kernel_rfl

/-- loop.example/g00920/impl.chosen -/
abbrev f_impl_chosen : Nat := 61
def c_impl_chosen : SC :=
 .seq (.reg [
     ⟨(some 4), .mv (.const (.slice none 0 0)), none⟩,
     ⟨(some 5), .mv (.const (.slice none 0 0)), none⟩,
     ⟨(some 6), .mv (.const (.bool false)), none⟩] [0, 1])
 (.seq (.reg [
     ⟨(some 7), .mv (.const (.slice none 0 0)), none⟩] [0, 1, 7])
 (.seq (.reg [
     ⟨(some 15), .mv (.tmp 0), none⟩,
     ⟨(some 16), .call 79 [(.tmp 15), (.const (.slice none 0 0))], none⟩,
     ⟨(some 14), .mv (.tmp 16), none⟩,
     ⟨(some 17), .ext (.tmp 14) 0, none⟩,
     ⟨(some 18), .ext (.tmp 14) 1, none⟩,
     ⟨(some 8), .mv (.tmp 17), none⟩,
     ⟨(some 9), .mv (.tmp 18), none⟩] [0, 1, 7, 8, 9])
 (.seq (.seq (.reg [
     ⟨(some 19), .mv (.tmp 1), none⟩,
     ⟨(some 20), .len (.tmp 19), none⟩,
     ⟨(some 21), .mv (.const (.int .i64 0)), none⟩] [0, 7, 8, 9, 19, 20, 21])
 (.block 0 (.loop [0, 7, 8, 9, 19, 20, 21]
   (.seq (.reg [
       ⟨(some 22), .bin .lss (.tmp 21) (.tmp 20), none⟩] [0, 7, 8, 9, 19, 20, 21, 22])
   (.seq (.cond (.tmp 22)
    (.skip)
    (.exit 0))
   (.seq (.block 1 (.seq (.reg [
        ⟨(some 23), .iaddr 1 (.tmp 19) (.tmp 21), none⟩,
        ⟨(some 24), .load 1 false (.tmp 23), none⟩,
        ⟨(some 11), .mv (.tmp 24), none⟩] [0, 7, 8, 9, 11, 19, 20, 21])
    (.seq (.seq (.reg [
        ⟨(some 26), .mv (.tmp 8), none⟩,
        ⟨(some 27), .mv (.tmp 11), none⟩,
        ⟨(some 28), .call 80 [(.tmp 26), (.tmp 27), (.func 55)], none⟩,
        ⟨(some 25), .mv (.tmp 28), none⟩,
        ⟨(some 29), .ext (.tmp 25) 0, none⟩,
        ⟨(some 30), .ext (.tmp 25) 1, none⟩,
        ⟨(some 12), .mv (.tmp 29), none⟩,
        ⟨(some 13), .mv (.tmp 30), none⟩] [0, 7, 8, 9, 11, 13, 19, 20, 21])
    (.seq (.reg [
        ⟨(some 31), .mv (.tmp 13), none⟩,
        ⟨(some 32), .mv (.tmp 31), none⟩,
        ⟨(some 33), .mv (.tmp 9), (some (32, false))⟩,
        ⟨(some 34), .un .not (.tmp 33), (some (32, false))⟩,
        ⟨(some 35), .pick (.tmp 32) (.const (.bool true)) (.tmp 34), none⟩] [0, 7, 8, 9, 11, 19, 20, 21, 35])
    (.cond (.tmp 35)
     (.exit 1)
     (.skip))))
    (.seq (.reg [
        ⟨(some 36), .mv (.tmp 7), none⟩,
        ⟨(some 37), .mv (.tmp 11), none⟩,
        ⟨(some 38), .bslice 25 1 1 [(.slice none 0 0)] [(0, (.tmp 37))], none⟩,
        ⟨(some 39), .app 25 1 24 (.tmp 36) (.tmp 38), none⟩,
        ⟨(some 7), .mv (.tmp 39), none⟩] [0, 7, 19, 20, 21])
    (.reg [
        ⟨(some 41), .mv (.tmp 0), none⟩,
        ⟨(some 42), .mv (.tmp 7), none⟩,
        ⟨(some 43), .call 79 [(.tmp 41), (.tmp 42)], none⟩,
        ⟨(some 40), .mv (.tmp 43), none⟩,
        ⟨(some 44), .ext (.tmp 40) 0, none⟩,
        ⟨(some 45), .ext (.tmp 40) 1, none⟩,
        ⟨(some 8), .mv (.tmp 44), none⟩,
        ⟨(some 9), .mv (.tmp 45), none⟩] [0, 7, 8, 9, 19, 20, 21])))))
   (.reg [
       ⟨(some 46), .bin .add (.tmp 21) (.const (.int .i64 1)), none⟩,
       ⟨(some 21), .mv (.tmp 46), none⟩] [0, 7, 8, 9, 19, 20, 21])))))))
 (.seq (.reg [
     ⟨(some 47), .mv (.tmp 7), none⟩,
     ⟨(some 48), .mv (.tmp 8), none⟩,
     ⟨(some 49), .mv (.tmp 9), none⟩,
     ⟨(some 4), .mv (.tmp 47), none⟩,
     ⟨(some 5), .mv (.tmp 48), none⟩,
     ⟨(some 6), .mv (.tmp 49), none⟩] [4, 5, 6])
 (.ret)))))
theorem s_impl_chosen : stripF Try.prog 61 [[0, 1], [0, 1, 7], [0, 1, 7, 8, 9], [0, 7, 8, 9, 19, 20, 21], [0, 7, 8, 9, 19, 20, 21], [0, 7, 8, 9, 19, 20, 21, 22], [0, 7, 8, 9, 11, 19, 20, 21], [0, 7, 8, 9, 11, 13, 19, 20, 21], [0, 7, 8, 9, 11, 19, 20, 21, 35], [0, 7, 19, 20, 21], [0, 7, 8, 9, 19, 20, 21], [0, 7, 8, 9, 19, 20, 21], [4, 5, 6]] = some (c_impl_chosen, [.tmp 4, .tmp 5, .tmp 6], 50) := by kernel_rfl


theorem chosen_ok (H : List Blk) (n : Nat) (els : List (List Int)) (hn1 : 1 ≤ n) (hn : n ≤ 32) (hp : ∀ p ∈ els, permOk n p) (hl : els.length ≤ 720) :
    ACalls Try.prog f_impl_chosen [I n, ilSS els] H (fun r H' => ∃ (G A : List (List Int)) (okb : Bool), r = .tup [ilSS G, ilSS A, Bv okb] ∧ (∀ g ∈ G, g ∈ els) ∧ genL n G 720 = (if okb = true then some A else none) ∧ (okb = true → ∀ p ∈ els, p ∈ A) ∧ H' = H) := by
  have h0 := genL_some (genList_nil n) (show [idL n].length ≤ 720 by simp)
  have hc0 := fun H => closure_ok H n nilS [] hn1 hn rfl (by simp) (by simp)
  rw [h0] at hc0
  refine ACalls.introB s_impl_chosen (by simp) ?_; intro hB hA; unfold c_impl_chosen; simp (config := { maxSteps := 1000000 }) (disch := (first | omega | (simp only [go_sem]; try omega))) only [go_sem, Nat.reduceAdd, Nat.reduceEqDiff, Nat.reduceLeDiff, Nat.reduceMul, Nat.reduceLT, reduceIte, Int.reduceToNat, w64_id, cast_succ]
  repeat (first | (with_reducible first | refine SW.seq ?_ | refine SW.block ?_ | refine SW.rowC ?_ | refine SW.skip ?_ | refine SW.exit ?_ | intro _ | refine And.intro (by omega) ?_) | simp (config := { maxSteps := 1000000 }) (disch := (first | omega | (simp only [go_sem]; try omega))) only [go_sem, Nat.reduceAdd, Nat.reduceEqDiff, Nat.reduceLeDiff, Nat.reduceMul, Nat.reduceLT, reduceIte, Int.reduceToNat, w64_id, cast_succ])
  refine ACalls.fn (hc0 _) ?_
  simp only [closAV]
  repeat (first | (with_reducible first | refine SW.seq ?_ | refine SW.block ?_ | refine SW.rowC ?_ | refine SW.skip ?_ | refine SW.exit ?_ | intro _ | refine And.intro (by omega) ?_) | simp (config := { maxSteps := 1000000 }) (disch := (first | omega | (simp only [go_sem]; try omega))) only [go_sem, Nat.reduceAdd, Nat.reduceEqDiff, Nat.reduceLeDiff, Nat.reduceMul, Nat.reduceLT, reduceIte, Int.reduceToNat, w64_id, cast_succ])
  refine SW.ghost (Gh.name 7 tyLL 1 rfl) ?_
  simp (config := { maxSteps := 1000000 }) (disch := (first | omega | (simp only [go_sem]; try omega))) only [go_sem, Nat.reduceAdd, Nat.reduceEqDiff, Nat.reduceLeDiff, Nat.reduceMul, Nat.reduceLT, reduceIte, Int.reduceToNat, w64_id, cast_succ]
  refine SW.loopE (fun E0 H0 q E' H' => ∃ (pre post G A : List (List Int)) (ver : Nat) (okb : Bool), els = pre ++ post ∧ q = post.length ∧ E' = aput (aput (aput (aput E0 21 (I pre.length)) 7 (.nm H.length ver 0 G.length)) 8 (ilSS A)) 9 (Bv okb) ∧ H' = H ++ [⟨ver, tyLL, 1, G.map ilS⟩] ∧ (∀ g ∈ G, g ∈ pre) ∧ G.length ≤ pre.length ∧ genL n G 720 = (if okb = true then some A else none) ∧ (okb = true → ∀ p ∈ pre, p ∈ A) ∧ (okb = false → A = [])) els.length ⟨[], els, [], [idL n], 0, true, rfl, rfl, rfl, rfl, by simp, by simp, h0, by simp, by simp⟩ ?_
  rintro q E' H' ⟨pre, post, G, A, ver, okb, hpp, rfl, rfl, rfl, hGp, hGl, hgl, hAp, hA0⟩
  have hprl : pre.length ≤ 720 := by rw [hpp] at hl; simp at hl; omega
  simp (config := { maxSteps := 1000000 }) (disch := (first | omega | (simp only [go_sem]; try omega))) only [go_sem, Nat.reduceAdd, Nat.reduceEqDiff, Nat.reduceLeDiff, Nat.reduceMul, Nat.reduceLT, reduceIte, Int.reduceToNat, w64_id, cast_succ]
  repeat (first | (with_reducible first | refine SW.seq ?_ | refine SW.block ?_ | refine SW.rowC ?_ | refine SW.skip ?_ | refine SW.exit ?_ | intro _ | refine And.intro (by omega) ?_) | simp (config := { maxSteps := 1000000 }) (disch := (first | omega | (simp only [go_sem]; try omega))) only [go_sem, Nat.reduceAdd, Nat.reduceEqDiff, Nat.reduceLeDiff, Nat.reduceMul, Nat.reduceLT, reduceIte, Int.reduceToNat, w64_id, cast_succ])
  (first | refine SW.condD rfl (fun h2 => ?_) (fun h2 => ?_) | refine SW.condN rfl (fun h2 => ?_) (fun h2 => ?_) | refine SW.condNB rfl (fun h2 => ?_) (fun h2 => ?_) | refine SW.condB rfl (fun h2 => ?_) (fun h2 => ?_))
  · obtain ⟨p, post, rfl, hgp, -⟩ := consOf (d := []) hpp (by omega)
    have hpm : p ∈ els := by rw [hpp]; simp
    have hpo := hp p hpm
    have hAasc : Asc cmpL A ∧ A.length ≤ 720 := by
      cases okb with
      | true =>
        rw [if_pos rfl] at hgl
        exact ⟨(genL_inv hgl).1.1, (genL_inv hgl).2⟩
      | false => rw [hA0 rfl]; exact ⟨.nil, by simp⟩
    have hbs := BinarySearch_fn A p hAasc.1 (by omega)
    have hab : Bel (H.length + 1) (ilSS els) := by rw [Bel_ilSS]; trivial
    have htl : (G.map ilS).take G.length = G.map ilS := List.take_of_length_le (by simp)
    have hGB : ∀ (G : List (List Int)) (c : AV), c ∈ G.map ilS → Bel (H.length + 1) c := fun G c hc => by
      obtain ⟨x, _, rfl⟩ := List.mem_map.1 hc
      rw [Bel_ilS]; trivial
    by_cases hpA : p ∈ A ∨ okb = false
    · have hskip : (∀ g ∈ G, g ∈ pre ++ [p]) ∧ G.length ≤ (pre ++ [p]).length ∧ (okb = true → ∀ q ∈ pre ++ [p], q ∈ A) := by
        refine ⟨fun g hg => List.mem_append_left _ (hGp g hg), by simp; omega, fun ho q hq => ?_⟩
        rcases List.mem_append.1 hq with h | h
        · exact hAp ho q h
        · rw [List.mem_singleton.1 h]
          rcases hpA with h | h
          · exact h
          · rw [ho] at h; cases h
      by_cases hm : p ∈ A
      · have dd := decide_eq_true hm
        repeat (first | (with_reducible first | refine SW.seq ?_ | refine SW.block ?_ | refine SW.rowC ?_ | refine SW.skip ?_ | refine SW.exit ?_ | refine PFn.use (hbs) ?_ | refine PFn.useq (hbs) ?_ | intro _ | refine And.intro (by omega) ?_) | simp (config := { maxSteps := 1000000 }) (disch := (first | omega | (simp only [go_sem]; try omega))) only [go_sem, Nat.reduceAdd, Nat.reduceEqDiff, Nat.reduceLeDiff, Nat.reduceMul, Nat.reduceLT, reduceIte, Int.reduceToNat, w64_id, cast_succ, hgp, dd])
        refine SW.condT rfl ?_
        repeat (first | (with_reducible first | refine SW.seq ?_ | refine SW.block ?_ | refine SW.rowC ?_ | refine SW.skip ?_ | refine SW.exit ?_ | intro _ | refine And.intro (by omega) ?_) | simp (config := { maxSteps := 1000000 }) (disch := (first | omega | (simp only [go_sem]; try omega))) only [go_sem, Nat.reduceAdd, Nat.reduceEqDiff, Nat.reduceLeDiff, Nat.reduceMul, Nat.reduceLT, reduceIte, Int.reduceToNat, w64_id, cast_succ])
        refine SLoop.next post.length (by simp) ⟨pre ++ [p], post, G, A, ver, okb, by simp [hpp], rfl, by simp [go_sem], rfl, hskip.1, hskip.2.1, hgl, hskip.2.2, hA0⟩
      · have dd := decide_eq_false hm
        have ho : okb = false := hpA.resolve_left hm
        subst ho
        repeat (first | (with_reducible first | refine SW.seq ?_ | refine SW.block ?_ | refine SW.rowC ?_ | refine SW.skip ?_ | refine SW.exit ?_ | refine PFn.use (hbs) ?_ | refine PFn.useq (hbs) ?_ | intro _ | refine And.intro (by omega) ?_) | simp (config := { maxSteps := 1000000 }) (disch := (first | omega | (simp only [go_sem]; try omega))) only [go_sem, Nat.reduceAdd, Nat.reduceEqDiff, Nat.reduceLeDiff, Nat.reduceMul, Nat.reduceLT, reduceIte, Int.reduceToNat, w64_id, cast_succ, hgp, dd])
        refine SW.condT rfl ?_
        repeat (first | (with_reducible first | refine SW.seq ?_ | refine SW.block ?_ | refine SW.rowC ?_ | refine SW.skip ?_ | refine SW.exit ?_ | intro _ | refine And.intro (by omega) ?_) | simp (config := { maxSteps := 1000000 }) (disch := (first | omega | (simp only [go_sem]; try omega))) only [go_sem, Nat.reduceAdd, Nat.reduceEqDiff, Nat.reduceLeDiff, Nat.reduceMul, Nat.reduceLT, reduceIte, Int.reduceToNat, w64_id, cast_succ])
        refine SLoop.next post.length (by simp) ⟨pre ++ [p], post, G, A, ver, false, by simp [hpp], rfl, by simp [go_sem], rfl, hskip.1, hskip.2.1, hgl, hskip.2.2, hA0⟩
    · have hm : p ∉ A := fun h => hpA (.inl h)
      have ho : okb = true := by cases okb with | true => rfl | false => exact absurd (.inr rfl) hpA
      subst ho
      rw [if_pos rfl] at hgl
      have hGL := (genL_inv hgl).1
      have dd := decide_eq_false hm
      have hgo : ∀ g ∈ G ++ [p], permOk n g := fun g hg => by
        rcases List.mem_append.1 hg with h | h
        · exact hp g (by rw [hpp]; exact List.mem_append_left _ (hGp g h))
        · rw [List.mem_singleton.1 h]; exact hpo
      have hGo : ∀ g ∈ G, permOk n g := fun g hg => hgo g (List.mem_append_left _ hg)
      repeat (first | (with_reducible first | refine SW.seq ?_ | refine SW.block ?_ | refine SW.rowC ?_ | refine SW.skip ?_ | refine SW.exit ?_ | refine PFn.use (hbs) ?_ | refine PFn.useq (hbs) ?_ | intro _ | refine And.intro (by omega) ?_) | simp (config := { maxSteps := 1000000 }) (disch := (first | omega | (simp only [go_sem]; try omega))) only [go_sem, Nat.reduceAdd, Nat.reduceEqDiff, Nat.reduceLeDiff, Nat.reduceMul, Nat.reduceLT, reduceIte, Int.reduceToNat, w64_id, cast_succ, hgp, dd])
      refine SW.condF rfl ?_
      repeat (first | (with_reducible first | refine SW.seq ?_ | refine SW.block ?_ | refine SW.rowC ?_ | refine SW.skip ?_ | refine SW.exit ?_ | intro _ | refine And.intro (by omega) ?_) | simp (config := { maxSteps := 1000000 }) (disch := (first | omega | (simp only [go_sem]; try omega))) only [go_sem, Nat.reduceAdd, Nat.reduceEqDiff, Nat.reduceLeDiff, Nat.reduceMul, Nat.reduceLT, reduceIte, Int.reduceToNat, w64_id, cast_succ, htl])
      have hview : aview (H ++ [(⟨ver + 1, tyLL, 1, (G ++ [p]).map ilS⟩ : Blk), ⟨0, tyLL, 1, [ilS p]⟩]) (.nm H.length (ver + 1) 0 (G.length + 1)) = some ((G ++ [p]).length, (G ++ [p]).map ilS) := by
        have := view_nm (H := H ++ [(⟨ver + 1, tyLL, 1, (G ++ [p]).map ilS⟩ : Blk), ⟨0, tyLL, 1, [ilS p]⟩]) (r := H.length) (ver := ver + 1) (ty := tyLL) (cells := (G ++ [p]).map ilS) (n := G.length + 1) (by simp) (by simp)
        rw [this]; simp
      refine ACalls.fn (closure_ok _ n _ (G ++ [p]) hn1 hn hview hgo (by simp; omega)) ?_
      have hG' : (∀ g ∈ G ++ [p], g ∈ pre ++ [p]) ∧ (G ++ [p]).length ≤ (pre ++ [p]).length := by
        refine ⟨fun g hg => ?_, by simp; omega⟩
        rcases List.mem_append.1 hg with h | h
        · exact List.mem_append_left _ (hGp g h)
        · exact List.mem_append_right _ h
      cases hgn : genL n (G ++ [p]) 720 with
      | none =>
        simp only [closAV]
        repeat (first | (with_reducible first | refine SW.seq ?_ | refine SW.block ?_ | refine SW.rowC ?_ | refine SW.skip ?_ | refine SW.exit ?_ | intro _ | refine And.intro (by omega) ?_) | simp (config := { maxSteps := 1000000 }) (disch := (first | omega | (simp only [go_sem]; try omega))) only [go_sem, Nat.reduceAdd, Nat.reduceEqDiff, Nat.reduceLeDiff, Nat.reduceMul, Nat.reduceLT, reduceIte, Int.reduceToNat, w64_id, cast_succ])
        refine SLoop.nextT 1 post.length hB (by omega) (by simp) (by simp) ?_ ?_ ⟨pre ++ [p], post, G ++ [p], [], ver + 1, false, by simp [hpp], rfl, by simp [go_sem], rfl, hG'.1, hG'.2, hgn, by simp, by simp⟩
        · (simp only [go_sem, Nat.reduceAdd, Nat.reduceEqDiff, reduceIte, go_sem, and_self, and_true, true_and, implies_true, List.take_succ_cons, List.take_zero, and_true, true_and]; try omega)
        · simp only [List.take_succ_cons, List.take_zero, BB_cons, BB_nil, and_true]
          exact hGB _
      | some A2 =>
        have hGL2 := (genL_inv hgn).1
        simp only [closAV]
        repeat (first | (with_reducible first | refine SW.seq ?_ | refine SW.block ?_ | refine SW.rowC ?_ | refine SW.skip ?_ | refine SW.exit ?_ | intro _ | refine And.intro (by omega) ?_) | simp (config := { maxSteps := 1000000 }) (disch := (first | omega | (simp only [go_sem]; try omega))) only [go_sem, Nat.reduceAdd, Nat.reduceEqDiff, Nat.reduceLeDiff, Nat.reduceMul, Nat.reduceLT, reduceIte, Int.reduceToNat, w64_id, cast_succ])
        refine SLoop.nextT 1 post.length hB (by omega) (by simp) (by simp) ?_ ?_ ⟨pre ++ [p], post, G ++ [p], A2, ver + 1, true, by simp [hpp], rfl, by simp [go_sem], rfl, hG'.1, hG'.2, hgn, fun _ q hq => ?_, by simp⟩
        · (simp only [go_sem, Nat.reduceAdd, Nat.reduceEqDiff, reduceIte, go_sem, and_self, and_true, true_and, implies_true, List.take_succ_cons, List.take_zero, and_true, true_and]; try omega)
        · simp only [List.take_succ_cons, List.take_zero, BB_cons, BB_nil, and_true]
          exact hGB _
        · rw [hGL2.2]
          rcases List.mem_append.1 hq with h | h
          · exact Gen.mono (fun g hg => List.mem_append_left _ hg) ((hGL.2 q).1 (hAp rfl q h))
          · rw [List.mem_singleton.1 h]; exact Gen.gen hpo (by simp)
  · obtain ⟨rfl, rfl⟩ := nilOf hpp (by omega)
    repeat (first | (with_reducible first | refine SW.seq ?_ | refine SW.block ?_ | refine SW.rowC ?_ | refine SW.skip ?_ | refine SW.exit ?_ | intro _ | refine And.intro (by omega) ?_) | simp (config := { maxSteps := 1000000 }) (disch := (first | omega | (simp only [go_sem]; try omega))) only [go_sem, Nat.reduceAdd, Nat.reduceEqDiff, Nat.reduceLeDiff, Nat.reduceMul, Nat.reduceLT, reduceIte, Int.reduceToNat, w64_id, cast_succ])
    refine SW.ret ?_; (try simp only [go_sem]); (first | refine FunPost.one ?_ | refine FunPost.two ?_ | refine FunPost.three ?_); (try simp (config := { maxSteps := 1000000 }) (disch := (first | omega | (simp only [go_sem]; try omega))) only [go_sem, Nat.reduceAdd, Nat.reduceEqDiff, Nat.reduceLeDiff, Nat.reduceMul, Nat.reduceLT, reduceIte, Int.reduceToNat, w64_id, cast_succ])
    refine GR.froz (r' := .tup [ilSS G, ilSS A, Bv okb]) (.tup _ _ rfl ?_) ⟨G, A, okb, rfl, hGp, hgl, hAp, rfl⟩
    intro j c c' h1 h2
    match j with
    | 0 => simp at h1 h2; subst h1; subst h2; exact froz_rowsS (ver := ver) (ty := tyLL) (by omega) (by simp)
    | 1 => simp at h1 h2; subst h1; subst h2; exact .old _ (by rw [Bel_ilSS]; trivial)
    | 2 => simp at h1 h2; subst h1; subst h2; exact .old _ (.lit _)
    | j + 3 => simp at h1

theorem ascL_snoc {A : Type} {cf : A → A → Int} (h : TotC cf) {l : List A} {x : A} (hl : l.Pairwise fun a b => cf a b < 0) : (l ++ [x]).Pairwise (fun a b => cf a b < 0) ↔ ∀ (y : A), l.getLast? = some y → cf y x < 0 := by
  rw [List.pairwise_append]
  constructor
  · rintro ⟨-, -, h3⟩ y hy
    exact h3 y (List.mem_of_getLast? hy) x (by simp)
  · intro hy
    refine ⟨hl, by simp, fun a ha b hb => ?_⟩
    rw [List.mem_singleton.1 hb]
    rcases List.eq_nil_or_concat l with rfl | ⟨l', z, rfl⟩
    · simp at ha
    · rw [List.concat_eq_append] at hy hl ha
      have hz := hy z (by simp)
      rcases List.mem_append.1 ha with ha | ha
      · exact h.trans _ _ _ ((List.pairwise_append.1 hl).2.2 a ha z (by simp)) hz
      · rw [List.mem_singleton.1 ha]; exact hz
theorem permB_ok {n : Int} {p : List Int} (h0 : 1 ≤ n) (h : (p.length : Int) = n ∧ permB p = true) : permOk n.toNat p := by
  obtain ⟨h1, h2⟩ := h
  unfold permB at h2
  simp only [Bool.and_eq_true, decide_eq_true_eq] at h2
  refine ⟨by omega, h2.2.2, fun x hx => ?_⟩
  have := h2.2.1 x hx
  omega
theorem permOk_B {n : Int} {p : List Int} (h0 : 1 ≤ n) (h32 : n ≤ 32) (h : permOk n.toNat p) : (p.length : Int) = n ∧ permB p = true := by
  have h1 := h.1
  refine ⟨by omega, ?_⟩
  unfold permB
  rw [decide_eq_true (by omega), Bool.true_and, decide_eq_true]
  refine ⟨fun x hx => ?_, h.2.1⟩
  have := h.2.2 x hx
  omega
theorem permsB {n : Int} {els : List (List Int)} (h0 : 1 ≤ n) (h32 : n ≤ 32) : (els.all fun p => decide ((p.length : Int) = n) && permB p) = true ↔ ∀ p ∈ els, permOk n.toNat p := by
  rw [List.all_eq_true]
  constructor
  · intro h p hp
    have := h p hp
    rw [Bool.and_eq_true, decide_eq_true_eq] at this
    exact permB_ok h0 this
  · intro h p hp
    have := permOk_B h0 h32 (h p hp)
    rw [Bool.and_eq_true, decide_eq_true_eq]
    exact this
theorem ValidGroup_fn (n : Int) (els : List (List Int)) (hl : ∀ x ∈ els, x.length ≤ 2000000) (hl2 : els.length ≤ 2000000) : PFn Try.prog f_impl_ValidGroup [.agg [I n, ilSS els]] (Bv (grpB n els)) := by
  have hap := arePermutations_fn n els hl
  have hw := within_fn n 1 32
  by_cases c1 : 1 ≤ n ∧ n ≤ 32
  rotate_left
  · have hF : grpB n els = false := grpB_f.2 fun h => c1 h.1
    rw [show (decide (1 ≤ n) && decide (n ≤ 32)) = false by rw [Bool.and_eq_false_iff, decide_eq_false_iff_not, decide_eq_false_iff_not]; omega] at hw
    intro H; refine ACalls.introB s_impl_ValidGroup (by simp) ?_; intro hB hA; unfold c_impl_ValidGroup; simp (config := { maxSteps := 1000000 }) (disch := (first | omega | (simp only [go_sem]; try omega))) only [go_sem, Nat.reduceAdd, Nat.reduceEqDiff, Nat.reduceLeDiff, Nat.reduceMul, Nat.reduceLT, reduceIte, Int.reduceToNat, w64_id, cast_succ]
    repeat (first | (with_reducible first | refine SW.seq ?_ | refine SW.block ?_ | refine SW.rowC ?_ | refine SW.skip ?_ | refine SW.exit ?_ | refine PFn.use (hw) ?_ | refine PFn.useq (hw) ?_ | intro _ | refine And.intro (by omega) ?_) | simp (config := { maxSteps := 1000000 }) (disch := (first | omega | (simp only [go_sem]; try omega))) only [go_sem, Nat.reduceAdd, Nat.reduceEqDiff, Nat.reduceLeDiff, Nat.reduceMul, Nat.reduceLT, reduceIte, Int.reduceToNat, w64_id, cast_succ])
    refine SW.condT rfl ?_
    repeat (first | (with_reducible first | refine SW.seq ?_ | refine SW.block ?_ | refine SW.rowC ?_ | refine SW.skip ?_ | refine SW.exit ?_ | intro _ | refine And.intro (by omega) ?_) | simp (config := { maxSteps := 1000000 }) (disch := (first | omega | (simp only [go_sem]; try omega))) only [go_sem, Nat.reduceAdd, Nat.reduceEqDiff, Nat.reduceLeDiff, Nat.reduceMul, Nat.reduceLT, reduceIte, Int.reduceToNat, w64_id, cast_succ])
    refine SW.ret ?_; (try simp only [go_sem]); (first | refine FunPost.one ?_ | refine FunPost.two ?_ | refine FunPost.three ?_); (try simp (config := { maxSteps := 1000000 }) (disch := (first | omega | (simp only [go_sem]; try omega))) only [go_sem, Nat.reduceAdd, Nat.reduceEqDiff, Nat.reduceLeDiff, Nat.reduceMul, Nat.reduceLT, reduceIte, Int.reduceToNat, w64_id, cast_succ]); (first | (with_reducible refine GR.drop ?_ ?_; (simp only [go_sem, and_self, and_true, true_and, implies_true, List.take_succ_cons, List.take_zero])) | refine GR.of ?_); refine ⟨?_, rfl⟩; (try with_reducible rfl)
    rw [hF]
  rw [show (decide (1 ≤ n) && decide (n ≤ 32)) = true by rw [Bool.and_eq_true, decide_eq_true_eq, decide_eq_true_eq]; omega] at hw
  by_cases c2 : 1 ≤ els.length
  rotate_left
  · have hF : grpB n els = false := grpB_f.2 fun h => c2 h.2.1.1
    have d2 : decide ((els.length : Int) < 1) = true := decide_eq_true (by omega)
    intro H; refine ACalls.introB s_impl_ValidGroup (by simp) ?_; intro hB hA; unfold c_impl_ValidGroup; simp (config := { maxSteps := 1000000 }) (disch := (first | omega | (simp only [go_sem]; try omega))) only [go_sem, Nat.reduceAdd, Nat.reduceEqDiff, Nat.reduceLeDiff, Nat.reduceMul, Nat.reduceLT, reduceIte, Int.reduceToNat, w64_id, cast_succ]
    repeat (first | (with_reducible first | refine SW.seq ?_ | refine SW.block ?_ | refine SW.rowC ?_ | refine SW.skip ?_ | refine SW.exit ?_ | refine PFn.use (hw) ?_ | refine PFn.useq (hw) ?_ | intro _ | refine And.intro (by omega) ?_) | simp (config := { maxSteps := 1000000 }) (disch := (first | omega | (simp only [go_sem]; try omega))) only [go_sem, Nat.reduceAdd, Nat.reduceEqDiff, Nat.reduceLeDiff, Nat.reduceMul, Nat.reduceLT, reduceIte, Int.reduceToNat, w64_id, cast_succ, d2])
    refine SW.condT rfl ?_
    repeat (first | (with_reducible first | refine SW.seq ?_ | refine SW.block ?_ | refine SW.rowC ?_ | refine SW.skip ?_ | refine SW.exit ?_ | intro _ | refine And.intro (by omega) ?_) | simp (config := { maxSteps := 1000000 }) (disch := (first | omega | (simp only [go_sem]; try omega))) only [go_sem, Nat.reduceAdd, Nat.reduceEqDiff, Nat.reduceLeDiff, Nat.reduceMul, Nat.reduceLT, reduceIte, Int.reduceToNat, w64_id, cast_succ])
    refine SW.ret ?_; (try simp only [go_sem]); (first | refine FunPost.one ?_ | refine FunPost.two ?_ | refine FunPost.three ?_); (try simp (config := { maxSteps := 1000000 }) (disch := (first | omega | (simp only [go_sem]; try omega))) only [go_sem, Nat.reduceAdd, Nat.reduceEqDiff, Nat.reduceLeDiff, Nat.reduceMul, Nat.reduceLT, reduceIte, Int.reduceToNat, w64_id, cast_succ]); (first | (with_reducible refine GR.drop ?_ ?_; (simp only [go_sem, and_self, and_true, true_and, implies_true, List.take_succ_cons, List.take_zero])) | refine GR.of ?_); refine ⟨?_, rfl⟩; (try with_reducible rfl)
    rw [hF]
  have d2 : decide ((els.length : Int) < 1) = false := decide_eq_false (by omega)
  by_cases c3 : els.length ≤ 720
  rotate_left
  · have hF : grpB n els = false := grpB_f.2 fun h => c3 h.2.1.2
    have d3 : decide ((720 : Int) < (els.length : Int)) = true := decide_eq_true (by omega)
    intro H; refine ACalls.introB s_impl_ValidGroup (by simp) ?_; intro hB hA; unfold c_impl_ValidGroup; simp (config := { maxSteps := 1000000 }) (disch := (first | omega | (simp only [go_sem]; try omega))) only [go_sem, Nat.reduceAdd, Nat.reduceEqDiff, Nat.reduceLeDiff, Nat.reduceMul, Nat.reduceLT, reduceIte, Int.reduceToNat, w64_id, cast_succ]
    repeat (first | (with_reducible first | refine SW.seq ?_ | refine SW.block ?_ | refine SW.rowC ?_ | refine SW.skip ?_ | refine SW.exit ?_ | refine PFn.use (hw) ?_ | refine PFn.useq (hw) ?_ | intro _ | refine And.intro (by omega) ?_) | simp (config := { maxSteps := 1000000 }) (disch := (first | omega | (simp only [go_sem]; try omega))) only [go_sem, Nat.reduceAdd, Nat.reduceEqDiff, Nat.reduceLeDiff, Nat.reduceMul, Nat.reduceLT, reduceIte, Int.reduceToNat, w64_id, cast_succ, d2, d3])
    refine SW.condT rfl ?_
    repeat (first | (with_reducible first | refine SW.seq ?_ | refine SW.block ?_ | refine SW.rowC ?_ | refine SW.skip ?_ | refine SW.exit ?_ | intro _ | refine And.intro (by omega) ?_) | simp (config := { maxSteps := 1000000 }) (disch := (first | omega | (simp only [go_sem]; try omega))) only [go_sem, Nat.reduceAdd, Nat.reduceEqDiff, Nat.reduceLeDiff, Nat.reduceMul, Nat.reduceLT, reduceIte, Int.reduceToNat, w64_id, cast_succ])
    refine SW.ret ?_; (try simp only [go_sem]); (first | refine FunPost.one ?_ | refine FunPost.two ?_ | refine FunPost.three ?_); (try simp (config := { maxSteps := 1000000 }) (disch := (first | omega | (simp only [go_sem]; try omega))) only [go_sem, Nat.reduceAdd, Nat.reduceEqDiff, Nat.reduceLeDiff, Nat.reduceMul, Nat.reduceLT, reduceIte, Int.reduceToNat, w64_id, cast_succ]); (first | (with_reducible refine GR.drop ?_ ?_; (simp only [go_sem, and_self, and_true, true_and, implies_true, List.take_succ_cons, List.take_zero])) | refine GR.of ?_); refine ⟨?_, rfl⟩; (try with_reducible rfl)
    rw [hF]
  have d3 : decide ((720 : Int) < (els.length : Int)) = false := decide_eq_false (by omega)
  by_cases c4 : ∀ p ∈ els, permOk n.toNat p
  rotate_left
  · have hF : grpB n els = false := grpB_f.2 fun h => c4 h.2.2.1
    rw [show (els.all fun p => decide ((p.length : Int) = n) && permB p) = false by rw [Bool.eq_false_iff]; exact fun h => c4 ((permsB c1.1 c1.2).1 h)] at hap
    intro H; refine ACalls.introB s_impl_ValidGroup (by simp) ?_; intro hB hA; unfold c_impl_ValidGroup; simp (config := { maxSteps := 1000000 }) (disch := (first | omega | (simp only [go_sem]; try omega))) only [go_sem, Nat.reduceAdd, Nat.reduceEqDiff, Nat.reduceLeDiff, Nat.reduceMul, Nat.reduceLT, reduceIte, Int.reduceToNat, w64_id, cast_succ]
    repeat (first | (with_reducible first | refine SW.seq ?_ | refine SW.block ?_ | refine SW.rowC ?_ | refine SW.skip ?_ | refine SW.exit ?_ | refine PFn.use (hw) ?_ | refine PFn.useq (hw) ?_ | refine PFn.use (hap) ?_ | refine PFn.useq (hap) ?_ | intro _ | refine And.intro (by omega) ?_) | simp (config := { maxSteps := 1000000 }) (disch := (first | omega | (simp only [go_sem]; try omega))) only [go_sem, Nat.reduceAdd, Nat.reduceEqDiff, Nat.reduceLeDiff, Nat.reduceMul, Nat.reduceLT, reduceIte, Int.reduceToNat, w64_id, cast_succ, d2, d3])
    refine SW.condT rfl ?_
    repeat (first | (with_reducible first | refine SW.seq ?_ | refine SW.block ?_ | refine SW.rowC ?_ | refine SW.skip ?_ | refine SW.exit ?_ | intro _ | refine And.intro (by omega) ?_) | simp (config := { maxSteps := 1000000 }) (disch := (first | omega | (simp only [go_sem]; try omega))) only [go_sem, Nat.reduceAdd, Nat.reduceEqDiff, Nat.reduceLeDiff, Nat.reduceMul, Nat.reduceLT, reduceIte, Int.reduceToNat, w64_id, cast_succ])
    refine SW.ret ?_; (try simp only [go_sem]); (first | refine FunPost.one ?_ | refine FunPost.two ?_ | refine FunPost.three ?_); (try simp (config := { maxSteps := 1000000 }) (disch := (first | omega | (simp only [go_sem]; try omega))) only [go_sem, Nat.reduceAdd, Nat.reduceEqDiff, Nat.reduceLeDiff, Nat.reduceMul, Nat.reduceLT, reduceIte, Int.reduceToNat, w64_id, cast_succ]); (first | (with_reducible refine GR.drop ?_ ?_; (simp only [go_sem, and_self, and_true, true_and, implies_true, List.take_succ_cons, List.take_zero])) | refine GR.of ?_); refine ⟨?_, rfl⟩; (try with_reducible rfl)
    rw [hF]
  rw [(permsB c1.1 c1.2).2 c4] at hap
  intro H; refine ACalls.introB s_impl_ValidGroup (by simp) ?_; intro hB hA; unfold c_impl_ValidGroup; simp (config := { maxSteps := 1000000 }) (disch := (first | omega | (simp only [go_sem]; try omega))) only [go_sem, Nat.reduceAdd, Nat.reduceEqDiff, Nat.reduceLeDiff, Nat.reduceMul, Nat.reduceLT, reduceIte, Int.reduceToNat, w64_id, cast_succ]
  repeat (first | (with_reducible first | refine SW.seq ?_ | refine SW.block ?_ | refine SW.rowC ?_ | refine SW.skip ?_ | refine SW.exit ?_ | refine PFn.use (hw) ?_ | refine PFn.useq (hw) ?_ | refine PFn.use (hap) ?_ | refine PFn.useq (hap) ?_ | intro _ | refine And.intro (by omega) ?_) | simp (config := { maxSteps := 1000000 }) (disch := (first | omega | (simp only [go_sem]; try omega))) only [go_sem, Nat.reduceAdd, Nat.reduceEqDiff, Nat.reduceLeDiff, Nat.reduceMul, Nat.reduceLT, reduceIte, Int.reduceToNat, w64_id, cast_succ, d2, d3])
  refine SW.condF rfl ?_
  repeat (first | (with_reducible first | refine SW.seq ?_ | refine SW.block ?_ | refine SW.rowC ?_ | refine SW.skip ?_ | refine SW.exit ?_ | intro _ | refine And.intro (by omega) ?_) | simp (config := { maxSteps := 1000000 }) (disch := (first | omega | (simp only [go_sem]; try omega))) only [go_sem, Nat.reduceAdd, Nat.reduceEqDiff, Nat.reduceLeDiff, Nat.reduceMul, Nat.reduceLT, reduceIte, Int.reduceToNat, w64_id, cast_succ])
  refine SW.loopE (fun E0 H0 q E' H' => ∃ k : Nat, 1 ≤ k ∧ k ≤ els.length ∧ q = els.length - k ∧ E' = aput E0 3 (I k) ∧ H' = H0 ∧ Asc cmpL (els.take k)) (els.length - 1) ⟨1, by omega, by omega, rfl, rfl, rfl, ?_⟩ ?_
  · rw [List.take_one]
    cases els <;> simp [Asc]
  rintro q E' H' ⟨k, hk1, hkl, rfl, rfl, rfl, hasc⟩
  simp (config := { maxSteps := 1000000 }) (disch := (first | omega | (simp only [go_sem]; try omega))) only [go_sem, Nat.reduceAdd, Nat.reduceEqDiff, Nat.reduceLeDiff, Nat.reduceMul, Nat.reduceLT, reduceIte, Int.reduceToNat, w64_id, cast_succ]
  repeat (first | (with_reducible first | refine SW.seq ?_ | refine SW.block ?_ | refine SW.rowC ?_ | refine SW.skip ?_ | refine SW.exit ?_ | intro _ | refine And.intro (by omega) ?_) | simp (config := { maxSteps := 1000000 }) (disch := (first | omega | (simp only [go_sem]; try omega))) only [go_sem, Nat.reduceAdd, Nat.reduceEqDiff, Nat.reduceLeDiff, Nat.reduceMul, Nat.reduceLT, reduceIte, Int.reduceToNat, w64_id, cast_succ])
  (first | refine SW.condD rfl (fun h2 => ?_) (fun h2 => ?_) | refine SW.condN rfl (fun h2 => ?_) (fun h2 => ?_) | refine SW.condNB rfl (fun h2 => ?_) (fun h2 => ?_) | refine SW.condB rfl (fun h2 => ?_) (fun h2 => ?_))
  · have hklt : k < els.length := by omega
    have e1 : (k : Int) - 1 = ((k - 1 : Nat) : Int) := by omega
    have hcf := slicesCompare_fn (els.getD (k - 1) []) (els.getD k [])
    have hgk : els.getD k [] = els[k] := by rw [List.getD_eq_getElem?_getD, List.getElem?_eq_getElem hklt]; rfl
    have hgk1 : els.getD (k - 1) [] = els[k - 1] := by rw [List.getD_eq_getElem?_getD, List.getElem?_eq_getElem (by omega)]; rfl
    by_cases hc : cmpL (els.getD (k - 1) []) (els.getD k []) < 0
    · have dd : decide (0 ≤ cmpL (els.getD (k - 1) []) (els.getD k [])) = false := decide_eq_false (by omega)
      repeat (first | (with_reducible first | refine SW.seq ?_ | refine SW.block ?_ | refine SW.rowC ?_ | refine SW.skip ?_ | refine SW.exit ?_ | refine PFn.use (hcf) ?_ | refine PFn.useq (hcf) ?_ | intro _ | refine And.intro (by omega) ?_) | simp (config := { maxSteps := 1000000 }) (disch := (first | omega | (simp only [go_sem]; try omega))) only [go_sem, Nat.reduceAdd, Nat.reduceEqDiff, Nat.reduceLeDiff, Nat.reduceMul, Nat.reduceLT, reduceIte, Int.reduceToNat, w64_id, cast_succ, e1, dd])
      refine SW.condF rfl ?_
      repeat (first | (with_reducible first | refine SW.seq ?_ | refine SW.block ?_ | refine SW.rowC ?_ | refine SW.skip ?_ | refine SW.exit ?_ | intro _ | refine And.intro (by omega) ?_) | simp (config := { maxSteps := 1000000 }) (disch := (first | omega | (simp only [go_sem]; try omega))) only [go_sem, Nat.reduceAdd, Nat.reduceEqDiff, Nat.reduceLeDiff, Nat.reduceMul, Nat.reduceLT, reduceIte, Int.reduceToNat, w64_id, cast_succ])
      refine SLoop.next (els.length - (k + 1)) (by omega) ⟨k + 1, by omega, by omega, rfl, by simp [go_sem], rfl, ?_⟩
      rw [List.take_add_one, List.getElem?_eq_getElem hklt]
      have hlast : (els.take k).getLast? = some els[k - 1] := by
        rw [List.getLast?_eq_getElem?, List.length_take, Nat.min_eq_left hkl, List.getElem?_take_of_lt (by omega), List.getElem?_eq_getElem (by omega)]
      refine (ascL_snoc cmpL_tot hasc).2 fun y hy => ?_
      rw [hlast] at hy
      cases hy
      rw [← hgk1, ← hgk]; exact hc
    · have dd : decide (0 ≤ cmpL (els.getD (k - 1) []) (els.getD k [])) = true := decide_eq_true (by omega)
      have hF : grpB n els = false := grpB_f.2 fun h => by
        have := List.pairwise_iff_getElem.1 h.2.2.2.1 (k - 1) k (by omega) hklt (by omega)
        rw [← hgk, ← hgk1] at this
        exact hc this
      repeat (first | (with_reducible first | refine SW.seq ?_ | refine SW.block ?_ | refine SW.rowC ?_ | refine SW.skip ?_ | refine SW.exit ?_ | refine PFn.use (hcf) ?_ | refine PFn.useq (hcf) ?_ | intro _ | refine And.intro (by omega) ?_) | simp (config := { maxSteps := 1000000 }) (disch := (first | omega | (simp only [go_sem]; try omega))) only [go_sem, Nat.reduceAdd, Nat.reduceEqDiff, Nat.reduceLeDiff, Nat.reduceMul, Nat.reduceLT, reduceIte, Int.reduceToNat, w64_id, cast_succ, e1, dd])
      refine SW.condT rfl ?_
      repeat (first | (with_reducible first | refine SW.seq ?_ | refine SW.block ?_ | refine SW.rowC ?_ | refine SW.skip ?_ | refine SW.exit ?_ | intro _ | refine And.intro (by omega) ?_) | simp (config := { maxSteps := 1000000 }) (disch := (first | omega | (simp only [go_sem]; try omega))) only [go_sem, Nat.reduceAdd, Nat.reduceEqDiff, Nat.reduceLeDiff, Nat.reduceMul, Nat.reduceLT, reduceIte, Int.reduceToNat, w64_id, cast_succ])
      refine SW.ret ?_; (try simp only [go_sem]); (first | refine FunPost.one ?_ | refine FunPost.two ?_ | refine FunPost.three ?_); (try simp (config := { maxSteps := 1000000 }) (disch := (first | omega | (simp only [go_sem]; try omega))) only [go_sem, Nat.reduceAdd, Nat.reduceEqDiff, Nat.reduceLeDiff, Nat.reduceMul, Nat.reduceLT, reduceIte, Int.reduceToNat, w64_id, cast_succ]); (first | (with_reducible refine GR.drop ?_ ?_; (simp only [go_sem, and_self, and_true, true_and, implies_true, List.take_succ_cons, List.take_zero])) | refine GR.of ?_); refine ⟨?_, rfl⟩; (try with_reducible rfl)
      rw [hF]
  · have : k = els.length := by omega
    subst this
    rw [List.take_length] at hasc
    have en : n = ((n.toNat : Nat) : Int) := by omega
    have hch := fun H => chosen_ok H n.toNat els (by omega) (by omega) c4 c3
    rw [← en] at hch
    repeat (first | (with_reducible first | refine SW.seq ?_ | refine SW.block ?_ | refine SW.rowC ?_ | refine SW.skip ?_ | refine SW.exit ?_ | intro _ | refine And.intro (by omega) ?_) | simp (config := { maxSteps := 1000000 }) (disch := (first | omega | (simp only [go_sem]; try omega))) only [go_sem, Nat.reduceAdd, Nat.reduceEqDiff, Nat.reduceLeDiff, Nat.reduceMul, Nat.reduceLT, reduceIte, Int.reduceToNat, w64_id, cast_succ])
    refine (hch _).mono ?_
    rintro r H' ⟨G, A, okb, rfl, hG, hgl, hall, rfl⟩
    have hfin : grpB n els = (okb && decide (A.length = els.length)) := by
      cases okb with
      | true =>
        rw [if_pos rfl] at hgl
        have hGL := (genL_inv hgl).1
        have hci := closed_iff c4 hasc hG hGL (hall rfl)
        rw [Bool.true_and, Bool.eq_iff_iff, grpB_t, decide_eq_true_eq, ← hci]
        exact ⟨fun h => h.2.2.2.2, fun h => ⟨c1, ⟨c2, c3⟩, c4, hasc, h⟩⟩
      | false =>
        rw [if_neg (by simp)] at hgl
        rw [Bool.false_and, grpB_f]
        intro h
        obtain ⟨L, hL, _⟩ := closed_small h.2.2.2.2 hasc hG c3
        rw [hgl] at hL; cases hL
    rw [hfin]
    cases okb with
    | true =>
      have hd : decide (((A.length : Nat) : Int) = ((els.length : Nat) : Int)) = decide (A.length = els.length) := decide_eq_decide.2 (by omega)
      repeat (first | (with_reducible first | refine SW.seq ?_ | refine SW.block ?_ | refine SW.rowC ?_ | refine SW.skip ?_ | refine SW.exit ?_ | intro _ | refine And.intro (by omega) ?_) | simp (config := { maxSteps := 1000000 }) (disch := (first | omega | (simp only [go_sem]; try omega))) only [go_sem, Nat.reduceAdd, Nat.reduceEqDiff, Nat.reduceLeDiff, Nat.reduceMul, Nat.reduceLT, reduceIte, Int.reduceToNat, w64_id, cast_succ, hd])
      refine SW.ret ?_; (try simp only [go_sem]); (first | refine FunPost.one ?_ | refine FunPost.two ?_ | refine FunPost.three ?_); (try simp (config := { maxSteps := 1000000 }) (disch := (first | omega | (simp only [go_sem]; try omega))) only [go_sem, Nat.reduceAdd, Nat.reduceEqDiff, Nat.reduceLeDiff, Nat.reduceMul, Nat.reduceLT, reduceIte, Int.reduceToNat, w64_id, cast_succ]); (first | (with_reducible refine GR.drop ?_ ?_; (simp only [go_sem, and_self, and_true, true_and, implies_true, List.take_succ_cons, List.take_zero])) | refine GR.of ?_); refine ⟨?_, rfl⟩; (try with_reducible rfl)
    | false =>
      repeat (first | (with_reducible first | refine SW.seq ?_ | refine SW.block ?_ | refine SW.rowC ?_ | refine SW.skip ?_ | refine SW.exit ?_ | intro _ | refine And.intro (by omega) ?_) | simp (config := { maxSteps := 1000000 }) (disch := (first | omega | (simp only [go_sem]; try omega))) only [go_sem, Nat.reduceAdd, Nat.reduceEqDiff, Nat.reduceLeDiff, Nat.reduceMul, Nat.reduceLT, reduceIte, Int.reduceToNat, w64_id, cast_succ])
      refine SW.ret ?_; (try simp only [go_sem]); (first | refine FunPost.one ?_ | refine FunPost.two ?_ | refine FunPost.three ?_); (try simp (config := { maxSteps := 1000000 }) (disch := (first | omega | (simp only [go_sem]; try omega))) only [go_sem, Nat.reduceAdd, Nat.reduceEqDiff, Nat.reduceLeDiff, Nat.reduceMul, Nat.reduceLT, reduceIte, Int.reduceToNat, w64_id, cast_succ]); (first | (with_reducible refine GR.drop ?_ ?_; (simp only [go_sem, and_self, and_true, true_and, implies_true, List.take_succ_cons, List.take_zero])) | refine GR.of ?_); refine ⟨?_, rfl⟩; (try with_reducible rfl)
end Go.Proofs.Ytkifdjjnbplghaa
