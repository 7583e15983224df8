/- Incidences of orbits: the law. -/
import Derived.Test.YthogadbnddmkdaaGreatProg
import Derived.KernelRfl
import Derived.Test.YthogadbnddmkdaaGreatzTC
import Derived.Test.YthogadbnddmkdaaGreatzYF
import Derived.Test.YthogadbnddmkdaaGreatzJ8
set_option linter.unusedSimpArgs false
set_option linter.unusedVariables false
set_option maxHeartbeats 4000000
set_option maxRecDepth 100000
namespace Go.Proofs.YthogadbnddmkdaaGreat
open Go.Av
abbrev f_laws_FnIncidences : Nat := 6
def c_laws_FnIncidences : SC :=
 .seq (.reg [
     ⟨(some 4), .mv (.const (.bool false)), none⟩] [0, 1])
 (.seq (.seq (.reg [
     ⟨(some 17), .mv (.tmp 0), none⟩,
     ⟨(some 18), .call 7 [(.tmp 17)], none⟩,
     ⟨(some 19), .mv (.tmp 18), none⟩,
     ⟨(some 20), .mv (.tmp 1), (some (19, false))⟩,
     ⟨(some 21), .call 7 [(.tmp 20)], (some (19, false))⟩,
     ⟨(some 22), .pick (.tmp 19) (.const (.bool true)) (.tmp 21), none⟩] [0, 1, 22])
 (.cond (.tmp 22)
  (.seq (.reg [
      ⟨(some 4), .mv (.const (.bool true)), none⟩] [4])
  (.ret))
  (.skip)))
 (.seq (.reg [
     ⟨(some 24), .mv (.tmp 0), none⟩,
     ⟨(some 25), .call 30 [(.tmp 24)], none⟩,
     ⟨(some 23), .mv (.tmp 25), none⟩,
     ⟨(some 26), .ext (.tmp 23) 0, none⟩,
     ⟨(some 27), .ext (.tmp 23) 1, none⟩,
     ⟨(some 28), .ext (.tmp 23) 2, none⟩,
     ⟨(some 5), .alloc 44 [(.int .i64 0), (.slice none 0 0)], none⟩,
     ⟨none, .store 2 (.tmp 5) (.tmp 26), none⟩,
     ⟨(some 6), .mv (.tmp 27), none⟩,
     ⟨(some 7), .mv (.tmp 28), none⟩] [1, 5, 6, 7])
 (.seq (.reg [
     ⟨(some 30), .load 2 true (.tmp 5), none⟩,
     ⟨(some 31), .mv (.tmp 6), none⟩,
     ⟨(some 32), .mv (.tmp 7), none⟩,
     ⟨(some 33), .call 31 [(.tmp 30), (.tmp 31), (.tmp 32)], none⟩,
     ⟨(some 29), .mv (.tmp 33), none⟩,
     ⟨(some 34), .ext (.tmp 29) 0, none⟩,
     ⟨(some 35), .ext (.tmp 29) 1, none⟩,
     ⟨(some 8), .mv (.tmp 34), none⟩,
     ⟨(some 9), .mv (.tmp 35), none⟩] [1, 5, 6, 7, 8, 9])
 (.seq (.seq (.reg [
     ⟨(some 36), .mv (.tmp 9), none⟩,
     ⟨(some 37), .bin .neq (.tmp 36) (.const (.int .i64 0)), none⟩] [1, 5, 6, 7, 8, 37])
 (.cond (.tmp 37)
  (.seq (.reg [
      ⟨(some 38), .mv (.tmp 8), none⟩,
      ⟨(some 39), .len (.tmp 38), none⟩,
      ⟨(some 40), .bin .eql (.tmp 39) (.const (.int .i64 0)), none⟩,
      ⟨(some 4), .mv (.tmp 40), none⟩] [4])
  (.ret))
  (.skip)))
 (.seq (.reg [
     ⟨(some 42), .load 2 true (.tmp 5), none⟩,
     ⟨(some 43), .mv (.tmp 6), none⟩,
     ⟨(some 44), .call 21 [(.tmp 42), (.tmp 43)], none⟩,
     ⟨(some 41), .mv (.tmp 44), none⟩,
     ⟨(some 45), .ext (.tmp 41) 0, none⟩,
     ⟨(some 46), .ext (.tmp 41) 1, none⟩,
     ⟨(some 10), .mv (.tmp 45), none⟩,
     ⟨(some 11), .mv (.tmp 46), none⟩] [1, 5, 6, 7, 8, 10, 11])
 (.seq (.reg [
     ⟨(some 48), .load 2 true (.tmp 5), none⟩,
     ⟨(some 49), .mv (.tmp 7), none⟩,
     ⟨(some 50), .call 21 [(.tmp 48), (.tmp 49)], none⟩,
     ⟨(some 47), .mv (.tmp 50), none⟩,
     ⟨(some 51), .ext (.tmp 47) 0, none⟩,
     ⟨(some 52), .ext (.tmp 47) 1, none⟩,
     ⟨(some 12), .mv (.tmp 51), none⟩,
     ⟨(some 13), .mv (.tmp 52), none⟩] [1, 6, 7, 8, 10, 11, 12, 13])
 (.seq (.seq (.reg [
     ⟨(some 53), .mv (.tmp 11), none⟩,
     ⟨(some 54), .bin .neq (.tmp 53) (.const (.int .i64 0)), none⟩,
     ⟨(some 55), .mv (.tmp 54), none⟩,
     ⟨(some 56), .mv (.tmp 13), (some (55, false))⟩,
     ⟨(some 57), .bin .neq (.tmp 56) (.const (.int .i64 0)), (some (55, false))⟩,
     ⟨(some 58), .pick (.tmp 55) (.const (.bool true)) (.tmp 57), none⟩,
     ⟨(some 59), .mv (.tmp 58), none⟩,
     ⟨(some 60), .mv (.tmp 8), (some (59, false))⟩,
     ⟨(some 61), .len (.tmp 60), (some (59, false))⟩,
     ⟨(some 62), .mv (.tmp 10), (some (59, false))⟩,
     ⟨(some 63), .len (.tmp 62), (some (59, false))⟩,
     ⟨(some 64), .bin .neq (.tmp 61) (.tmp 63), (some (59, false))⟩,
     ⟨(some 65), .pick (.tmp 59) (.const (.bool true)) (.tmp 64), none⟩,
     ⟨(some 66), .mv (.tmp 65), none⟩,
     ⟨(some 67), .mv (.tmp 12), (some (66, false))⟩,
     ⟨(some 68), .len (.tmp 67), (some (66, false))⟩,
     ⟨(some 69), .bin .eql (.tmp 68) (.const (.int .i64 0)), (some (66, false))⟩,
     ⟨(some 70), .pick (.tmp 66) (.const (.bool true)) (.tmp 69), none⟩] [1, 6, 7, 8, 10, 12, 70])
 (.cond (.tmp 70)
  (.seq (.reg [
      ⟨(some 4), .mv (.const (.bool false)), none⟩] [4])
  (.ret))
  (.skip)))
 (.seq (.reg [
     ⟨(some 71), .mv (.tmp 1), none⟩,
     ⟨(some 72), .mv (.tmp 12), none⟩,
     ⟨(some 73), .len (.tmp 72), none⟩,
     ⟨(some 74), .call 25 [(.tmp 71), (.const (.int .i64 0)), (.tmp 73)], none⟩,
     ⟨(some 14), .mv (.tmp 74), none⟩] [6, 7, 8, 10, 12, 14])
 (.seq (.reg [
     ⟨(some 15), .mv (.const (.int .i64 0)), none⟩] [6, 7, 8, 10, 12, 14, 15])
 (.seq (.seq (.reg [
     ⟨(some 16), .mv (.const (.int .i64 0)), none⟩] [6, 7, 8, 10, 12, 14, 15, 16])
 (.block 0 (.loop [6, 7, 8, 10, 12, 14, 15, 16]
   (.seq (.seq (.reg [
       ⟨(some 75), .mv (.tmp 16), none⟩,
       ⟨(some 76), .mv (.tmp 8), none⟩,
       ⟨(some 77), .len (.tmp 76), none⟩,
       ⟨(some 78), .bin .lss (.tmp 75) (.tmp 77), none⟩] [6, 7, 8, 10, 12, 14, 15, 16, 78])
   (.cond (.tmp 78)
    (.skip)
    (.exit 0)))
   (.seq (.block 1 (.seq (.seq (.reg [
        ⟨(some 81), .mv (.tmp 8), none⟩,
        ⟨(some 82), .mv (.tmp 16), none⟩,
        ⟨(some 83), .iaddr 1 (.tmp 81) (.tmp 82), none⟩,
        ⟨(some 84), .load 1 false (.tmp 83), none⟩,
        ⟨(some 85), .len (.tmp 84), none⟩,
        ⟨(some 86), .mv (.tmp 12), none⟩,
        ⟨(some 87), .len (.tmp 86), none⟩,
        ⟨(some 88), .bin .neq (.tmp 85) (.tmp 87), none⟩] [6, 7, 8, 10, 12, 14, 15, 16, 88])
    (.cond (.tmp 88)
     (.seq (.reg [
         ⟨(some 4), .mv (.const (.bool false)), none⟩] [4])
     (.ret))
     (.skip)))
    (.reg [
        ⟨(some 89), .mv (.tmp 15), none⟩,
        ⟨(some 90), .mv (.tmp 10), none⟩,
        ⟨(some 91), .mv (.tmp 16), none⟩,
        ⟨(some 92), .iaddr 1 (.tmp 90) (.tmp 91), none⟩,
        ⟨(some 93), .load 1 false (.tmp 92), none⟩,
        ⟨(some 94), .qlen (.tmp 93), none⟩,
        ⟨(some 95), .mv (.tmp 8), none⟩,
        ⟨(some 96), .mv (.tmp 16), none⟩,
        ⟨(some 97), .iaddr 1 (.tmp 95) (.tmp 96), none⟩,
        ⟨(some 98), .load 1 false (.tmp 97), none⟩,
        ⟨(some 99), .mv (.tmp 14), none⟩,
        ⟨(some 100), .iaddr 1 (.tmp 98) (.tmp 99), none⟩,
        ⟨(some 101), .load 1 false (.tmp 100), none⟩,
        ⟨(some 102), .bin .mul (.tmp 94) (.tmp 101), none⟩,
        ⟨(some 103), .bin .add (.tmp 89) (.tmp 102), none⟩,
        ⟨(some 15), .mv (.tmp 103), none⟩] [6, 7, 8, 10, 12, 14, 15, 16])))
   (.reg [
       ⟨(some 79), .mv (.tmp 16), none⟩,
       ⟨(some 80), .bin .add (.tmp 79) (.const (.int .i64 1)), none⟩,
       ⟨(some 16), .mv (.tmp 80), none⟩] [6, 7, 8, 10, 12, 14, 15, 16]))))))
 (.seq (.reg [
     ⟨(some 104), .mv (.tmp 15), none⟩,
     ⟨(some 105), .mv (.tmp 12), none⟩,
     ⟨(some 106), .mv (.tmp 14), none⟩,
     ⟨(some 107), .iaddr 1 (.tmp 105) (.tmp 106), none⟩,
     ⟨(some 108), .load 1 false (.tmp 107), none⟩,
     ⟨(some 109), .qlen (.tmp 108), none⟩,
     ⟨(some 110), .mv (.tmp 7), none⟩,
     ⟨(some 111), .mv (.tmp 6), none⟩,
     ⟨(some 112), .qcall 24 [(.tmp 110), (.tmp 111)], none⟩,
     ⟨(some 113), .bin .mul (.tmp 109) (.tmp 112), none⟩,
     ⟨(some 114), .bin .eql (.tmp 104) (.tmp 113), none⟩,
     ⟨(some 4), .mv (.tmp 114), none⟩] [4])
 (.ret))))))))))))
theorem s_laws_FnIncidences : stripF Tryz.prog 6 [[0, 1], [0, 1, 22], [4], [1, 5, 6, 7], [1, 5, 6, 7, 8, 9], [1, 5, 6, 7, 8, 37], [4], [1, 5, 6, 7, 8, 10, 11], [1, 6, 7, 8, 10, 11, 12, 13], [1, 6, 7, 8, 10, 12, 70], [4], [6, 7, 8, 10, 12, 14], [6, 7, 8, 10, 12, 14, 15], [6, 7, 8, 10, 12, 14, 15, 16], [6, 7, 8, 10, 12, 14, 15, 16], [6, 7, 8, 10, 12, 14, 15, 16, 78], [6, 7, 8, 10, 12, 14, 15, 16, 88], [4], [6, 7, 8, 10, 12, 14, 15, 16], [6, 7, 8, 10, 12, 14, 15, 16], [4]] = some (c_laws_FnIncidences, [.tmp 4], 115) := by kernel_rfl
theorem b10AtG (H : List Blk) (ns : List Int) (i n : Nat) (hz : ∀ z ∈ ns, 0 ≤ z ∧ z < 256) (hl : ns.length ≤ 2000000) (hi : i ≤ 1000) (h1 : 1 ≤ n) (hn : n ≤ 1000000) :
    ACalls Tryz.prog f_laws_b10At [ilY ns, I i, I n] H (fun r H' => H' = H ∧ ∃ j : Nat, r = I j ∧ j < n) := by
  have fin : ∀ x : Int, 0 ≤ x → ∃ j : Nat, I (x.tmod n) = I j ∧ j < n := fun x h0 => by
    have h3 : x.tmod n = x % n := Int.tmod_eq_emod_of_nonneg h0
    have h4 := Int.emod_nonneg x (show (n : Int) ≠ 0 by omega)
    have h5 := Int.emod_lt_of_pos x (show (0 : Int) < n by omega)
    exact ⟨(x % n).toNat, by rw [h3, Int.toNat_of_nonneg h4], by omega⟩
  have hne : ¬ (n : Int) = 0 := by omega
  refine ACalls.introB s_laws_b10At (by simp) ?_; intro hB hA; unfold c_laws_b10At; simp (config := { maxSteps := 1000000 }) (disch := (first | omega | (simp only [go_sem]; try omega))) only [go_sem, Nat.reduceAdd, Nat.reduceEqDiff, Nat.reduceLeDiff, Nat.reduceMul, Nat.reduceLT, reduceIte, Int.reduceToNat, w64_id, cast_succ]
  repeat (first | (with_reducible first | refine SW.seq ?_ | refine SW.block ?_ | refine SW.rowC ?_ | refine SW.skip ?_ | refine SW.exit ?_ | intro _ | refine And.intro (by omega) ?_) | simp (config := { maxSteps := 1000000 }) (disch := (first | omega | (simp only [go_sem]; try omega))) only [go_sem, Nat.reduceAdd, Nat.reduceEqDiff, Nat.reduceLeDiff, Nat.reduceMul, Nat.reduceLT, reduceIte, Int.reduceToNat, w64_id, cast_succ])
  (first | refine SW.condD rfl (fun h => ?_) (fun h => ?_) | refine SW.condN rfl (fun h => ?_) (fun h => ?_) | refine SW.condNB rfl (fun h => ?_) (fun h => ?_) | refine SW.condB rfl (fun h => ?_) (fun h => ?_))
  · repeat (first | (with_reducible first | refine SW.seq ?_ | refine SW.block ?_ | refine SW.rowC ?_ | refine SW.skip ?_ | refine SW.exit ?_ | intro _ | refine And.intro (by omega) ?_) | simp (config := { maxSteps := 1000000 }) (disch := (first | omega | (simp only [go_sem]; try omega))) only [go_sem, Nat.reduceAdd, Nat.reduceEqDiff, Nat.reduceLeDiff, Nat.reduceMul, Nat.reduceLT, reduceIte, Int.reduceToNat, w64_id, cast_succ])
    refine SW.ret ?_; (try simp only [go_sem]); (first | refine FunPost.one ?_ | refine FunPost.two ?_ | refine FunPost.three ?_); (try simp (config := { maxSteps := 1000000 }) (disch := (first | omega | (simp only [go_sem]; try omega))) only [go_sem, Nat.reduceAdd, Nat.reduceEqDiff, Nat.reduceLeDiff, Nat.reduceMul, Nat.reduceLT, reduceIte, Int.reduceToNat, w64_id, cast_succ])
    exact GR.of ⟨rfl, 0, rfl, by omega⟩
  · repeat (first | (with_reducible first | refine SW.seq ?_ | refine SW.block ?_ | refine SW.rowC ?_ | refine SW.skip ?_ | refine SW.exit ?_ | intro _ | refine And.intro (by omega) ?_) | simp (config := { maxSteps := 1000000 }) (disch := (first | omega | (simp only [go_sem]; try omega))) only [go_sem, Nat.reduceAdd, Nat.reduceEqDiff, Nat.reduceLeDiff, Nat.reduceMul, Nat.reduceLT, reduceIte, Int.reduceToNat, w64_id, cast_succ])
    (first | refine SW.condD rfl (fun h2 => ?_) (fun h2 => ?_) | refine SW.condN rfl (fun h2 => ?_) (fun h2 => ?_) | refine SW.condNB rfl (fun h2 => ?_) (fun h2 => ?_) | refine SW.condB rfl (fun h2 => ?_) (fun h2 => ?_))
    · have hm := hz (ns.getD i 0) (by rw [List.getD_eq_getElem?_getD, List.getElem?_eq_getElem (by omega)]; exact List.getElem_mem _)
      repeat (first | (with_reducible first | refine SW.seq ?_ | refine SW.block ?_ | refine SW.rowC ?_ | refine SW.skip ?_ | refine SW.exit ?_ | intro _ | refine And.intro (by omega) ?_) | simp (config := { maxSteps := 1000000 }) (disch := (first | omega | (simp only [go_sem]; try omega))) only [go_sem, Nat.reduceAdd, Nat.reduceEqDiff, Nat.reduceLeDiff, Nat.reduceMul, Nat.reduceLT, reduceIte, Int.reduceToNat, w64_id, cast_succ, hne])
      refine SW.ret ?_; (try simp only [go_sem]); (first | refine FunPost.one ?_ | refine FunPost.two ?_ | refine FunPost.three ?_); (try simp (config := { maxSteps := 1000000 }) (disch := (first | omega | (simp only [go_sem]; try omega))) only [go_sem, Nat.reduceAdd, Nat.reduceEqDiff, Nat.reduceLeDiff, Nat.reduceMul, Nat.reduceLT, reduceIte, Int.reduceToNat, w64_id, cast_succ])
      exact GR.of ⟨rfl, fin _ (by omega)⟩
    · repeat (first | (with_reducible first | refine SW.seq ?_ | refine SW.block ?_ | refine SW.rowC ?_ | refine SW.skip ?_ | refine SW.exit ?_ | intro _ | refine And.intro (by omega) ?_) | simp (config := { maxSteps := 1000000 }) (disch := (first | omega | (simp only [go_sem]; try omega))) only [go_sem, Nat.reduceAdd, Nat.reduceEqDiff, Nat.reduceLeDiff, Nat.reduceMul, Nat.reduceLT, reduceIte, Int.reduceToNat, w64_id, cast_succ, hne])
      refine SW.ret ?_; (try simp only [go_sem]); (first | refine FunPost.one ?_ | refine FunPost.two ?_ | refine FunPost.three ?_); (try simp (config := { maxSteps := 1000000 }) (disch := (first | omega | (simp only [go_sem]; try omega))) only [go_sem, Nat.reduceAdd, Nat.reduceEqDiff, Nat.reduceLeDiff, Nat.reduceMul, Nat.reduceLT, reduceIte, Int.reduceToNat, w64_id, cast_succ])
      exact GR.of ⟨rfl, fin _ (by omega)⟩
theorem FX.pfn {P : Program} {f : FuncId} {args : List AV} {x3 : List (List (List Int))} {code : Int} (h : FX P f args x3 code) : PFn P f args (.tup [il3 x3, I code]) := by
  intro H
  refine (h H).gr ?_
  rintro r H' ⟨ext, u, rfl, rfl, ho⟩
  exact GR.froz (froz_tup2 (ho.froz (fun i hi => hi.1)) (froz_I' _)) ⟨rfl, rfl⟩
theorem implKM_pfn (n t k : Int) (els : List (List Int)) (hl : ∀ x ∈ els, x.length ≤ 2000000) (hl2 : els.length ≤ 2000000) :
    PFn Tryz.prog f_impl_KramerMesner [.agg [I n, ilSS els], I t, I k] (.tup [ilSS (kmV n els t k), I (kmA n els t k)]) := by
  intro H
  refine (implKM_fss n t k els hl hl2 H).gr ?_
  rintro r H' ⟨ext, u, rfl, rfl, ho⟩
  exact GR.froz (froz_tup2 (ho.froz (fun i hi => hi.1)) (froz_I' _)) ⟨rfl, rfl⟩
theorem orbAll_ne {n k : Nat} {els : List (List Int)} (h : IsG n els) (hk : k ≤ n) : (orbAll n k els).length ≠ 0 := by
  intro h0
  have hm : subsN n k ≠ [] := fun e => by
    have h1 := subsN_len n k
    rw [e] at h1
    have h2 := ch_pos n k hk
    simp at h1; omega
  obtain ⟨S, hS⟩ := List.exists_mem_of_ne_nil _ hm
  obtain ⟨s1, s2⟩ := subsN_mem.1 hS
  obtain ⟨O, hO, -⟩ := orbAll_in h s1 s2
  rw [List.eq_nil_of_length_eq_zero h0] at hO
  simp at hO
theorem lawFnIncidences_ok (H : List Blk) (ns ms : List Int) (hz : ∀ z ∈ ns, 0 ≤ z ∧ z < 256) (hy : ∀ z ∈ ms, 0 ≤ z ∧ z < 256) : ACalls Tryz.prog f_laws_FnIncidences [ilY ns, ilY ms] H (fun r _ => r = Bv true) := by
  have hbn := fun k => Bel_ilY k ns
  have hbm := fun k => Bel_ilY k ms
  have l1 := b10Long_fn ns
  have l2 := b10Long_fn ms
  by_cases h1 : (1048576 : Int) < ns.length
  · rw [decide_eq_true h1] at l1
    refine ACalls.introB s_laws_FnIncidences (by simp) ?_; intro hB hA; unfold c_laws_FnIncidences; simp (config := { maxSteps := 1000000 }) (disch := (first | omega | (simp only [go_sem]; try omega))) only [go_sem, Nat.reduceAdd, Nat.reduceEqDiff, Nat.reduceLeDiff, Nat.reduceMul, Nat.reduceLT, reduceIte, Int.reduceToNat, w64_id, cast_succ]
    repeat (first | (with_reducible first | refine SW.seq ?_ | refine SW.block ?_ | refine SW.rowC ?_ | refine SW.skip ?_ | refine SW.exit ?_ | refine PFn.use (l1) ?_ | refine PFn.useq (l1) ?_ | intro _ | refine And.intro (by omega) ?_) | simp (config := { maxSteps := 1000000 }) (disch := (first | omega | (simp only [go_sem]; try omega))) only [go_sem, Nat.reduceAdd, Nat.reduceEqDiff, Nat.reduceLeDiff, Nat.reduceMul, Nat.reduceLT, reduceIte, Int.reduceToNat, w64_id, cast_succ])
    refine SW.condT rfl ?_
    repeat (first | (with_reducible first | refine SW.seq ?_ | refine SW.block ?_ | refine SW.rowC ?_ | refine SW.skip ?_ | refine SW.exit ?_ | intro _ | refine And.intro (by omega) ?_) | simp (config := { maxSteps := 1000000 }) (disch := (first | omega | (simp only [go_sem]; try omega))) only [go_sem, Nat.reduceAdd, Nat.reduceEqDiff, Nat.reduceLeDiff, Nat.reduceMul, Nat.reduceLT, reduceIte, Int.reduceToNat, w64_id, cast_succ])
    refine SW.ret ?_; (try simp only [go_sem]); (first | refine FunPost.one ?_ | refine FunPost.two ?_ | refine FunPost.three ?_); (try simp (config := { maxSteps := 1000000 }) (disch := (first | omega | (simp only [go_sem]; try omega))) only [go_sem, Nat.reduceAdd, Nat.reduceEqDiff, Nat.reduceLeDiff, Nat.reduceMul, Nat.reduceLT, reduceIte, Int.reduceToNat, w64_id, cast_succ])
    exact GR.of rfl
  rw [decide_eq_false h1] at l1
  by_cases h2 : (1048576 : Int) < ms.length
  · rw [decide_eq_true h2] at l2
    refine ACalls.introB s_laws_FnIncidences (by simp) ?_; intro hB hA; unfold c_laws_FnIncidences; simp (config := { maxSteps := 1000000 }) (disch := (first | omega | (simp only [go_sem]; try omega))) only [go_sem, Nat.reduceAdd, Nat.reduceEqDiff, Nat.reduceLeDiff, Nat.reduceMul, Nat.reduceLT, reduceIte, Int.reduceToNat, w64_id, cast_succ]
    repeat (first | (with_reducible first | refine SW.seq ?_ | refine SW.block ?_ | refine SW.rowC ?_ | refine SW.skip ?_ | refine SW.exit ?_ | refine PFn.use (l1) ?_ | refine PFn.useq (l1) ?_ | refine PFn.use (l2) ?_ | refine PFn.useq (l2) ?_ | intro _ | refine And.intro (by omega) ?_) | simp (config := { maxSteps := 1000000 }) (disch := (first | omega | (simp only [go_sem]; try omega))) only [go_sem, Nat.reduceAdd, Nat.reduceEqDiff, Nat.reduceLeDiff, Nat.reduceMul, Nat.reduceLT, reduceIte, Int.reduceToNat, w64_id, cast_succ])
    refine SW.condT rfl ?_
    repeat (first | (with_reducible first | refine SW.seq ?_ | refine SW.block ?_ | refine SW.rowC ?_ | refine SW.skip ?_ | refine SW.exit ?_ | intro _ | refine And.intro (by omega) ?_) | simp (config := { maxSteps := 1000000 }) (disch := (first | omega | (simp only [go_sem]; try omega))) only [go_sem, Nat.reduceAdd, Nat.reduceEqDiff, Nat.reduceLeDiff, Nat.reduceMul, Nat.reduceLT, reduceIte, Int.reduceToNat, w64_id, cast_succ])
    refine SW.ret ?_; (try simp only [go_sem]); (first | refine FunPost.one ?_ | refine FunPost.two ?_ | refine FunPost.three ?_); (try simp (config := { maxSteps := 1000000 }) (disch := (first | omega | (simp only [go_sem]; try omega))) only [go_sem, Nat.reduceAdd, Nat.reduceEqDiff, Nat.reduceLeDiff, Nat.reduceMul, Nat.reduceLT, reduceIte, Int.reduceToNat, w64_id, cast_succ])
    exact GR.of rfl
  rw [decide_eq_false h2] at l2
  refine ACalls.introB s_laws_FnIncidences (by simp) ?_; intro hB hA; unfold c_laws_FnIncidences; simp (config := { maxSteps := 1000000 }) (disch := (first | omega | (simp only [go_sem]; try omega))) only [go_sem, Nat.reduceAdd, Nat.reduceEqDiff, Nat.reduceLeDiff, Nat.reduceMul, Nat.reduceLT, reduceIte, Int.reduceToNat, w64_id, cast_succ]
  repeat (first | (with_reducible first | refine SW.seq ?_ | refine SW.block ?_ | refine SW.rowC ?_ | refine SW.skip ?_ | refine SW.exit ?_ | refine PFn.use (l1) ?_ | refine PFn.useq (l1) ?_ | refine PFn.use (l2) ?_ | refine PFn.useq (l2) ?_ | intro _ | refine And.intro (by omega) ?_) | simp (config := { maxSteps := 1000000 }) (disch := (first | omega | (simp only [go_sem]; try omega))) only [go_sem, Nat.reduceAdd, Nat.reduceEqDiff, Nat.reduceLeDiff, Nat.reduceMul, Nat.reduceLT, reduceIte, Int.reduceToNat, w64_id, cast_succ])
  refine SW.condF rfl ?_
  repeat (first | (with_reducible first | refine SW.seq ?_ | refine SW.block ?_ | refine SW.rowC ?_ | refine SW.skip ?_ | refine SW.exit ?_ | intro _ | refine And.intro (by omega) ?_) | simp (config := { maxSteps := 1000000 }) (disch := (first | omega | (simp only [go_sem]; try omega))) only [go_sem, Nat.reduceAdd, Nat.reduceEqDiff, Nat.reduceLeDiff, Nat.reduceMul, Nat.reduceLT, reduceIte, Int.reduceToNat, w64_id, cast_succ])
  refine (DrawKramerMesner_ok _ ns hz (by omega)).mono ?_
  rintro r H1 ⟨rfl, n, els, t, k, rfl, q1, q2⟩
  have km := implKM_pfn n t k els (fun x hx => by have := q2 x hx; omega) (by omega)
  have so1 := (implSubsetOrbits_fx n els t (fun x hx => by have := q2 x hx; omega) (by omega)).pfn
  have so2 := (implSubsetOrbits_fx n els k (fun x hx => by have := q2 x hx; omega) (by omega)).pfn
  repeat (first | (with_reducible first | refine SW.seq ?_ | refine SW.block ?_ | refine SW.rowC ?_ | refine SW.skip ?_ | refine SW.exit ?_ | refine PFn.use (km) ?_ | refine PFn.useq (km) ?_ | intro _ | refine And.intro (by omega) ?_) | simp (config := { maxSteps := 1000000 }) (disch := (first | omega | (simp only [go_sem]; try omega))) only [go_sem, Nat.reduceAdd, Nat.reduceEqDiff, Nat.reduceLeDiff, Nat.reduceMul, Nat.reduceLT, reduceIte, Int.reduceToNat, w64_id, cast_succ])
  have d00 : decide (((0 : Nat) : Int) = 0) = true := rfl
  have d0 : decide ((0 : Int) = 0) = true := rfl
  by_cases h0 : kmA n els t k = 0
  · obtain ⟨hg, k0, k1, t0, t1, c1, c2, at0, ak0⟩ := kmA_zero h0
    have hgo := grpB_t.1 hg
    have hG := IsG.of hgo
    have hn32 : n ≤ 32 ∧ 1 ≤ n := by have := hgo.1; omega
    have ev : kmV n els t k = kmM (orbsV n els t) (orbsV n els k) := by unfold kmV; rw [if_pos h0]
    have es1 : soV n els t = orbsV n els t := by unfold soV; rw [if_pos at0]
    have es2 : soV n els k = orbsV n els k := by unfold soV; rw [if_pos ak0]
    have hs1 := soV_sets0 at0
    have hs2 := soV_sets0 ak0
    have hl1 := soV_len n els t
    have hl2 := soV_len n els k
    rw [es1] at hl1
    rw [es2] at hl2
    rw [es1, at0] at so1
    rw [es2, ak0] at so2
    have hne : (orbsV n els k).length ≠ 0 := orbAll_ne hG (by omega)
    have hch := implChoose_fn k t
    have ekt : chooseI k t = ((ch k.toNat t.toNat : Nat) : Int) := by
      have := chooseI_ch k.toNat t.toNat (by omega) (by omega)
      rwa [show ((k.toNat : Nat) : Int) = k by omega, show ((t.toNat : Nat) : Int) = t by omega] at this
    rw [ekt] at hch
    have hdb : ∀ O ∈ orbsV n els k, sumN (fun R => R.length * kmC (R.getD 0 []) O) (orbsV n els t) = O.length * ch k.toNat t.toNat := fun O hO => km_double hG hO
    have hcl := ch_le k.toNat t.toNat
    have hcl2 : 2 ^ k.toNat ≤ 2 ^ 32 := Nat.pow_le_pow_right (by omega) (by omega)
    rw [ev, h0]
    have d1 : decide (((orbsV n els k).length : Int) = 0) = false := decide_eq_false (by omega)
    have hml : (kmM (orbsV n els t) (orbsV n els k)).length = (orbsV n els t).length := by unfold kmM; simp
    have d2 : decide (((kmM (orbsV n els t) (orbsV n els k)).length : Int) = (orbsV n els t).length) = true := decide_eq_true (by rw [hml])
    generalize hM : kmM (orbsV n els t) (orbsV n els k) = M at *
    generalize hRs : orbsV n els t = Rs at *
    generalize hCs : orbsV n els k = Cs at *
    generalize ch k.toNat t.toNat = cc at *
    refine SW.condF rfl ?_
    repeat (first | (with_reducible first | refine SW.seq ?_ | refine SW.block ?_ | refine SW.rowC ?_ | refine SW.skip ?_ | refine SW.exit ?_ | refine PFn.use (so1) ?_ | refine PFn.useq (so1) ?_ | refine PFn.use (so2) ?_ | refine PFn.useq (so2) ?_ | intro _ | refine And.intro (by omega) ?_) | simp (config := { maxSteps := 1000000 }) (disch := (first | omega | (simp only [go_sem]; try omega))) only [go_sem, Nat.reduceAdd, Nat.reduceEqDiff, Nat.reduceLeDiff, Nat.reduceMul, Nat.reduceLT, reduceIte, Int.reduceToNat, w64_id, cast_succ, d0, d1, d2])
    refine SW.condF rfl ?_
    repeat (first | (with_reducible first | refine SW.seq ?_ | refine SW.block ?_ | refine SW.rowC ?_ | refine SW.skip ?_ | refine SW.exit ?_ | intro _ | refine And.intro (by omega) ?_) | simp (config := { maxSteps := 1000000 }) (disch := (first | omega | (simp only [go_sem]; try omega))) only [go_sem, Nat.reduceAdd, Nat.reduceEqDiff, Nat.reduceLeDiff, Nat.reduceMul, Nat.reduceLT, reduceIte, Int.reduceToNat, w64_id, cast_succ])
    refine (b10AtG _ ms 0 Cs.length hy (by omega) (by omega) (by omega) (by omega)).mono ?_
    rintro r H2 ⟨rfl, j, rfl, hj⟩
    repeat (first | (with_reducible first | refine SW.seq ?_ | refine SW.block ?_ | refine SW.rowC ?_ | refine SW.skip ?_ | refine SW.exit ?_ | intro _ | refine And.intro (by omega) ?_) | simp (config := { maxSteps := 1000000 }) (disch := (first | omega | (simp only [go_sem]; try omega))) only [go_sem, Nat.reduceAdd, Nat.reduceEqDiff, Nat.reduceLeDiff, Nat.reduceMul, Nat.reduceLT, reduceIte, Int.reduceToNat, w64_id, cast_succ])
    have hO : Cs.getD j [] ∈ Cs := by rw [List.getD_eq_getElem?_getD, List.getElem?_eq_getElem hj]; exact List.getElem_mem _
    have hOd := hdb _ hO
    have hOl := (hs2 _ hO).2
    generalize hOe : Cs.getD j [] = O at *
    have hkc : ∀ R, kmC R O ≤ O.length := fun R => List.length_filter_le _ _
    have hpr : ∀ R ∈ Rs, R.length * kmC (R.getD 0 []) O ≤ 720 * 720 := fun R hR => Nat.mul_le_mul (hs1 R hR).2 (by have := hkc (R.getD 0 []); omega)
    have hsum : ∀ l : List (List (List Int)), (∀ R ∈ l, R ∈ Rs) → sumN (fun R => R.length * kmC (R.getD 0 []) O) l ≤ l.length * (720 * 720) := fun l => by
      induction l with
      | nil => intro _; simp [sumN]
      | cons a l ih =>
        intro h
        have i1 := ih (fun b hb => h b (by simp [hb]))
        have i2 := hpr a (h a (by simp))
        rw [sumN_cons, List.length_cons]
        omega
    refine SW.loopE (fun E0 H0 q E' H' => ∃ pre post : List (List (List Int)), Rs = pre ++ post ∧ q = post.length ∧ E' = aput (aput E0 15 (I (sumN (fun R => R.length * kmC (R.getD 0 []) O) pre : Nat))) 16 (I pre.length) ∧ H' = H0) Rs.length ⟨[], Rs, rfl, rfl, rfl, rfl⟩ ?_
    rintro q E' H' ⟨pre, post, hpp, rfl, rfl, rfl⟩
    have hpl : pre.length ≤ 2000 := by rw [hpp, List.length_append] at hl1; omega
    have hsp := hsum pre (fun b hb => by rw [hpp]; simp [hb])
    simp (config := { maxSteps := 1000000 }) (disch := (first | omega | (simp only [go_sem]; try omega))) only [go_sem, Nat.reduceAdd, Nat.reduceEqDiff, Nat.reduceLeDiff, Nat.reduceMul, Nat.reduceLT, reduceIte, Int.reduceToNat, w64_id, cast_succ]
    repeat (first | (with_reducible first | refine SW.seq ?_ | refine SW.block ?_ | refine SW.rowC ?_ | refine SW.skip ?_ | refine SW.exit ?_ | intro _ | refine And.intro (by omega) ?_) | simp (config := { maxSteps := 1000000 }) (disch := (first | omega | (simp only [go_sem]; try omega))) only [go_sem, Nat.reduceAdd, Nat.reduceEqDiff, Nat.reduceLeDiff, Nat.reduceMul, Nat.reduceLT, reduceIte, Int.reduceToNat, w64_id, cast_succ])
    (first | refine SW.condD rfl (fun h4 => ?_) (fun h4 => ?_) | refine SW.condN rfl (fun h4 => ?_) (fun h4 => ?_) | refine SW.condNB rfl (fun h4 => ?_) (fun h4 => ?_) | refine SW.condB rfl (fun h4 => ?_) (fun h4 => ?_))
    · have hpl2 : pre.length < Rs.length := by omega
      obtain ⟨R, post, rfl, hgR, -⟩ := consOf (d := []) hpp (by omega)
      have hR : R ∈ Rs := by rw [hpp]; simp
      have hMr : M.getD pre.length [] = kmR (R.getD 0 []) Cs := by
        have hgR2 : Rs[pre.length]? = some R := by rw [hpp]; simp
        rw [← hM]
        unfold kmM
        rw [List.getD_eq_getElem?_getD, List.getElem?_map, hgR2]
        rfl
      have hrl : (kmR (R.getD 0 []) Cs).length = Cs.length := by unfold kmR; simp
      have hrj : (kmR (R.getD 0 []) Cs).getD j 0 = ((kmC (R.getD 0 []) O : Nat) : Int) := by
        have hO2 : Cs[j]? = some O := by rw [← hOe, List.getD_eq_getElem?_getD, List.getElem?_eq_getElem hj]; rfl
        unfold kmR
        rw [List.getD_eq_getElem?_getD, List.getElem?_map, hO2]
        rfl
      have d4 : decide (((kmR (R.getD 0 []) Cs).length : Int) = Cs.length) = true := decide_eq_true (by rw [hrl])
      have hp1 := hpr R hR
      have em : ((R.length : Nat) : Int) * ((kmC (R.getD 0 []) O : Nat) : Int) = ((R.length * kmC (R.getD 0 []) O : Nat) : Int) := by simp
      have hss : sumN (fun R => R.length * kmC (R.getD 0 []) O) (pre ++ [R]) = sumN (fun R => R.length * kmC (R.getD 0 []) O) pre + R.length * kmC (R.getD 0 []) O := by
        rw [sumN_app, sumN_cons, sumN_nil]; rfl
      have hml2 : pre.length < M.length := by omega
      repeat (first | (with_reducible first | refine SW.seq ?_ | refine SW.block ?_ | refine SW.rowC ?_ | refine SW.skip ?_ | refine SW.exit ?_ | intro _ | refine And.intro (by omega) ?_) | simp (config := { maxSteps := 1000000 }) (disch := (first | omega | (simp only [go_sem]; try omega))) only [go_sem, Nat.reduceAdd, Nat.reduceEqDiff, Nat.reduceLeDiff, Nat.reduceMul, Nat.reduceLT, reduceIte, Int.reduceToNat, w64_id, cast_succ, hMr, d4])
      refine SW.condF rfl ?_
      have hrl2 : j < (kmR (R.getD 0 []) Cs).length := by omega
      repeat (first | (with_reducible first | refine SW.seq ?_ | refine SW.block ?_ | refine SW.rowC ?_ | refine SW.skip ?_ | refine SW.exit ?_ | intro _ | refine And.intro (by omega) ?_) | simp (config := { maxSteps := 1000000 }) (disch := (first | omega | (simp only [go_sem]; try omega))) only [go_sem, Nat.reduceAdd, Nat.reduceEqDiff, Nat.reduceLeDiff, Nat.reduceMul, Nat.reduceLT, reduceIte, Int.reduceToNat, w64_id, cast_succ, hMr, hgR, hrj, em])
      refine SLoop.next post.length (by simp) ⟨pre ++ [R], post, by rw [hpp]; simp, rfl, ?_, rfl⟩
      rw [hss]
      simp [go_sem]
    · obtain ⟨rfl, rfl⟩ := nilOf hpp (by omega)
      have hlm : O.length * cc ≤ 720 * 2 ^ 32 := Nat.mul_le_mul hOl (by omega)
      have em : ((O.length : Nat) : Int) * ((cc : Nat) : Int) = ((O.length * cc : Nat) : Int) := by simp
      repeat (first | (with_reducible first | refine SW.seq ?_ | refine SW.block ?_ | refine SW.rowC ?_ | refine SW.skip ?_ | refine SW.exit ?_ | refine PFn.use (hch) ?_ | refine PFn.useq (hch) ?_ | intro _ | refine And.intro (by omega) ?_) | simp (config := { maxSteps := 1000000 }) (disch := (first | omega | (simp only [go_sem]; try omega))) only [go_sem, Nat.reduceAdd, Nat.reduceEqDiff, Nat.reduceLeDiff, Nat.reduceMul, Nat.reduceLT, reduceIte, Int.reduceToNat, w64_id, cast_succ, hOe, em])
      rw [hOd, decide_eq_true rfl]
      refine SW.ret ?_; (try simp only [go_sem]); (first | refine FunPost.one ?_ | refine FunPost.two ?_ | refine FunPost.three ?_); (try simp (config := { maxSteps := 1000000 }) (disch := (first | omega | (simp only [go_sem]; try omega))) only [go_sem, Nat.reduceAdd, Nat.reduceEqDiff, Nat.reduceLeDiff, Nat.reduceMul, Nat.reduceLT, reduceIte, Int.reduceToNat, w64_id, cast_succ])
      exact GR.of rfl
  · have d1 : decide (kmA n els t k = 0) = false := decide_eq_false h0
    have ev : kmV n els t k = [] := by unfold kmV; rw [if_neg h0]
    rw [d1, ev]
    refine SW.condT rfl ?_
    repeat (first | (with_reducible first | refine SW.seq ?_ | refine SW.block ?_ | refine SW.rowC ?_ | refine SW.skip ?_ | refine SW.exit ?_ | intro _ | refine And.intro (by omega) ?_) | simp (config := { maxSteps := 1000000 }) (disch := (first | omega | (simp only [go_sem]; try omega))) only [go_sem, Nat.reduceAdd, Nat.reduceEqDiff, Nat.reduceLeDiff, Nat.reduceMul, Nat.reduceLT, reduceIte, Int.reduceToNat, w64_id, cast_succ, d00])
    refine SW.ret ?_; (try simp only [go_sem]); (first | refine FunPost.one ?_ | refine FunPost.two ?_ | refine FunPost.three ?_); (try simp (config := { maxSteps := 1000000 }) (disch := (first | omega | (simp only [go_sem]; try omega))) only [go_sem, Nat.reduceAdd, Nat.reduceEqDiff, Nat.reduceLeDiff, Nat.reduceMul, Nat.reduceLT, reduceIte, Int.reduceToNat, w64_id, cast_succ])
    exact GR.of rfl
end Go.Proofs.YthogadbnddmkdaaGreat
