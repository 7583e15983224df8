/- Partial squares: forced cells filled by the program. -/
import Derived.Test.YtchehdplcbffmaaProg
import Derived.KernelRfl
import Derived.Test.YtchehdplcbffmaazUJ
import Derived.Test.YtchehdplcbffmaazTX
set_option linter.unusedSimpArgs false
set_option linter.unusedVariables false
set_option maxHeartbeats 4000000
set_option maxRecDepth 100000
namespace Go.Proofs.Ytchehdplcbffmaa
open Go.Av
abbrev f_impl_PropagatePartial : Nat := 17
def c_impl_PropagatePartial : SC :=
 .seq (.reg [
     ⟨(some 2), .mv (.const (.slice none 0 0)), none⟩,
     ⟨(some 3), .mv (.const (.int .i64 0)), none⟩] [0])
 (.seq (.seq (.reg [
     ⟨(some 8), .mv (.tmp 0), none⟩,
     ⟨(some 9), .call 19 [(.tmp 8)], none⟩,
     ⟨(some 10), .un .not (.tmp 9), none⟩] [0, 10])
 (.cond (.tmp 10)
  (.seq (.reg [
      ⟨(some 2), .mv (.const (.slice none 0 0)), none⟩,
      ⟨(some 3), .mv (.const (.int .i64 1)), none⟩] [2, 3])
  (.ret))
  (.skip)))
 (.seq (.reg [
     ⟨(some 11), .mv (.tmp 0), none⟩,
     ⟨(some 12), .call 42 [(.tmp 11)], none⟩,
     ⟨(some 4), .mv (.tmp 12), none⟩] [0, 4])
 (.seq (.reg [
     ⟨(some 13), .mv (.tmp 0), none⟩,
     ⟨(some 14), .call 47 [(.tmp 13)], none⟩,
     ⟨(some 5), .mv (.tmp 14), none⟩] [4, 5])
 (.seq (.block 0 (.loop [4, 5]
   (.seq (.seq (.reg [
       ⟨(some 15), .mv (.tmp 5), none⟩,
       ⟨(some 16), .call 51 [(.tmp 15)], none⟩] [4, 5, 16])
   (.cond (.tmp 16)
    (.skip)
    (.exit 0)))
   (.block 1 (.skip)))))
 (.seq (.seq (.reg [
     ⟨(some 17), .mv (.tmp 5), none⟩,
     ⟨(some 18), .call 49 [(.tmp 17)], none⟩,
     ⟨(some 19), .len (.tmp 18), none⟩,
     ⟨(some 20), .mv (.const (.int .i64 0)), none⟩] [4, 5, 18, 19, 20])
 (.block 2 (.loop [4, 5, 18, 19, 20]
   (.seq (.reg [
       ⟨(some 21), .bin .lss (.tmp 20) (.tmp 19), none⟩] [4, 5, 18, 19, 20, 21])
   (.seq (.cond (.tmp 21)
    (.skip)
    (.exit 2))
   (.seq (.block 3 (.seq (.reg [
        ⟨(some 22), .iaddr 1 (.tmp 18) (.tmp 20), none⟩,
        ⟨(some 23), .load 1 false (.tmp 22), none⟩,
        ⟨(some 7), .mv (.tmp 23), none⟩] [4, 5, 7, 18, 19, 20])
    (.seq (.reg [
        ⟨(some 24), .mv (.tmp 5), none⟩,
        ⟨(some 25), .mv (.tmp 7), none⟩,
        ⟨(some 26), .mv (.tmp 4), none⟩,
        ⟨(some 27), .bin .quo (.tmp 25) (.tmp 26), none⟩,
        ⟨(some 28), .mv (.tmp 7), none⟩,
        ⟨(some 29), .mv (.tmp 4), none⟩,
        ⟨(some 30), .bin .rem (.tmp 28) (.tmp 29), none⟩,
        ⟨(some 31), .qcall 52 [(.tmp 24), (.tmp 27), (.tmp 30)], none⟩,
        ⟨(some 32), .qlen (.tmp 31), none⟩,
        ⟨(some 33), .bin .eql (.tmp 32) (.const (.int .i64 0)), none⟩] [4, 5, 18, 19, 20, 33])
    (.cond (.tmp 33)
     (.seq (.reg [
         ⟨(some 2), .mv (.const (.slice none 0 0)), none⟩,
         ⟨(some 3), .mv (.const (.int .i64 3)), none⟩] [2, 3])
     (.ret))
     (.skip)))))
   (.reg [
       ⟨(some 34), .bin .add (.tmp 20) (.const (.int .i64 1)), none⟩,
       ⟨(some 20), .mv (.tmp 34), none⟩] [4, 5, 18, 19, 20])))))))
 (.seq (.reg [
     ⟨(some 35), .mv (.tmp 5), none⟩,
     ⟨(some 2), .mv (.tmp 35), none⟩,
     ⟨(some 3), .mv (.const (.int .i64 0)), none⟩] [2, 3])
 (.ret)))))))
theorem s_impl_PropagatePartial : stripF Try.prog 17 [[0], [0, 10], [2, 3], [0, 4], [4, 5], [4, 5], [4, 5, 16], [4, 5, 18, 19, 20], [4, 5, 18, 19, 20], [4, 5, 18, 19, 20, 21], [4, 5, 7, 18, 19, 20], [4, 5, 18, 19, 20, 33], [2, 3], [4, 5, 18, 19, 20], [2, 3]] = some (c_impl_PropagatePartial, [.tmp 2, .tmp 3], 36) := by kernel_rfl
abbrev f_impl_fillSingle : Nat := 51
def c_impl_fillSingle : SC :=
 .seq (.reg [
     ⟨(some 2), .mv (.const (.bool false)), none⟩] [0])
 (.seq (.reg [
     ⟨(some 7), .mv (.tmp 0), none⟩,
     ⟨(some 8), .call 42 [(.tmp 7)], none⟩,
     ⟨(some 3), .mv (.tmp 8), none⟩] [0, 3])
 (.seq (.seq (.reg [
     ⟨(some 9), .mv (.tmp 0), none⟩,
     ⟨(some 10), .call 49 [(.tmp 9)], none⟩,
     ⟨(some 11), .len (.tmp 10), none⟩,
     ⟨(some 12), .mv (.const (.int .i64 0)), none⟩] [0, 3, 10, 11, 12])
 (.block 0 (.loop [0, 3, 10, 11, 12]
   (.seq (.reg [
       ⟨(some 13), .bin .lss (.tmp 12) (.tmp 11), none⟩] [0, 3, 10, 11, 12, 13])
   (.seq (.cond (.tmp 13)
    (.skip)
    (.exit 0))
   (.seq (.block 1 (.seq (.reg [
        ⟨(some 14), .iaddr 1 (.tmp 10) (.tmp 12), none⟩,
        ⟨(some 15), .load 1 false (.tmp 14), none⟩,
        ⟨(some 5), .mv (.tmp 15), none⟩] [0, 3, 5, 10, 11, 12])
    (.seq (.reg [
        ⟨(some 16), .mv (.tmp 0), none⟩,
        ⟨(some 17), .mv (.tmp 5), none⟩,
        ⟨(some 18), .mv (.tmp 3), none⟩,
        ⟨(some 19), .bin .quo (.tmp 17) (.tmp 18), none⟩,
        ⟨(some 20), .mv (.tmp 5), none⟩,
        ⟨(some 21), .mv (.tmp 3), none⟩,
        ⟨(some 22), .bin .rem (.tmp 20) (.tmp 21), none⟩,
        ⟨(some 23), .qcall 52 [(.tmp 16), (.tmp 19), (.tmp 22)], none⟩,
        ⟨(some 6), .mv (.tmp 23), none⟩] [0, 3, 5, 6, 10, 11, 12])
    (.seq (.reg [
        ⟨(some 24), .mv (.tmp 6), none⟩,
        ⟨(some 25), .len (.tmp 24), none⟩,
        ⟨(some 26), .bin .eql (.tmp 25) (.const (.int .i64 1)), none⟩] [0, 3, 5, 6, 10, 11, 12, 26])
    (.cond (.tmp 26)
     (.seq (.reg [
         ⟨(some 27), .mv (.tmp 0), none⟩,
         ⟨(some 28), .mv (.tmp 5), none⟩,
         ⟨(some 29), .mv (.tmp 3), none⟩,
         ⟨(some 30), .bin .quo (.tmp 28) (.tmp 29), none⟩,
         ⟨(some 31), .iaddr 1 (.tmp 27) (.tmp 30), none⟩,
         ⟨(some 32), .load 1 false (.tmp 31), none⟩,
         ⟨(some 33), .mv (.tmp 5), none⟩,
         ⟨(some 34), .mv (.tmp 3), none⟩,
         ⟨(some 35), .bin .rem (.tmp 33) (.tmp 34), none⟩,
         ⟨(some 36), .mv (.tmp 6), none⟩,
         ⟨(some 37), .iaddr 1 (.tmp 36) (.const (.int .i64 0)), none⟩,
         ⟨(some 38), .load 1 false (.tmp 37), none⟩,
         ⟨(some 39), .iaddr 1 (.tmp 32) (.tmp 35), none⟩,
         ⟨none, .store 1 (.tmp 39) (.tmp 38), none⟩] [])
     (.seq (.reg [
         ⟨(some 2), .mv (.const (.bool true)), none⟩] [2])
     (.ret)))
     (.skip))))))
   (.reg [
       ⟨(some 40), .bin .add (.tmp 12) (.const (.int .i64 1)), none⟩,
       ⟨(some 12), .mv (.tmp 40), none⟩] [0, 3, 10, 11, 12])))))))
 (.seq (.reg [
     ⟨(some 2), .mv (.const (.bool false)), none⟩] [2])
 (.ret))))
theorem s_impl_fillSingle : stripF Try.prog 51 [[0], [0, 3], [0, 3, 10, 11, 12], [0, 3, 10, 11, 12], [0, 3, 10, 11, 12, 13], [0, 3, 5, 10, 11, 12], [0, 3, 5, 6, 10, 11, 12], [0, 3, 5, 6, 10, 11, 12, 26], [], [2], [0, 3, 10, 11, 12], [2]] = some (c_impl_fillSingle, [.tmp 2], 41) := by kernel_rfl
theorem fillSingle_ok (H : List Blk) (n : Nat) (sq : List (List Int)) (hs : sqN n sq) (n1 : 1 ≤ n) (hn : n ≤ 10) : ACalls Try.prog f_impl_fillSingle [.nm H.length n 0 n] (H ++ sqB n 1 H.length sq) (fun r H' => (r = Bv false ∧ H' = H ++ sqB n 1 H.length sq) ∨
    ∃ c v : Nat, r = Bv true ∧ c < n * n ∧ cellAt sq (c / n) (c % n) = -1 ∧ cands sq (c / n) (c % n) n = [(v : Int)] ∧ H' = H ++ sqB n 1 H.length (setC sq (c / n) (c % n) (v : Int))) := by
  have hnn : n * n ≤ 10 * 10 := Nat.mul_le_mul hn hn
  have hn0 : (n : Int) ≠ 0 := by omega
  have hfz : Froz (H ++ sqB n 1 H.length sq) 0 (.nm H.length n 0 n) (ilSS sq) := by
    have := froz_sqB (Hb := H) (v := n) (w := 1) (b := 0) (xss := sq) (ext := []) (Nat.zero_le _)
    rw [hs.1, List.append_nil] at this
    exact this
  have hem := emptyCells_new sq (by have := hs.1; omega) (fun r hr => by rw [hs.2 r hr, hs.1])
  rw [hs.1] at hem
  have hsz := sizeS_fn sq
  rw [hs.1] at hsz
  refine ACalls.introB s_impl_fillSingle (by simp) ?_; intro hB hA; unfold c_impl_fillSingle; simp (config := { maxSteps := 1000000 }) (disch := (first | omega | (simp only [go_sem]; try omega))) only [go_sem, Nat.reduceAdd, Nat.reduceEqDiff, Nat.reduceLeDiff, Nat.reduceMul, Nat.reduceLT, reduceIte, Int.reduceToNat, w64_id, cast_succ]
  repeat (first | (with_reducible first | refine SW.seq ?_ | refine SW.block ?_ | refine SW.rowC ?_ | refine SW.skip ?_ | refine SW.exit ?_ | intro _ | refine And.intro (by omega) ?_) | simp (config := { maxSteps := 1000000 }) (disch := (first | omega | (simp only [go_sem]; try omega))) only [go_sem, Nat.reduceAdd, Nat.reduceEqDiff, Nat.reduceLeDiff, Nat.reduceMul, Nat.reduceLT, reduceIte, Int.reduceToNat, w64_id, cast_succ])
  refine (hsz.lend (.cons hfz .nil)).mono ?_
  rintro r H1 ⟨rfl, rfl⟩
  repeat (first | (with_reducible first | refine SW.seq ?_ | refine SW.block ?_ | refine SW.rowC ?_ | refine SW.skip ?_ | refine SW.exit ?_ | intro _ | refine And.intro (by omega) ?_) | simp (config := { maxSteps := 1000000 }) (disch := (first | omega | (simp only [go_sem]; try omega))) only [go_sem, Nat.reduceAdd, Nat.reduceEqDiff, Nat.reduceLeDiff, Nat.reduceMul, Nat.reduceLT, reduceIte, Int.reduceToNat, w64_id, cast_succ])
  refine (hem.lendf (.cons hfz .nil)).mono ?_
  rintro r H1 ⟨rfl, rfl⟩
  have hcel : ∀ c ∈ natL (empT sq n (n * n)), ∃ k : Nat, c = k ∧ k < n * n ∧ cellAt sq (k / n) (k % n) = -1 := fun c hc => by
    obtain ⟨k, hk, rfl⟩ := List.mem_map.1 hc
    exact ⟨k, rfl, empT_lt hk, empT_cell hk⟩
  generalize natL (empT sq n (n * n)) = L at *
  repeat (first | (with_reducible first | refine SW.seq ?_ | refine SW.block ?_ | refine SW.rowC ?_ | refine SW.skip ?_ | refine SW.exit ?_ | intro _ | refine And.intro (by omega) ?_) | simp (config := { maxSteps := 1000000 }) (disch := (first | omega | (simp only [go_sem]; try omega))) only [go_sem, Nat.reduceAdd, Nat.reduceEqDiff, Nat.reduceLeDiff, Nat.reduceMul, Nat.reduceLT, reduceIte, Int.reduceToNat, w64_id, cast_succ])
  refine SW.loopE (fun E0 H0 q E' H' => ∃ pre post : List Int, L = pre ++ post ∧ q = post.length ∧ E' = aput E0 12 (I pre.length) ∧ H' = H0) L.length ⟨[], L, rfl, rfl, rfl, rfl⟩ ?_
  rintro q E' H' ⟨pre, post, hpp, rfl, rfl, rfl⟩
  simp (config := { maxSteps := 1000000 }) (disch := (first | omega | (simp only [go_sem]; try omega))) only [go_sem, Nat.reduceAdd, Nat.reduceEqDiff, Nat.reduceLeDiff, Nat.reduceMul, Nat.reduceLT, reduceIte, Int.reduceToNat, w64_id, cast_succ]
  repeat (first | (with_reducible first | refine SW.seq ?_ | refine SW.block ?_ | refine SW.rowC ?_ | refine SW.skip ?_ | refine SW.exit ?_ | intro _ | refine And.intro (by omega) ?_) | simp (config := { maxSteps := 1000000 }) (disch := (first | omega | (simp only [go_sem]; try omega))) only [go_sem, Nat.reduceAdd, Nat.reduceEqDiff, Nat.reduceLeDiff, Nat.reduceMul, Nat.reduceLT, reduceIte, Int.reduceToNat, w64_id, cast_succ])
  (first | refine SW.condD rfl (fun h => ?_) (fun h => ?_) | refine SW.condN rfl (fun h => ?_) (fun h => ?_) | refine SW.condNB rfl (fun h => ?_) (fun h => ?_) | refine SW.condB rfl (fun h => ?_) (fun h => ?_))
  · obtain ⟨c, post, rfl, hg, -⟩ := consOf (d := 0) hpp (by omega)
    obtain ⟨c, rfl, hc, hce⟩ := hcel c (by rw [hpp]; simp)
    have hx : c / n < n := Nat.div_lt_of_lt_mul hc
    have hy : c % n < n := Nat.mod_lt _ (by omega)
    have hd1 : (c : Int).tdiv n = ((c / n : Nat) : Int) := (Int.ofNat_tdiv c n).symm
    have hd2 : (c : Int).tmod n = ((c % n : Nat) : Int) := (Int.ofNat_tmod c n).symm
    have hgoal := fun (v : Nat) (hv : cands sq (c / n) (c % n) n = [(v : Int)]) => (⟨c, v, rfl, hc, hce, hv, rfl⟩ : ∃ c' v' : Nat, Bv true = Bv true ∧ c' < n * n ∧ cellAt sq (c' / n) (c' % n) = -1 ∧ cands sq (c' / n) (c' % n) n = [(v' : Int)] ∧ H ++ sqB n 1 H.length (setC sq (c / n) (c % n) (v : Int)) = H ++ sqB n 1 H.length (setC sq (c' / n) (c' % n) (v' : Int)))
    generalize c / n = x at *
    generalize c % n = y at *
    have hw1 : w64 (x : Int) = x := w64_id (by omega) (by omega)
    have hcan := candidates_new sq x y (by have := hs.1; omega) (by have := hs.1; omega) (fun r hr => by rw [hs.2 r hr]; exact hy)
    rw [hs.1] at hcan
    have hrl : (sq.getD x []).length = n := hs.2 _ (by rw [getD_get (show x < sq.length by have := hs.1; omega)]; exact List.getElem_mem _)
    have htk : ((sq.getD x []).map I).take n = (sq.getD x []).map I := List.take_of_length_le (by rw [List.length_map, hrl]; exact Nat.le_refl _)
    have c0 := q0w (H := H) (n := n) (w := 1) (sq := sq) (ext := [])
    have c1 := qcellw (H := H) (w := 1) hs hx
    have c2 := qtakew (H := H) (w := 1) hs.1
    have c3 := qroww (H := H) (w := 1) (ext := []) hs.1 hx
    have c4 := fun v => qsetw (H := H) (w := 1) (y := y) (ext := []) hs.1 hx v
    simp only [List.append_nil] at c0 c3 c4
    have hcl := cands_len sq x y n
    have hcm : ∀ v ∈ cands sq x y n, 0 ≤ v ∧ v < n := fun v hv => cands_mem hv
    generalize cands sq x y n = C at *
    repeat (first | (with_reducible first | refine SW.seq ?_ | refine SW.block ?_ | refine SW.rowC ?_ | refine SW.skip ?_ | refine SW.exit ?_ | intro _ | refine And.intro (by omega) ?_) | simp (config := { maxSteps := 1000000 }) (disch := (first | omega | (simp only [go_sem]; try omega))) only [go_sem, Nat.reduceAdd, Nat.reduceEqDiff, Nat.reduceLeDiff, Nat.reduceMul, Nat.reduceLT, reduceIte, Int.reduceToNat, w64_id, cast_succ, hg, hd1, hd2, hn0, hw1])
    refine ⟨_, hcan.lendq (.cons hfz (.cons (.I _) (.cons (.I _) .nil))), ?_⟩
    repeat (first | (with_reducible first | refine SW.seq ?_ | refine SW.block ?_ | refine SW.rowC ?_ | refine SW.skip ?_ | refine SW.exit ?_ | intro _ | refine And.intro (by omega) ?_) | simp (config := { maxSteps := 1000000 }) (disch := (first | omega | (simp only [go_sem]; try omega))) only [go_sem, Nat.reduceAdd, Nat.reduceEqDiff, Nat.reduceLeDiff, Nat.reduceMul, Nat.reduceLT, reduceIte, Int.reduceToNat, w64_id, cast_succ])
    by_cases hC : C.length = 1
    · obtain ⟨v, rfl⟩ := List.length_eq_one_iff.1 hC
      obtain ⟨v, rfl⟩ := Int.eq_ofNat_of_zero_le (hcm v (by simp)).1
      have hgv : [(v : Int)].getD 0 0 = v := rfl
      refine SW.condT (by simp [go_sem]) ?_
      repeat (first | (with_reducible first | refine SW.seq ?_ | refine SW.block ?_ | refine SW.rowC ?_ | refine SW.skip ?_ | refine SW.exit ?_ | intro _ | refine And.intro (by omega) ?_) | simp (config := { maxSteps := 1000000 }) (disch := (first | omega | (simp only [go_sem]; try omega))) only [go_sem, Nat.reduceAdd, Nat.reduceEqDiff, Nat.reduceLeDiff, Nat.reduceMul, Nat.reduceLT, reduceIte, Int.reduceToNat, w64_id, cast_succ, hg, hgv, hd1, hd2, hn0, hw1, c0, c1, c2, c3, c4, hrl, htk])
      refine SW.ret ?_; (try simp only [go_sem]); (first | refine FunPost.one ?_ | refine FunPost.two ?_ | refine FunPost.three ?_); (try simp (config := { maxSteps := 1000000 }) (disch := (first | omega | (simp only [go_sem]; try omega))) only [go_sem, Nat.reduceAdd, Nat.reduceEqDiff, Nat.reduceLeDiff, Nat.reduceMul, Nat.reduceLT, reduceIte, Int.reduceToNat, w64_id, cast_succ])
      exact GR.of (.inr (hgoal v rfl))
    · refine SW.condF (show Bv (decide ((C.length : Int) = 1)) = Bv false by rw [decide_eq_false (by omega)]) ?_
      repeat (first | (with_reducible first | refine SW.seq ?_ | refine SW.block ?_ | refine SW.rowC ?_ | refine SW.skip ?_ | refine SW.exit ?_ | intro _ | refine And.intro (by omega) ?_) | simp (config := { maxSteps := 1000000 }) (disch := (first | omega | (simp only [go_sem]; try omega))) only [go_sem, Nat.reduceAdd, Nat.reduceEqDiff, Nat.reduceLeDiff, Nat.reduceMul, Nat.reduceLT, reduceIte, Int.reduceToNat, w64_id, cast_succ])
      exact SLoop.next post.length (by simp) ⟨pre ++ [(c : Int)], post, by simp [hpp], rfl, by simp [go_sem], rfl⟩
  · obtain ⟨rfl, rfl⟩ := nilOf hpp (by omega)
    repeat (first | (with_reducible first | refine SW.seq ?_ | refine SW.block ?_ | refine SW.rowC ?_ | refine SW.skip ?_ | refine SW.exit ?_ | intro _ | refine And.intro (by omega) ?_) | simp (config := { maxSteps := 1000000 }) (disch := (first | omega | (simp only [go_sem]; try omega))) only [go_sem, Nat.reduceAdd, Nat.reduceEqDiff, Nat.reduceLeDiff, Nat.reduceMul, Nat.reduceLT, reduceIte, Int.reduceToNat, w64_id, cast_succ])
    refine SW.ret ?_; (try simp only [go_sem]); (first | refine FunPost.one ?_ | refine FunPost.two ?_ | refine FunPost.three ?_); (try simp (config := { maxSteps := 1000000 }) (disch := (first | omega | (simp only [go_sem]; try omega))) only [go_sem, Nat.reduceAdd, Nat.reduceEqDiff, Nat.reduceLeDiff, Nat.reduceMul, Nat.reduceLT, reduceIte, Int.reduceToNat, w64_id, cast_succ])
    exact GR.of (.inl ⟨rfl, rfl⟩)
theorem implPropagate_bad (p : List (List Int)) (hp : partB p = false) : PFn Try.prog f_impl_PropagatePartial [ilSS p] (.tup [nilS, I 1]) := by
  have hv := ValidPartial_fn p
  rw [hp] at hv
  intro H; refine ACalls.introB s_impl_PropagatePartial (by simp) ?_; intro hB hA; unfold c_impl_PropagatePartial; simp (config := { maxSteps := 1000000 }) (disch := (first | omega | (simp only [go_sem]; try omega))) only [go_sem, Nat.reduceAdd, Nat.reduceEqDiff, Nat.reduceLeDiff, Nat.reduceMul, Nat.reduceLT, reduceIte, Int.reduceToNat, w64_id, cast_succ]
  repeat (first | (with_reducible first | refine SW.seq ?_ | refine SW.block ?_ | refine SW.rowC ?_ | refine SW.skip ?_ | refine SW.exit ?_ | refine PFn.use (hv) ?_ | refine PFn.useq (hv) ?_ | intro _ | refine And.intro (by omega) ?_) | simp (config := { maxSteps := 1000000 }) (disch := (first | omega | (simp only [go_sem]; try omega))) only [go_sem, Nat.reduceAdd, Nat.reduceEqDiff, Nat.reduceLeDiff, Nat.reduceMul, Nat.reduceLT, reduceIte, Int.reduceToNat, w64_id, cast_succ])
  refine SW.condT rfl ?_
  repeat (first | (with_reducible first | refine SW.seq ?_ | refine SW.block ?_ | refine SW.rowC ?_ | refine SW.skip ?_ | refine SW.exit ?_ | intro _ | refine And.intro (by omega) ?_) | simp (config := { maxSteps := 1000000 }) (disch := (first | omega | (simp only [go_sem]; try omega))) only [go_sem, Nat.reduceAdd, Nat.reduceEqDiff, Nat.reduceLeDiff, Nat.reduceMul, Nat.reduceLT, reduceIte, Int.reduceToNat, w64_id, cast_succ])
  refine SW.ret ?_; (try simp only [go_sem]); (first | refine FunPost.one ?_ | refine FunPost.two ?_ | refine FunPost.three ?_); (try simp (config := { maxSteps := 1000000 }) (disch := (first | omega | (simp only [go_sem]; try omega))) only [go_sem, Nat.reduceAdd, Nat.reduceEqDiff, Nat.reduceLeDiff, Nat.reduceMul, Nat.reduceLT, reduceIte, Int.reduceToNat, w64_id, cast_succ]); (first | (with_reducible refine GR.drop ?_ ?_; (simp only [go_sem, and_self, and_true, true_and, implies_true, List.take_succ_cons, List.take_zero])) | refine GR.of ?_); refine ⟨?_, rfl⟩; (try with_reducible rfl)
theorem implPropagate_ok (H : List Blk) (p : List (List Int)) (hp : partB p = true) : ACalls Try.prog f_impl_PropagatePartial [ilSS p] H (fun r H' => H' = H ∧ ∃ q, Fills p.length p q ∧
    (r = .tup [ilSS q, I 0] ∨ (r = .tup [nilS, I 3] ∧ ∃ c, c < p.length * p.length ∧ cellAt q (c / p.length) (c % p.length) = -1 ∧ cands q (c / p.length) (c % p.length) p.length = []))) := by
  have hv := ValidPartial_fn p
  rw [hp] at hv
  have hf := partB_facts hp
  have hnn : p.length * p.length ≤ 10 * 10 := Nat.mul_le_mul hf.2.1 hf.2.1
  have hn0 : (p.length : Int) ≠ 0 := by omega
  refine ACalls.introB s_impl_PropagatePartial (by simp) ?_; intro hB hA; unfold c_impl_PropagatePartial; simp (config := { maxSteps := 1000000 }) (disch := (first | omega | (simp only [go_sem]; try omega))) only [go_sem, Nat.reduceAdd, Nat.reduceEqDiff, Nat.reduceLeDiff, Nat.reduceMul, Nat.reduceLT, reduceIte, Int.reduceToNat, w64_id, cast_succ]
  repeat (first | (with_reducible first | refine SW.seq ?_ | refine SW.block ?_ | refine SW.rowC ?_ | refine SW.skip ?_ | refine SW.exit ?_ | refine PFn.use (hv) ?_ | refine PFn.useq (hv) ?_ | intro _ | refine And.intro (by omega) ?_) | simp (config := { maxSteps := 1000000 }) (disch := (first | omega | (simp only [go_sem]; try omega))) only [go_sem, Nat.reduceAdd, Nat.reduceEqDiff, Nat.reduceLeDiff, Nat.reduceMul, Nat.reduceLT, reduceIte, Int.reduceToNat, w64_id, cast_succ])
  refine SW.condF rfl ?_
  repeat (first | (with_reducible first | refine SW.seq ?_ | refine SW.block ?_ | refine SW.rowC ?_ | refine SW.skip ?_ | refine SW.exit ?_ | refine PFn.use (sizeS_fn _) ?_ | refine PFn.useq (sizeS_fn _) ?_ | intro _ | refine And.intro (by omega) ?_) | simp (config := { maxSteps := 1000000 }) (disch := (first | omega | (simp only [go_sem]; try omega))) only [go_sem, Nat.reduceAdd, Nat.reduceEqDiff, Nat.reduceLeDiff, Nat.reduceMul, Nat.reduceLT, reduceIte, Int.reduceToNat, w64_id, cast_succ])
  refine (copyLists_sq _ _ p.length p (rd_ilSS _ _) (by omega) (fun r hr => ⟨fun h => by have := hf.2.2 r hr; rw [h] at this; simp at this; omega, by have := hf.2.2 r hr; omega⟩)).mono ?_
  rintro r H1 ⟨rfl, rfl⟩
  repeat (first | (with_reducible first | refine SW.seq ?_ | refine SW.block ?_ | refine SW.rowC ?_ | refine SW.skip ?_ | refine SW.exit ?_ | intro _ | refine And.intro (by omega) ?_) | simp (config := { maxSteps := 1000000 }) (disch := (first | omega | (simp only [go_sem]; try omega))) only [go_sem, Nat.reduceAdd, Nat.reduceEqDiff, Nat.reduceLeDiff, Nat.reduceMul, Nat.reduceLT, reduceIte, Int.reduceToNat, w64_id, cast_succ])
  refine SW.loopE (fun E0 H0 m E' H' => ∃ q, Fills p.length p q ∧ m = (empT q p.length (p.length * p.length)).length ∧ E' = E0 ∧ H' = H ++ sqB p.length 1 H.length q) (empT p p.length (p.length * p.length)).length ⟨p, .same, rfl, rfl, rfl⟩ ?_
  rintro m E' H' ⟨q, hfl, rfl, rfl, rfl⟩
  have hs := hfl.sq hp
  simp (config := { maxSteps := 1000000 }) (disch := (first | omega | (simp only [go_sem]; try omega))) only [go_sem, Nat.reduceAdd, Nat.reduceEqDiff, Nat.reduceLeDiff, Nat.reduceMul, Nat.reduceLT, reduceIte, Int.reduceToNat, w64_id, cast_succ]
  repeat (first | (with_reducible first | refine SW.seq ?_ | refine SW.block ?_ | refine SW.rowC ?_ | refine SW.skip ?_ | refine SW.exit ?_ | intro _ | refine And.intro (by omega) ?_) | simp (config := { maxSteps := 1000000 }) (disch := (first | omega | (simp only [go_sem]; try omega))) only [go_sem, Nat.reduceAdd, Nat.reduceEqDiff, Nat.reduceLeDiff, Nat.reduceMul, Nat.reduceLT, reduceIte, Int.reduceToNat, w64_id, cast_succ])
  refine (fillSingle_ok H p.length q hs (by omega) (by omega)).mono ?_
  rintro r H1 (⟨rfl, rfl⟩ | ⟨c, v, rfl, hc, he, hv2, rfl⟩)
  rotate_left
  · have hfl2 : Fills p.length p (setC q (c / p.length) (c % p.length) (v : Int)) := .more hfl hc he hv2
    have hmem : c ∈ empT q p.length (p.length * p.length) := List.mem_filter.2 ⟨List.mem_range.2 hc, decide_eq_true he⟩
    have hlen : (empT (setC q (c / p.length) (c % p.length) (v : Int)) p.length (p.length * p.length)).length < (empT q p.length (p.length * p.length)).length := by
      rw [empT_fill hs hc, List.length_erase_of_mem hmem]
      have := List.length_pos_of_mem hmem
      omega
    repeat (first | (with_reducible first | refine SW.seq ?_ | refine SW.block ?_ | refine SW.rowC ?_ | refine SW.skip ?_ | refine SW.exit ?_ | intro _ | refine And.intro (by omega) ?_) | simp (config := { maxSteps := 1000000 }) (disch := (first | omega | (simp only [go_sem]; try omega))) only [go_sem, Nat.reduceAdd, Nat.reduceEqDiff, Nat.reduceLeDiff, Nat.reduceMul, Nat.reduceLT, reduceIte, Int.reduceToNat, w64_id, cast_succ])
    refine SW.condT rfl ?_
    repeat (first | (with_reducible first | refine SW.seq ?_ | refine SW.block ?_ | refine SW.rowC ?_ | refine SW.skip ?_ | refine SW.exit ?_ | intro _ | refine And.intro (by omega) ?_) | simp (config := { maxSteps := 1000000 }) (disch := (first | omega | (simp only [go_sem]; try omega))) only [go_sem, Nat.reduceAdd, Nat.reduceEqDiff, Nat.reduceLeDiff, Nat.reduceMul, Nat.reduceLT, reduceIte, Int.reduceToNat, w64_id, cast_succ])
    exact SLoop.next _ hlen ⟨_, hfl2, rfl, rfl, rfl⟩
  repeat (first | (with_reducible first | refine SW.seq ?_ | refine SW.block ?_ | refine SW.rowC ?_ | refine SW.skip ?_ | refine SW.exit ?_ | intro _ | refine And.intro (by omega) ?_) | simp (config := { maxSteps := 1000000 }) (disch := (first | omega | (simp only [go_sem]; try omega))) only [go_sem, Nat.reduceAdd, Nat.reduceEqDiff, Nat.reduceLeDiff, Nat.reduceMul, Nat.reduceLT, reduceIte, Int.reduceToNat, w64_id, cast_succ])
  refine SW.condF rfl ?_
  repeat (first | (with_reducible first | refine SW.seq ?_ | refine SW.block ?_ | refine SW.rowC ?_ | refine SW.skip ?_ | refine SW.exit ?_ | intro _ | refine And.intro (by omega) ?_) | simp (config := { maxSteps := 1000000 }) (disch := (first | omega | (simp only [go_sem]; try omega))) only [go_sem, Nat.reduceAdd, Nat.reduceEqDiff, Nat.reduceLeDiff, Nat.reduceMul, Nat.reduceLT, reduceIte, Int.reduceToNat, w64_id, cast_succ])
  have hfz : Froz (H ++ sqB p.length 1 H.length q) 0 (.nm H.length p.length 0 p.length) (ilSS q) := by
    have := froz_sqB (Hb := H) (v := p.length) (w := 1) (b := 0) (xss := q) (ext := []) (Nat.zero_le _)
    rw [hs.1, List.append_nil] at this
    exact this
  have hem := emptyCells_new q (by have := hs.1; omega) (fun r hr => by rw [hs.2 r hr, hs.1])
  rw [hs.1] at hem
  refine (hem.lendf (.cons hfz .nil)).mono ?_
  rintro r H1 ⟨rfl, rfl⟩
  have hcel : ∀ c ∈ natL (empT q p.length (p.length * p.length)), ∃ k : Nat, c = k ∧ k < p.length * p.length ∧ cellAt q (k / p.length) (k % p.length) = -1 := fun c hc => by
    obtain ⟨k, hk, rfl⟩ := List.mem_map.1 hc
    exact ⟨k, rfl, empT_lt hk, empT_cell hk⟩
  generalize natL (empT q p.length (p.length * p.length)) = L at *
  repeat (first | (with_reducible first | refine SW.seq ?_ | refine SW.block ?_ | refine SW.rowC ?_ | refine SW.skip ?_ | refine SW.exit ?_ | intro _ | refine And.intro (by omega) ?_) | simp (config := { maxSteps := 1000000 }) (disch := (first | omega | (simp only [go_sem]; try omega))) only [go_sem, Nat.reduceAdd, Nat.reduceEqDiff, Nat.reduceLeDiff, Nat.reduceMul, Nat.reduceLT, reduceIte, Int.reduceToNat, w64_id, cast_succ])
  refine SW.loopE (fun E0 H0 m E' H' => ∃ pre post : List Int, L = pre ++ post ∧ m = post.length ∧ E' = aput E0 20 (I pre.length) ∧ H' = H0) L.length ⟨[], L, rfl, rfl, rfl, rfl⟩ ?_
  rintro m E' H' ⟨pre, post, hpp, rfl, rfl, rfl⟩
  simp (config := { maxSteps := 1000000 }) (disch := (first | omega | (simp only [go_sem]; try omega))) only [go_sem, Nat.reduceAdd, Nat.reduceEqDiff, Nat.reduceLeDiff, Nat.reduceMul, Nat.reduceLT, reduceIte, Int.reduceToNat, w64_id, cast_succ]
  repeat (first | (with_reducible first | refine SW.seq ?_ | refine SW.block ?_ | refine SW.rowC ?_ | refine SW.skip ?_ | refine SW.exit ?_ | intro _ | refine And.intro (by omega) ?_) | simp (config := { maxSteps := 1000000 }) (disch := (first | omega | (simp only [go_sem]; try omega))) only [go_sem, Nat.reduceAdd, Nat.reduceEqDiff, Nat.reduceLeDiff, Nat.reduceMul, Nat.reduceLT, reduceIte, Int.reduceToNat, w64_id, cast_succ])
  (first | refine SW.condD rfl (fun h => ?_) (fun h => ?_) | refine SW.condN rfl (fun h => ?_) (fun h => ?_) | refine SW.condNB rfl (fun h => ?_) (fun h => ?_) | refine SW.condB rfl (fun h => ?_) (fun h => ?_))
  · obtain ⟨c, post, rfl, hg, -⟩ := consOf (d := 0) hpp (by omega)
    obtain ⟨c, rfl, hc, hce⟩ := hcel c (by rw [hpp]; simp)
    have hx : c / p.length < p.length := Nat.div_lt_of_lt_mul hc
    have hy : c % p.length < p.length := Nat.mod_lt _ (by omega)
    have hd1 : (c : Int).tdiv p.length = ((c / p.length : Nat) : Int) := (Int.ofNat_tdiv c p.length).symm
    have hd2 : (c : Int).tmod p.length = ((c % p.length : Nat) : Int) := (Int.ofNat_tmod c p.length).symm
    have hgoal := fun (hv : cands q (c / p.length) (c % p.length) p.length = []) => (⟨c, hc, hce, hv⟩ : ∃ c', c' < p.length * p.length ∧ cellAt q (c' / p.length) (c' % p.length) = -1 ∧ cands q (c' / p.length) (c' % p.length) p.length = [])
    generalize c / p.length = x at *
    generalize c % p.length = y at *
    have hcan := candidates_new q x y (by have := hs.1; omega) (by have := hs.1; omega) (fun r hr => by rw [hs.2 r hr]; exact hy)
    rw [hs.1] at hcan
    have hcl := cands_len q x y p.length
    generalize cands q x y p.length = C at *
    repeat (first | (with_reducible first | refine SW.seq ?_ | refine SW.block ?_ | refine SW.rowC ?_ | refine SW.skip ?_ | refine SW.exit ?_ | intro _ | refine And.intro (by omega) ?_) | simp (config := { maxSteps := 1000000 }) (disch := (first | omega | (simp only [go_sem]; try omega))) only [go_sem, Nat.reduceAdd, Nat.reduceEqDiff, Nat.reduceLeDiff, Nat.reduceMul, Nat.reduceLT, reduceIte, Int.reduceToNat, w64_id, cast_succ, hg, hd1, hd2, hn0])
    refine ⟨_, hcan.lendq (.cons hfz (.cons (.I _) (.cons (.I _) .nil))), ?_⟩
    repeat (first | (with_reducible first | refine SW.seq ?_ | refine SW.block ?_ | refine SW.rowC ?_ | refine SW.skip ?_ | refine SW.exit ?_ | intro _ | refine And.intro (by omega) ?_) | simp (config := { maxSteps := 1000000 }) (disch := (first | omega | (simp only [go_sem]; try omega))) only [go_sem, Nat.reduceAdd, Nat.reduceEqDiff, Nat.reduceLeDiff, Nat.reduceMul, Nat.reduceLT, reduceIte, Int.reduceToNat, w64_id, cast_succ])
    by_cases hC : C.length = 0
    · obtain rfl := List.eq_nil_of_length_eq_zero hC
      refine SW.condT (by simp [go_sem]) ?_
      repeat (first | (with_reducible first | refine SW.seq ?_ | refine SW.block ?_ | refine SW.rowC ?_ | refine SW.skip ?_ | refine SW.exit ?_ | intro _ | refine And.intro (by omega) ?_) | simp (config := { maxSteps := 1000000 }) (disch := (first | omega | (simp only [go_sem]; try omega))) only [go_sem, Nat.reduceAdd, Nat.reduceEqDiff, Nat.reduceLeDiff, Nat.reduceMul, Nat.reduceLT, reduceIte, Int.reduceToNat, w64_id, cast_succ])
      refine SW.ret ?_; (try simp only [go_sem]); (first | refine FunPost.one ?_ | refine FunPost.two ?_ | refine FunPost.three ?_); (try simp (config := { maxSteps := 1000000 }) (disch := (first | omega | (simp only [go_sem]; try omega))) only [go_sem, Nat.reduceAdd, Nat.reduceEqDiff, Nat.reduceLeDiff, Nat.reduceMul, Nat.reduceLT, reduceIte, Int.reduceToNat, w64_id, cast_succ])
      exact GR.froz (froz_tup2 (.old _ (.lit _)) (froz_I' _)) ⟨rfl, q, hfl, .inr ⟨rfl, hgoal rfl⟩⟩
    · refine SW.condF (show Bv (decide ((C.length : Int) = 0)) = Bv false by rw [decide_eq_false (by omega)]) ?_
      repeat (first | (with_reducible first | refine SW.seq ?_ | refine SW.block ?_ | refine SW.rowC ?_ | refine SW.skip ?_ | refine SW.exit ?_ | intro _ | refine And.intro (by omega) ?_) | simp (config := { maxSteps := 1000000 }) (disch := (first | omega | (simp only [go_sem]; try omega))) only [go_sem, Nat.reduceAdd, Nat.reduceEqDiff, Nat.reduceLeDiff, Nat.reduceMul, Nat.reduceLT, reduceIte, Int.reduceToNat, w64_id, cast_succ])
      exact SLoop.next post.length (by simp) ⟨pre ++ [(c : Int)], post, by simp [hpp], rfl, by simp [go_sem], rfl⟩
  · obtain ⟨rfl, rfl⟩ := nilOf hpp (by omega)
    repeat (first | (with_reducible first | refine SW.seq ?_ | refine SW.block ?_ | refine SW.rowC ?_ | refine SW.skip ?_ | refine SW.exit ?_ | intro _ | refine And.intro (by omega) ?_) | simp (config := { maxSteps := 1000000 }) (disch := (first | omega | (simp only [go_sem]; try omega))) only [go_sem, Nat.reduceAdd, Nat.reduceEqDiff, Nat.reduceLeDiff, Nat.reduceMul, Nat.reduceLT, reduceIte, Int.reduceToNat, w64_id, cast_succ])
    refine SW.ret ?_; (try simp only [go_sem]); (first | refine FunPost.one ?_ | refine FunPost.two ?_ | refine FunPost.three ?_); (try simp (config := { maxSteps := 1000000 }) (disch := (first | omega | (simp only [go_sem]; try omega))) only [go_sem, Nat.reduceAdd, Nat.reduceEqDiff, Nat.reduceLeDiff, Nat.reduceMul, Nat.reduceLT, reduceIte, Int.reduceToNat, w64_id, cast_succ])
    have hfzB : Froz (H ++ sqB p.length 1 H.length q) H.length (.nm H.length p.length 0 p.length) (ilSS q) := by
      have := froz_sqB (Hb := H) (v := p.length) (w := 1) (b := H.length) (xss := q) (ext := []) (Nat.le_refl _)
      rw [hs.1, List.append_nil] at this
      exact this
    exact GR.froz (froz_tup2 hfzB (froz_I' _)) ⟨rfl, q, hfl, .inl rfl⟩
end Go.Proofs.Ytchehdplcbffmaa
