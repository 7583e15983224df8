/- Images of sets and of systems: both ways. -/
import Derived.Test.YthogadbnddmkdaaGreatProg
import Derived.KernelRfl
import Derived.Test.YthogadbnddmkdaaGreatzK61
import Derived.Test.YthogadbnddmkdaaGreatzK50
import Derived.Test.YthogadbnddmkdaaGreatzK8
set_option linter.unusedSimpArgs false
set_option linter.unusedVariables false
set_option maxHeartbeats 4000000
set_option maxRecDepth 100000
namespace Go.Proofs.YthogadbnddmkdaaGreat
open Go.Av
abbrev f_impl_image : Nat := 72
def c_impl_image : SC :=
 .seq (.reg [
     ⟨(some 4), .mv (.const (.slice none 0 0)), none⟩] [0, 1])
 (.seq (.reg [
     ⟨(some 5), .mv (.const (.slice none 0 0)), none⟩] [0, 1, 5])
 (.seq (.seq (.reg [
     ⟨(some 8), .mv (.tmp 1), none⟩,
     ⟨(some 9), .len (.tmp 8), none⟩,
     ⟨(some 10), .mv (.const (.int .i64 0)), none⟩] [0, 5, 8, 9, 10])
 (.block 0 (.loop [0, 5, 8, 9, 10]
   (.seq (.reg [
       ⟨(some 11), .bin .lss (.tmp 10) (.tmp 9), none⟩] [0, 5, 8, 9, 10, 11])
   (.seq (.cond (.tmp 11)
    (.skip)
    (.exit 0))
   (.seq (.block 1 (.seq (.reg [
        ⟨(some 12), .iaddr 1 (.tmp 8) (.tmp 10), none⟩,
        ⟨(some 13), .load 1 false (.tmp 12), none⟩,
        ⟨(some 7), .mv (.tmp 13), none⟩] [0, 5, 7, 8, 9, 10])
    (.reg [
        ⟨(some 14), .mv (.tmp 5), none⟩,
        ⟨(some 15), .mv (.tmp 0), none⟩,
        ⟨(some 16), .mv (.tmp 7), none⟩,
        ⟨(some 17), .iaddr 1 (.tmp 15) (.tmp 16), none⟩,
        ⟨(some 18), .load 1 false (.tmp 17), none⟩,
        ⟨(some 19), .bslice 2 1 1 [(.int .i64 0)] [(0, (.tmp 18))], none⟩,
        ⟨(some 20), .app 2 1 8 (.tmp 14) (.tmp 19), none⟩,
        ⟨(some 5), .mv (.tmp 20), none⟩] [0, 5, 8, 9, 10])))
   (.reg [
       ⟨(some 21), .bin .add (.tmp 10) (.const (.int .i64 1)), none⟩,
       ⟨(some 10), .mv (.tmp 21), none⟩] [0, 5, 8, 9, 10])))))))
 (.seq (.reg [
     ⟨(some 22), .mv (.tmp 5), none⟩,
     ⟨(some 23), .call 118 [(.tmp 22)], none⟩] [5])
 (.seq (.reg [
     ⟨(some 24), .mv (.tmp 5), none⟩,
     ⟨(some 4), .mv (.tmp 24), none⟩] [4])
 (.ret)))))
theorem s_impl_image : stripF Tryz.prog 72 [[0, 1], [0, 1, 5], [0, 5, 8, 9, 10], [0, 5, 8, 9, 10], [0, 5, 8, 9, 10, 11], [0, 5, 7, 8, 9, 10], [0, 5, 8, 9, 10], [0, 5, 8, 9, 10], [5], [4]] = some (c_impl_image, [.tmp 4], 25) := by kernel_rfl
theorem pa_get {n : Nat} {p : List Int} (hp : permOk n p) {x : Int} (h0 : 0 ≤ x) (h1 : x < n) : x.toNat < p.length ∧ p.getD x.toNat 0 = pa p x := ⟨by rw [hp.1]; omega, rfl⟩
theorem image_fn (n : Nat) (p b : List Int) (hn : n ≤ 64) (hp : permOk n p) (hb : asc 0 ((n : Int) - 1) b = true) : PFn Tryz.prog f_impl_image [ilS p, ilS b] (ilS (img p b)) := by
  intro H; refine ACalls.introB s_impl_image (by simp) ?_; intro hB hA; unfold c_impl_image; simp (config := { maxSteps := 1000000 }) (disch := (first | omega | (simp only [go_sem]; try omega))) only [go_sem, Nat.reduceAdd, Nat.reduceEqDiff, Nat.reduceLeDiff, Nat.reduceMul, Nat.reduceLT, reduceIte, Int.reduceToNat, w64_id, cast_succ]
  repeat (first | (with_reducible first | refine SW.seq ?_ | refine SW.block ?_ | refine SW.rowC ?_ | refine SW.skip ?_ | refine SW.exit ?_ | intro _ | refine And.intro (by omega) ?_) | simp (config := { maxSteps := 1000000 }) (disch := (first | omega | (simp only [go_sem]; try omega))) only [go_sem, Nat.reduceAdd, Nat.reduceEqDiff, Nat.reduceLeDiff, Nat.reduceMul, Nat.reduceLT, reduceIte, Int.reduceToNat, w64_id, cast_succ])
  have hbl : b.length ≤ 64 := by rcases asc_len hb with h | h; (rw [h]; simp); omega
  have hbm := asc_mem hb
  refine SW.ghost (Gh.name 5 2 1 rfl) ?_
  simp (config := { maxSteps := 1000000 }) (disch := (first | omega | (simp only [go_sem]; try omega))) only [go_sem, Nat.reduceAdd, Nat.reduceEqDiff, Nat.reduceLeDiff, Nat.reduceMul, Nat.reduceLT, reduceIte, Int.reduceToNat, w64_id, cast_succ]
  refine SW.loopE (fun E0 H0 q E' H' => ∃ (pre post : List Int) (ver : Nat), b = pre ++ post ∧ q = post.length ∧ E' = aput (aput E0 10 (I pre.length)) 5 (.nm H.length ver 0 (pre.map (pa p)).length) ∧ H' = H ++ [⟨ver, 2, 1, (pre.map (pa p)).map I⟩]) b.length ⟨[], b, 0, rfl, rfl, rfl, rfl⟩ ?_
  rintro q E' H' ⟨pre, post, ver, hpp, rfl, rfl, rfl⟩
  have hpl : pre.length ≤ 64 := by rw [hpp] at hbl; simp at hbl; omega
  have hml : (pre.map (pa p)).length = pre.length := by simp
  have hms : ∀ y, (pre ++ [y]).map (pa p) = pre.map (pa p) ++ [pa p y] := fun y => by simp
  generalize hM : pre.map (pa p) = M at *
  have htl : (M.map I).take M.length = M.map I := List.take_of_length_le (by simp)
  simp (config := { maxSteps := 1000000 }) (disch := (first | omega | (simp only [go_sem]; try omega))) only [go_sem, Nat.reduceAdd, Nat.reduceEqDiff, Nat.reduceLeDiff, Nat.reduceMul, Nat.reduceLT, reduceIte, Int.reduceToNat, w64_id, cast_succ]
  repeat (first | (with_reducible first | refine SW.seq ?_ | refine SW.block ?_ | refine SW.rowC ?_ | refine SW.skip ?_ | refine SW.exit ?_ | intro _ | refine And.intro (by omega) ?_) | simp (config := { maxSteps := 1000000 }) (disch := (first | omega | (simp only [go_sem]; try omega))) only [go_sem, Nat.reduceAdd, Nat.reduceEqDiff, Nat.reduceLeDiff, Nat.reduceMul, Nat.reduceLT, reduceIte, Int.reduceToNat, w64_id, cast_succ])
  (first | refine SW.condD rfl (fun h => ?_) (fun h => ?_) | refine SW.condN rfl (fun h => ?_) (fun h => ?_) | refine SW.condNB rfl (fun h => ?_) (fun h => ?_) | refine SW.condB rfl (fun h => ?_) (fun h => ?_))
  · obtain ⟨y, post, rfl, hg, -⟩ := consOf (d := 0) hpp (by omega)
    have hy := hbm y (by rw [hpp]; simp)
    obtain ⟨hg1, hg2⟩ := pa_get hp hy.1 (by omega)
    repeat (first | (with_reducible first | refine SW.seq ?_ | refine SW.block ?_ | refine SW.rowC ?_ | refine SW.skip ?_ | refine SW.exit ?_ | intro _ | refine And.intro (by omega) ?_) | simp (config := { maxSteps := 1000000 }) (disch := (first | omega | (simp only [go_sem]; try omega))) only [go_sem, Nat.reduceAdd, Nat.reduceEqDiff, Nat.reduceLeDiff, Nat.reduceMul, Nat.reduceLT, reduceIte, Int.reduceToNat, w64_id, cast_succ, hg, hg2, htl])
    refine SLoop.nextT 1 post.length hB (by omega) (by simp) (by simp) ?_ ?_ ⟨pre ++ [y], post, ver + 1, by simp [hpp], rfl, ?_, ?_⟩
    · (simp only [go_sem, Nat.reduceAdd, Nat.reduceEqDiff, reduceIte, go_sem, and_self, and_true, true_and, implies_true, List.take_succ_cons, List.take_zero, and_true, true_and]; try omega)
    · (simp only [go_sem, Nat.reduceAdd, Nat.reduceEqDiff, reduceIte, go_sem, and_self, and_true, true_and, implies_true, List.take_succ_cons, List.take_zero, and_true, true_and]; try omega)
    · simp [go_sem, hml]
    · rw [hms]; simp
  · obtain ⟨rfl, rfl⟩ := nilOf hpp (by omega)
    repeat (first | (with_reducible first | refine SW.seq ?_ | refine SW.block ?_ | refine SW.rowC ?_ | refine SW.skip ?_ | refine SW.exit ?_ | intro _ | refine And.intro (by omega) ?_) | simp (config := { maxSteps := 1000000 }) (disch := (first | omega | (simp only [go_sem]; try omega))) only [go_sem, Nat.reduceAdd, Nat.reduceEqDiff, Nat.reduceLeDiff, Nat.reduceMul, Nat.reduceLT, reduceIte, Int.reduceToNat, w64_id, cast_succ])
    refine (sortI_ok sortL_p sortL_n _ H.length ver 2 M (by simp) (by omega)).mono ?_
    rintro r H' ⟨rfl, rfl⟩
    rw [← hM, img_is hp hb, hM]
    have hil : (img p pre).length = M.length := by rw [← img_is hp hb, hM, isort_length]
    repeat (first | (with_reducible first | refine SW.seq ?_ | refine SW.block ?_ | refine SW.rowC ?_ | refine SW.skip ?_ | refine SW.exit ?_ | intro _ | refine And.intro (by omega) ?_) | simp (config := { maxSteps := 1000000 }) (disch := (first | omega | (simp only [go_sem]; try omega))) only [go_sem, Nat.reduceAdd, Nat.reduceEqDiff, Nat.reduceLeDiff, Nat.reduceMul, Nat.reduceLT, reduceIte, Int.reduceToNat, w64_id, cast_succ])
    refine SW.ret ?_; (try simp only [go_sem]); (first | refine FunPost.one ?_ | refine FunPost.two ?_ | refine FunPost.three ?_); (try simp (config := { maxSteps := 1000000 }) (disch := (first | omega | (simp only [go_sem]; try omega))) only [go_sem, Nat.reduceAdd, Nat.reduceEqDiff, Nat.reduceLeDiff, Nat.reduceMul, Nat.reduceLT, reduceIte, Int.reduceToNat, w64_id, cast_succ])
    rw [← hil]
    exact GR.froz (froz_rowI (r := H.length) (ver := ver) (ty := 2) (Nat.le_refl _) (by simp)) ⟨rfl, rfl⟩
theorem sortFz_ok (H : List Blk) (i ver ty : Nat) (xss : List (List Int)) (hi : H[i]? = some ⟨ver, ty, 1, xss.map ilS⟩) (hl : xss.length < 4611686018427387904) :
    ACalls Tryz.prog n_SortLL [.nm i ver 0 xss.length, .fn f_slices_Compare_Lint64_int64 []] H (fun r H' => r = .tup [] ∧ ∃ yss : List (List Int), yss.Perm xss ∧ yss.Pairwise (fun a b => ¬ cmpL b a < 0) ∧ H' = H.set i ⟨ver, ty, 1, yss.map ilS⟩) := by
  have h := sortF_ok sortLL_p sortLL_n slicesCompare_call ilS cmpL cmpL_tot.swo slicesCompare_fn H i ver ty (xss.map fun x => (ilS x, x)) (by rw [hi, List.map_map]; rfl) (fun p hp => by obtain ⟨x, _, rfl⟩ := List.mem_map.1 hp; rfl) (fun cells' p hp => by obtain ⟨x, _, rfl⟩ := List.mem_map.1 hp; exact froz_ilS x) (by rw [List.length_map]; exact hl)
  rw [List.length_map] at h
  refine h.mono ?_
  rintro r H' ⟨rfl, qs, hq, hs, rfl⟩
  have hfst : ∀ q ∈ qs, q.1 = ilS q.2 := fun q hq' => by obtain ⟨x, _, rfl⟩ := List.mem_map.1 (hq.mem_iff.1 hq'); rfl
  refine ⟨rfl, qs.map Prod.snd, ?_, ?_, ?_⟩
  · have := hq.map Prod.snd
    rwa [List.map_map, show (Prod.snd ∘ fun x : List Int => (ilS x, x)) = id from rfl, List.map_id] at this
  · rw [List.pairwise_map]; exact hs
  · rw [List.map_map]
    congr 2
    exact List.map_congr_left fun q hq' => hfst q hq'
end Go.Proofs.YthogadbnddmkdaaGreat
