/- Images of a set, each once, in order: the program. -/
import Derived.Test.YtkifdjjnbplghaaProg
import Derived.KernelRfl
import Derived.Test.YtkifdjjnbplghaaV9
import Derived.Test.YtkifdjjnbplghaaV8
import Derived.Test.YtkifdjjnbplghaaG1
import Derived.Test.YtkifdjjnbplghaaK20
set_option linter.unusedSimpArgs false
set_option linter.unusedVariables false
set_option maxHeartbeats 4000000
set_option maxRecDepth 100000
namespace Go.Av
theorem Sim.trunc {B : Nat} {W0 : World} {F : Fz} {m : List Ent} {H : List Blk} {w : World} (h : Sim B W0 F m H w) {i ver ty : Nat} {cells : List AV} (hk : H[i]? = some ⟨ver, ty, 1, cells⟩) (n : Nat) : Sim B W0 F m (H.set i ⟨ver, ty, 1, cells.take n⟩) w := by
  refine ⟨by simp [h.len], h.below, h.base, h.fz, h.apart, h.dist, fun j e k he hkk => ?_⟩
  have hlt := (List.getElem?_eq_some_iff.1 hk).1
  by_cases hij : i = j
  · subst hij
    rw [List.getElem?_set_self hlt] at hkk
    cases hkk
    obtain ⟨g1, g2, g3, g4, g5⟩ := h.blk i e _ he hk
    refine ⟨g1, g2, g3, fun hn => ⟨?_, (g4 hn).2⟩, fun b hb => ?_⟩
    · have := (g4 hn).1
      simp only at this
      simp [this]
    · obtain ⟨o1, ⟨o0, arr, o2, o3, o4, o5, o6⟩ | ⟨o0, _⟩⟩ := g5 b hb
      · refine ⟨o1, .inl ⟨o0, arr, o2, o3, ?_, fun q c v hc hv => ?_, o6⟩⟩
        · simp only [List.length_take] at o4 ⊢; omega
        · simp only [List.getElem?_take] at hc
          split at hc
          · exact o5 q c v hc hv
          · simp at hc
      · rw [g3] at o0; simp at o0
  · rw [List.getElem?_set_ne hij] at hkk
    exact h.blk j e k he hkk
/-- A block is told by its first cells alone. -/
theorem GR.trunc {H0 : List Blk} {R : AV → List Blk → Prop} {r : AV} {H : List Blk} {i ver ty : Nat} {cells : List AV} (n : Nat) (hk : H[i]? = some ⟨ver, ty, 1, cells⟩) (h : GR H0 R r (H.set i ⟨ver, ty, 1, cells.take n⟩)) : GR H0 R r H :=
  fun B W0 F0 m0 w0 F m w v hs0 hF hm hr hs => h B W0 F0 m0 w0 F m w v hs0 hF hm hr (hs.trunc hk n)
end Go.Av
namespace Go.Proofs.Ytkifdjjnbplghaa
open Go.Av

/-! The abstract code of functions, printed by program and tied to the program by the kernel. -/
/-- loop.example/g00920/impl.imagesOf -/
abbrev f_impl_imagesOf : Nat := 29
def c_impl_imagesOf : SC :=
 .seq (.reg [
     ⟨(some 2), .box 29 (.tmp 0), none⟩,
     ⟨(some 4), .mv (.const (.slice none 0 0)), none⟩] [1, 2])
 (.seq (.reg [
     ⟨(some 5), .mv (.const (.slice none 0 0)), none⟩] [1, 2, 5])
 (.seq (.seq (.reg [
     ⟨(some 8), .faddr 1 (.tmp 2), none⟩,
     ⟨(some 9), .load 1 false (.tmp 8), none⟩,
     ⟨(some 10), .len (.tmp 9), none⟩,
     ⟨(some 11), .mv (.const (.int .i64 0)), none⟩] [1, 5, 9, 10, 11])
 (.block 0 (.loop [1, 5, 9, 10, 11]
   (.seq (.reg [
       ⟨(some 12), .bin .lss (.tmp 11) (.tmp 10), none⟩] [1, 5, 9, 10, 11, 12])
   (.seq (.cond (.tmp 12)
    (.skip)
    (.exit 0))
   (.seq (.block 1 (.seq (.reg [
        ⟨(some 13), .iaddr 1 (.tmp 9) (.tmp 11), none⟩,
        ⟨(some 14), .load 1 false (.tmp 13), none⟩,
        ⟨(some 7), .mv (.tmp 14), none⟩] [1, 5, 7, 9, 10, 11])
    (.reg [
        ⟨(some 15), .mv (.tmp 5), none⟩,
        ⟨(some 16), .mv (.tmp 7), none⟩,
        ⟨(some 17), .mv (.tmp 1), none⟩,
        ⟨(some 18), .call 53 [(.tmp 16), (.tmp 17)], none⟩,
        ⟨(some 19), .bslice 25 1 1 [(.slice none 0 0)] [(0, (.tmp 18))], none⟩,
        ⟨(some 20), .app 25 1 24 (.tmp 15) (.tmp 19), none⟩,
        ⟨(some 5), .mv (.tmp 20), none⟩] [1, 5, 9, 10, 11])))
   (.reg [
       ⟨(some 21), .bin .add (.tmp 11) (.const (.int .i64 1)), none⟩,
       ⟨(some 11), .mv (.tmp 21), none⟩] [1, 5, 9, 10, 11])))))))
 (.seq (.reg [
     ⟨(some 22), .mv (.tmp 5), none⟩,
     ⟨(some 23), .call 54 [(.tmp 22), (.func 55)], none⟩] [5])
 (.seq (.reg [
     ⟨(some 24), .mv (.tmp 5), none⟩,
     ⟨(some 25), .call 56 [(.tmp 24), (.func 57)], none⟩,
     ⟨(some 4), .mv (.tmp 25), none⟩] [4])
 (.ret)))))
theorem s_impl_imagesOf : stripF Try.prog 29 [[1, 2], [1, 2, 5], [1, 5, 9, 10, 11], [1, 5, 9, 10, 11], [1, 5, 9, 10, 11, 12], [1, 5, 7, 9, 10, 11], [1, 5, 9, 10, 11], [1, 5, 9, 10, 11], [5], [4]] = some (c_impl_imagesOf, [.tmp 4], 26) := by kernel_rfl


theorem image_new (n : Nat) (p b : List Int) (hn : n ≤ 64) (hp : permOk n p) (hb : asc 0 ((n : Int) - 1) b = true) : NewS Try.prog f_impl_image [ilS p, ilS b] (img p b) := by
  intro H
  refine ACalls.introB s_impl_image (by simp) ?_; intro hB hA; unfold c_impl_image; simp (config := { maxSteps := 1000000 }) (disch := (first | omega | (simp only [go_sem]; try omega))) only [go_sem, Nat.reduceAdd, Nat.reduceEqDiff, Nat.reduceLeDiff, Nat.reduceMul, Nat.reduceLT, reduceIte, Int.reduceToNat, w64_id, cast_succ]
  repeat (first | (with_reducible first | refine SW.seq ?_ | refine SW.block ?_ | refine SW.rowC ?_ | refine SW.skip ?_ | refine SW.exit ?_ | intro _ | refine And.intro (by omega) ?_) | simp (config := { maxSteps := 1000000 }) (disch := (first | omega | (simp only [go_sem]; try omega))) only [go_sem, Nat.reduceAdd, Nat.reduceEqDiff, Nat.reduceLeDiff, Nat.reduceMul, Nat.reduceLT, reduceIte, Int.reduceToNat, w64_id, cast_succ])
  have hbl : b.length ≤ 64 := by rcases asc_len hb with h | h; (rw [h]; simp); omega
  have hbm := asc_mem hb
  refine SW.ghost (Gh.name 5 2 1 rfl) ?_
  simp (config := { maxSteps := 1000000 }) (disch := (first | omega | (simp only [go_sem]; try omega))) only [go_sem, Nat.reduceAdd, Nat.reduceEqDiff, Nat.reduceLeDiff, Nat.reduceMul, Nat.reduceLT, reduceIte, Int.reduceToNat, w64_id, cast_succ]
  refine SW.loopE (fun E0 H0 q E' H' => ∃ (pre post : List Int) (ver : Nat), b = pre ++ post ∧ q = post.length ∧ E' = aput (aput E0 10 (I pre.length)) 5 (.nm H.length ver 0 (pre.map (pa p)).length) ∧ H' = H ++ [⟨ver, 2, 1, (pre.map (pa p)).map I⟩]) b.length ⟨[], b, 0, rfl, rfl, rfl, rfl⟩ ?_
  rintro q E' H' ⟨pre, post, ver, hpp, rfl, rfl, rfl⟩
  have hpl : pre.length ≤ 64 := by rw [hpp] at hbl; simp at hbl; omega
  have hml : (pre.map (pa p)).length = pre.length := by simp
  have hms : ∀ y, (pre ++ [y]).map (pa p) = pre.map (pa p) ++ [pa p y] := fun y => by simp
  generalize hM : pre.map (pa p) = M at *
  have htl : (M.map I).take M.length = M.map I := List.take_of_length_le (by simp)
  simp (config := { maxSteps := 1000000 }) (disch := (first | omega | (simp only [go_sem]; try omega))) only [go_sem, Nat.reduceAdd, Nat.reduceEqDiff, Nat.reduceLeDiff, Nat.reduceMul, Nat.reduceLT, reduceIte, Int.reduceToNat, w64_id, cast_succ]
  repeat (first | (with_reducible first | refine SW.seq ?_ | refine SW.block ?_ | refine SW.rowC ?_ | refine SW.skip ?_ | refine SW.exit ?_ | intro _ | refine And.intro (by omega) ?_) | simp (config := { maxSteps := 1000000 }) (disch := (first | omega | (simp only [go_sem]; try omega))) only [go_sem, Nat.reduceAdd, Nat.reduceEqDiff, Nat.reduceLeDiff, Nat.reduceMul, Nat.reduceLT, reduceIte, Int.reduceToNat, w64_id, cast_succ])
  (first | refine SW.condD rfl (fun h => ?_) (fun h => ?_) | refine SW.condN rfl (fun h => ?_) (fun h => ?_) | refine SW.condNB rfl (fun h => ?_) (fun h => ?_) | refine SW.condB rfl (fun h => ?_) (fun h => ?_))
  · obtain ⟨y, post, rfl, hg, -⟩ := consOf (d := 0) hpp (by omega)
    have hy := hbm y (by rw [hpp]; simp)
    obtain ⟨hg1, hg2⟩ := pa_get hp hy.1 (by omega)
    repeat (first | (with_reducible first | refine SW.seq ?_ | refine SW.block ?_ | refine SW.rowC ?_ | refine SW.skip ?_ | refine SW.exit ?_ | intro _ | refine And.intro (by omega) ?_) | simp (config := { maxSteps := 1000000 }) (disch := (first | omega | (simp only [go_sem]; try omega))) only [go_sem, Nat.reduceAdd, Nat.reduceEqDiff, Nat.reduceLeDiff, Nat.reduceMul, Nat.reduceLT, reduceIte, Int.reduceToNat, w64_id, cast_succ, hg, hg2, htl])
    refine SLoop.nextT 1 post.length hB (by omega) (by simp) (by simp) ?_ ?_ ⟨pre ++ [y], post, ver + 1, by simp [hpp], rfl, ?_, ?_⟩
    · (simp only [go_sem, Nat.reduceAdd, Nat.reduceEqDiff, reduceIte, go_sem, and_self, and_true, true_and, implies_true, List.take_succ_cons, List.take_zero, and_true, true_and]; try omega)
    · (simp only [go_sem, Nat.reduceAdd, Nat.reduceEqDiff, reduceIte, go_sem, and_self, and_true, true_and, implies_true, List.take_succ_cons, List.take_zero, and_true, true_and]; try omega)
    · simp [go_sem, hml]
    · rw [hms]; simp
  · obtain ⟨rfl, rfl⟩ := nilOf hpp (by omega)
    repeat (first | (with_reducible first | refine SW.seq ?_ | refine SW.block ?_ | refine SW.rowC ?_ | refine SW.skip ?_ | refine SW.exit ?_ | intro _ | refine And.intro (by omega) ?_) | simp (config := { maxSteps := 1000000 }) (disch := (first | omega | (simp only [go_sem]; try omega))) only [go_sem, Nat.reduceAdd, Nat.reduceEqDiff, Nat.reduceLeDiff, Nat.reduceMul, Nat.reduceLT, reduceIte, Int.reduceToNat, w64_id, cast_succ])
    refine (sortI_ok sortL_p sortL_n _ H.length ver 2 M (by simp) (by omega)).mono ?_
    rintro r H' ⟨rfl, rfl⟩
    rw [← hM, img_is hp hb, hM]
    have hil : (img p pre).length = M.length := by rw [← img_is hp hb, hM, isort_length]
    repeat (first | (with_reducible first | refine SW.seq ?_ | refine SW.block ?_ | refine SW.rowC ?_ | refine SW.skip ?_ | refine SW.exit ?_ | intro _ | refine And.intro (by omega) ?_) | simp (config := { maxSteps := 1000000 }) (disch := (first | omega | (simp only [go_sem]; try omega))) only [go_sem, Nat.reduceAdd, Nat.reduceEqDiff, Nat.reduceLeDiff, Nat.reduceMul, Nat.reduceLT, reduceIte, Int.reduceToNat, w64_id, cast_succ])
    refine SW.ret ?_; (try simp only [go_sem]); (first | refine FunPost.one ?_ | refine FunPost.two ?_ | refine FunPost.three ?_); (try simp (config := { maxSteps := 1000000 }) (disch := (first | omega | (simp only [go_sem]; try omega))) only [go_sem, Nat.reduceAdd, Nat.reduceEqDiff, Nat.reduceLeDiff, Nat.reduceMul, Nat.reduceLT, reduceIte, Int.reduceToNat, w64_id, cast_succ])
    rw [← hil]
    exact GR.oneS (Nat.le_refl _) (by simp)

theorem OwnC.compact {H : List Blk} {N : Nat → Prop} {t ver ty : Nat} {cells : List AV} {xs : List (List Int)} (h : OwnC H N t ver ty cells xs) (m : Nat) (hm : m ≤ xs.length) :
    OwnC (H.set t ⟨ver, ty, 1, (keepI xs m).map (fun j => cells.getD j nilS)⟩) N t ver ty ((keepI xs m).map (fun j => cells.getD j nilS)) (ddT xs m) := by
  obtain ⟨h1, h2, h3, h4, h5⟩ := h
  have hlt := (List.getElem?_eq_some_iff.1 h2).1
  have hK : ∀ j ∈ keepI xs m, j < xs.length := fun j hj => by have := List.mem_range.1 (List.mem_filter.1 hj).1; omega
  have hKn : (keepI xs m).Nodup := by
    rw [List.nodup_iff_pairwise_ne]
    exact (List.pairwise_lt_range.filter _).imp (fun h => by omega)
  have hcg : ∀ j, j < xs.length → cells[j]? = some (cells.getD j nilS) := fun j hj => by
    rw [List.getD_eq_getElem?_getD, List.getElem?_eq_getElem (by omega)]; rfl
  refine ⟨h1, List.getElem?_set_self hlt, by rw [← keepI_map]; simp, ?_, ?_⟩
  · intro j c x hc hx
    rw [← keepI_map] at hx
    rw [List.getElem?_map] at hc hx
    cases hj : (keepI xs m)[j]? with
    | none => rw [hj] at hc; simp at hc
    | some q =>
      rw [hj] at hc hx
      simp only [Option.map_some, Option.some.injEq] at hc hx
      subst hc; subst hx
      have hq := hK q (List.mem_of_getElem? hj)
      refine (h4 q _ _ (hcg q hq) (by rw [List.getD_eq_getElem?_getD, List.getElem?_eq_getElem hq]; rfl)).same (fun r b hN hrt hb => ?_)
      rw [List.getElem?_set_ne (Ne.symm hrt)]; exact hb
  · intro i j r v o l v' o' l' hij g1 g2
    rw [List.getElem?_map] at g1 g2
    cases hi : (keepI xs m)[i]? with
    | none => rw [hi] at g1; simp at g1
    | some a =>
      cases hj : (keepI xs m)[j]? with
      | none => rw [hj] at g2; simp at g2
      | some b =>
        rw [hi] at g1; rw [hj] at g2
        simp only [Option.map_some, Option.some.injEq] at g1 g2
        have ha := hK a (List.mem_of_getElem? hi)
        have hb := hK b (List.mem_of_getElem? hj)
        have hab : a ≠ b := by
          rintro rfl
          obtain ⟨p1, p2⟩ := List.getElem?_eq_some_iff.1 hi
          obtain ⟨q1, q2⟩ := List.getElem?_eq_some_iff.1 hj
          exact hij ((List.getElem_inj hKn).1 (p2.trans q2.symm))
        exact h5 a b r v o l v' o' l' hab (by rw [hcg a ha, g1]) (by rw [hcg b hb, g2])

/-- The images of a set under some permutations. -/
def imgsOf (els : List (List Int)) (set : List Int) : List (List Int) := els.map fun p => img p set
theorem imagesOf_own (H : List Blk) (n : Nat) (els : List (List Int)) (set : List Int) (hn : n ≤ 32) (hel : 1 ≤ els.length) (hl : els.length ≤ 720) (hp : ∀ p ∈ els, permOk n p) (hb : asc 0 ((n : Int) - 1) set = true) :
    ACalls Try.prog f_impl_imagesOf [.agg [I n, ilSS els], ilS set] H (fun r H' => ∃ ext, H' = H ++ ext ∧ OwnSS H' (Btw H.length H'.length) r (sortU cmpL (imgsOf els set))) := by
  refine ACalls.introB s_impl_imagesOf (by simp) ?_; intro hB hA; unfold c_impl_imagesOf; simp (config := { maxSteps := 1000000 }) (disch := (first | omega | (simp only [go_sem]; try omega))) only [go_sem, Nat.reduceAdd, Nat.reduceEqDiff, Nat.reduceLeDiff, Nat.reduceMul, Nat.reduceLT, reduceIte, Int.reduceToNat, w64_id, cast_succ]
  repeat (first | (with_reducible first | refine SW.seq ?_ | refine SW.block ?_ | refine SW.rowC ?_ | refine SW.skip ?_ | refine SW.exit ?_ | intro _ | refine And.intro (by omega) ?_) | simp (config := { maxSteps := 1000000 }) (disch := (first | omega | (simp only [go_sem]; try omega))) only [go_sem, Nat.reduceAdd, Nat.reduceEqDiff, Nat.reduceLeDiff, Nat.reduceMul, Nat.reduceLT, reduceIte, Int.reduceToNat, w64_id, cast_succ])
  refine SW.loopE (fun E0 H0 q E' H' => ∃ (pre post : List (List Int)) (v : AV), els = pre ++ post ∧ q = post.length ∧ E' = aput (aput E0 11 (I pre.length)) 5 v ∧ GrowSS H' (H.length + 1) tyLL v (imgsOf pre set) ∧ H.length + 1 ≤ H'.length ∧ ∀ j, j < H.length + 1 → H'[j]? = H0[j]?) els.length ⟨[], els, nilS, rfl, rfl, rfl, .inl ⟨rfl, rfl⟩, by simp, fun _ _ => rfl⟩ ?_
  rintro q E' H1 ⟨pre, post, v, hpp, rfl, rfl, hgr, hHl, hpre⟩
  have hprl : pre.length ≤ 720 := by rw [hpp] at hl; simp at hl; omega
  have hil : (imgsOf pre set).length = pre.length := by simp [imgsOf]
  simp (config := { maxSteps := 1000000 }) (disch := (first | omega | (simp only [go_sem]; try omega))) only [go_sem, Nat.reduceAdd, Nat.reduceEqDiff, Nat.reduceLeDiff, Nat.reduceMul, Nat.reduceLT, reduceIte, Int.reduceToNat, w64_id, cast_succ]
  repeat (first | (with_reducible first | refine SW.seq ?_ | refine SW.block ?_ | refine SW.rowC ?_ | refine SW.skip ?_ | refine SW.exit ?_ | intro _ | refine And.intro (by omega) ?_) | simp (config := { maxSteps := 1000000 }) (disch := (first | omega | (simp only [go_sem]; try omega))) only [go_sem, Nat.reduceAdd, Nat.reduceEqDiff, Nat.reduceLeDiff, Nat.reduceMul, Nat.reduceLT, reduceIte, Int.reduceToNat, w64_id, cast_succ])
  (first | refine SW.condD rfl (fun h2 => ?_) (fun h2 => ?_) | refine SW.condN rfl (fun h2 => ?_) (fun h2 => ?_) | refine SW.condNB rfl (fun h2 => ?_) (fun h2 => ?_) | refine SW.condB rfl (fun h2 => ?_) (fun h2 => ?_))
  · obtain ⟨p, post, rfl, hgp, -⟩ := consOf (d := []) hpp (by omega)
    have hpo := hp p (by rw [hpp]; simp)
    repeat (first | (with_reducible first | refine SW.seq ?_ | refine SW.block ?_ | refine SW.rowC ?_ | refine SW.skip ?_ | refine SW.exit ?_ | intro _ | refine And.intro (by omega) ?_) | simp (config := { maxSteps := 1000000 }) (disch := (first | omega | (simp only [go_sem]; try omega))) only [go_sem, Nat.reduceAdd, Nat.reduceEqDiff, Nat.reduceLeDiff, Nat.reduceMul, Nat.reduceLT, reduceIte, Int.reduceToNat, w64_id, cast_succ, hgp])
    refine (image_new n p set (by omega) hpo hb _).mono ?_
    rintro r H2 ⟨rfl, rfl⟩
    repeat (first | (with_reducible first | refine SW.seq ?_ | refine SW.block ?_ | refine SW.rowC ?_ | refine SW.skip ?_ | refine SW.exit ?_ | intro _ | refine And.intro (by omega) ?_) | simp (config := { maxSteps := 1000000 }) (disch := (first | omega | (simp only [go_sem]; try omega))) only [go_sem, Nat.reduceAdd, Nat.reduceEqDiff, Nat.reduceLeDiff, Nat.reduceMul, Nat.reduceLT, reduceIte, Int.reduceToNat, w64_id, cast_succ])
    refine GrowSS.appG rfl hgr (by omega) (Nat.le_refl _) (by rw [hil]; omega) (rv := 0) (rty := 2) (xs := img p set) (fun j b _ hb => by rw [List.getElem?_append_left (List.getElem?_eq_some_iff.1 hb).1]; exact hb) (by simp) ?_
    intro v3 H3 d1 d2 d3
    have e1 : imgsOf (pre ++ [p]) set = imgsOf pre set ++ [img p set] := by simp [imgsOf]
    repeat (first | (with_reducible first | refine SW.seq ?_ | refine SW.block ?_ | refine SW.rowC ?_ | refine SW.skip ?_ | refine SW.exit ?_ | intro _ | refine And.intro (by omega) ?_) | simp (config := { maxSteps := 1000000 }) (disch := (first | omega | (simp only [go_sem]; try omega))) only [go_sem, Nat.reduceAdd, Nat.reduceEqDiff, Nat.reduceLeDiff, Nat.reduceMul, Nat.reduceLT, reduceIte, Int.reduceToNat, w64_id, cast_succ])
    refine SLoop.next post.length (by simp) ⟨pre ++ [p], post, v3, by simp [hpp], rfl, by simp [go_sem], by rw [e1]; exact d1, by simp at d2; omega, fun j hj => ?_⟩
    rw [d3 j hj, List.getElem?_append_left (by omega)]; exact hpre j hj
  · obtain ⟨rfl, rfl⟩ := nilOf hpp (by omega)
    rcases hgr with ⟨_, h0⟩ | ⟨t, ver, cells, rfl, hown⟩
    · have := congrArg List.length h0
      rw [hil] at this
      simp only [List.length_nil] at this
      omega
    repeat (first | (with_reducible first | refine SW.seq ?_ | refine SW.block ?_ | refine SW.rowC ?_ | refine SW.skip ?_ | refine SW.exit ?_ | intro _ | refine And.intro (by omega) ?_) | simp (config := { maxSteps := 1000000 }) (disch := (first | omega | (simp only [go_sem]; try omega))) only [go_sem, Nat.reduceAdd, Nat.reduceEqDiff, Nat.reduceLeDiff, Nat.reduceMul, Nat.reduceLT, reduceIte, Int.reduceToNat, w64_id, cast_succ])
    refine (sortRows_ok hown (by omega)).mono ?_
    rintro r H2 ⟨rfl, cs, ys, hpm, hsd, rfl, hown2⟩
    have hlen : (imgsOf pre set).length = ys.length := hpm.length_eq.symm
    have ht := hown.1
    unfold Fr at ht
    have htl := (List.getElem?_eq_some_iff.1 hown.2.1).1
    have hpre2 : ∀ j, j < H.length → (H1.set t ⟨ver, tyLL, 1, cs⟩)[j]? = H[j]? := fun j hj => by
      rw [List.getElem?_set_ne (by omega), hpre j (by omega), List.getElem?_append_left hj]
    have hl2 : (H1.set t ⟨ver, tyLL, 1, cs⟩).length = H1.length := by simp
    generalize H1.set t ⟨ver, tyLL, 1, cs⟩ = H2 at *
    have hown3 := hown2
    obtain ⟨o1, o2, o3, o4, o5⟩ := hown2
    have hos : ∀ j, j < ys.length → OwnS H2 (Fr (H.length + 1)) t (cs.getD j nilS) (ys.getD j []) := fun j hj => by
      refine o4 j _ _ ?_ ?_
      · rw [List.getD_eq_getElem?_getD, List.getElem?_eq_getElem (by omega)]; rfl
      · rw [List.getD_eq_getElem?_getD, List.getElem?_eq_getElem hj]; rfl
    have hco := compact_ok H2 t ver tyLL ys cs o2 o3 (fun c hc => by
      obtain ⟨j, hj, rfl⟩ := List.getElem_of_mem hc
      have := o4 j _ _ (List.getElem?_eq_getElem hj) (List.getElem?_eq_getElem (by omega))
      rcases this with ⟨r, v, ty, h, _⟩ | ⟨_, h | h⟩ <;> rw [h] <;> exact ⟨rfl, rfl⟩) (fun cells' j hj => by
      refine ((hos j hj).same (fun r b _ hrt hb => ?_)).rd
      rw [List.getElem?_set_ne (Ne.symm hrt)]; exact hb) (by omega)
    rw [hlen]
    repeat (first | (with_reducible first | refine SW.seq ?_ | refine SW.block ?_ | refine SW.rowC ?_ | refine SW.skip ?_ | refine SW.exit ?_ | intro _ | refine And.intro (by omega) ?_) | simp (config := { maxSteps := 1000000 }) (disch := (first | omega | (simp only [go_sem]; try omega))) only [go_sem, Nat.reduceAdd, Nat.reduceEqDiff, Nat.reduceLeDiff, Nat.reduceMul, Nat.reduceLT, reduceIte, Int.reduceToNat, w64_id, cast_succ])
    refine hco.mono ?_
    rintro r H3 ⟨cells3, rfl, rfl, hct, hcl⟩
    repeat (first | (with_reducible first | refine SW.seq ?_ | refine SW.block ?_ | refine SW.rowC ?_ | refine SW.skip ?_ | refine SW.exit ?_ | intro _ | refine And.intro (by omega) ?_) | simp (config := { maxSteps := 1000000 }) (disch := (first | omega | (simp only [go_sem]; try omega))) only [go_sem, Nat.reduceAdd, Nat.reduceEqDiff, Nat.reduceLeDiff, Nat.reduceMul, Nat.reduceLT, reduceIte, Int.reduceToNat, w64_id, cast_succ])
    refine SW.ret ?_; (try simp only [go_sem]); (first | refine FunPost.one ?_ | refine FunPost.two ?_ | refine FunPost.three ?_); (try simp (config := { maxSteps := 1000000 }) (disch := (first | omega | (simp only [go_sem]; try omega))) only [go_sem, Nat.reduceAdd, Nat.reduceEqDiff, Nat.reduceLeDiff, Nat.reduceMul, Nat.reduceLT, reduceIte, Int.reduceToNat, w64_id, cast_succ])
    have hget3 : (H2.set t ⟨ver, tyLL, 1, cells3⟩)[t]? = some ⟨ver, tyLL, 1, cells3⟩ := List.getElem?_set_self (by omega)
    refine GR.trunc (keepI ys ys.length).length hget3 ?_
    rw [List.set_set, hct]
    have hcp := hown3.compact ys.length (Nat.le_refl _)
    have hdd : ddT ys ys.length = sortU cmpL (imgsOf pre set) := by
      rw [ddT_is hsd]
      refine asc_uniq cmpL_tot (sortU_asc cmpL_tot _) (sortU_asc cmpL_tot _) (fun y => ?_)
      rw [sortU_mem cmpL_tot, sortU_mem cmpL_tot]
      exact hpm.mem_iff
    have hkl : (keepI ys ys.length).length = (ddT ys ys.length).length := by rw [← keepI_map]; simp
    have hpx := prefix_of (H := H) (H' := H2.set t ⟨ver, tyLL, 1, (keepI ys ys.length).map (fun j => cs.getD j nilS)⟩) (by simp; omega) (fun j hj => by rw [List.getElem?_set_ne (by omega)]; exact hpre2 j hj)
    obtain ⟨ext, hext⟩ := hpx
    refine GR.of ⟨ext, hext, ?_⟩
    rw [← hdd, hkl]
    refine .inl ⟨t, ver, tyLL, _, rfl, hcp.weak (fun r h1 h2 => ?_)⟩
    unfold Fr at h1
    unfold Btw
    omega
end Go.Proofs.Ytkifdjjnbplghaa
