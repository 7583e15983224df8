/- Exact covers: what is searched, the program. -/
import Derived.Test.YtnlfokkljgbaaaaProg
import Derived.KernelRfl
import Derived.Test.YtnlfokkljgbaaaazCE0
import Derived.Test.YtnlfokkljgbaaaazCD
import Derived.Test.YtnlfokkljgbaaaazGF
import Derived.Test.YtnlfokkljgbaaaazAv17
import Derived.Test.YtnlfokkljgbaaaazK32
import Derived.Test.YtnlfokkljgbaaaazUO
set_option linter.unusedSimpArgs false
set_option linter.unusedVariables false
set_option maxHeartbeats 4000000
set_option maxRecDepth 100000
namespace Go.Proofs.Ytnlfokkljgbaaaa
open Go.Av
abbrev f_impl_searched : Nat := 27
def c_impl_searched : SC :=
 .seq (.reg [
     ⟨(some 3), .box 34 (.tmp 0), none⟩,
     ⟨(some 6), .mv (.const (.pointer none)), none⟩,
     ⟨(some 7), .mv (.const (.int .i64 0)), none⟩] [1, 2, 3])
 (.seq (.seq (.reg [
     ⟨(some 12), .load 2 true (.tmp 3), none⟩,
     ⟨(some 13), .call 29 [(.tmp 12)], none⟩,
     ⟨(some 14), .un .not (.tmp 13), none⟩] [1, 2, 3, 14])
 (.cond (.tmp 14)
  (.seq (.reg [
      ⟨(some 6), .mv (.const (.pointer none)), none⟩,
      ⟨(some 7), .mv (.const (.int .i64 1)), none⟩] [6, 7])
  (.ret))
  (.skip)))
 (.seq (.seq (.reg [
     ⟨(some 15), .mv (.tmp 1), none⟩,
     ⟨(some 16), .call 51 [(.tmp 15)], none⟩,
     ⟨(some 17), .un .not (.tmp 16), none⟩] [1, 2, 3, 17])
 (.cond (.tmp 17)
  (.seq (.reg [
      ⟨(some 6), .mv (.const (.pointer none)), none⟩,
      ⟨(some 7), .mv (.const (.int .i64 2)), none⟩] [6, 7])
  (.ret))
  (.skip)))
 (.seq (.reg [
     ⟨(some 18), .mv (.tmp 1), none⟩,
     ⟨(some 19), .build [(.int .i64 0), (.bool false)] [(0, 1, (.tmp 18))], none⟩,
     ⟨(some 20), .load 2 true (.tmp 3), none⟩,
     ⟨(some 21), .mv (.tmp 2), none⟩,
     ⟨(some 22), .faddr 0 (.tmp 3), none⟩,
     ⟨(some 23), .load 1 false (.tmp 22), none⟩,
     ⟨(some 24), .mslice 4 1 (.bool false) (.tmp 23) (.tmp 23), none⟩,
     ⟨(some 25), .build [(.int .i64 0), (.bool false), (.int .i64 0), (.slice none 0 0), (.slice none 0 0), (.bool false), (.slice none 0 0), (.slice none 0 0), (.int .i64 0), (.slice none 0 0)] [(0, 2, (.tmp 19)), (2, 2, (.tmp 20)), (5, 1, (.tmp 21)), (6, 1, (.tmp 24))], none⟩,
     ⟨(some 26), .box 63 (.tmp 25), none⟩,
     ⟨(some 8), .mv (.tmp 26), none⟩] [3, 8])
 (.seq (.seq (.reg [
     ⟨(some 27), .faddr 0 (.tmp 3), none⟩,
     ⟨(some 28), .load 1 false (.tmp 27), none⟩,
     ⟨(some 29), .mv (.const (.int .i64 0)), none⟩] [3, 8, 28, 29])
 (.block 0 (.loop [3, 8, 28, 29]
   (.seq (.reg [
       ⟨(some 30), .bin .lss (.tmp 29) (.tmp 28), none⟩] [3, 8, 28, 29, 30])
   (.seq (.cond (.tmp 30)
    (.skip)
    (.exit 0))
   (.seq (.block 1 (.seq (.reg [
        ⟨(some 31), .mv (.tmp 29), none⟩,
        ⟨(some 9), .mv (.tmp 31), none⟩] [3, 8, 9, 28, 29])
    (.seq (.reg [
        ⟨(some 33), .load 2 true (.tmp 3), none⟩,
        ⟨(some 34), .mv (.tmp 9), none⟩,
        ⟨(some 35), .call 52 [(.tmp 33), (.tmp 34)], none⟩,
        ⟨(some 32), .mv (.tmp 35), none⟩,
        ⟨(some 36), .ext (.tmp 32) 0, none⟩,
        ⟨(some 37), .ext (.tmp 32) 1, none⟩,
        ⟨(some 10), .mv (.tmp 36), none⟩,
        ⟨(some 11), .mv (.tmp 37), none⟩] [3, 8, 10, 28, 29])
    (.reg [
        ⟨(some 38), .mv (.tmp 8), none⟩,
        ⟨(some 39), .mv (.tmp 8), none⟩,
        ⟨(some 40), .nilc (.tmp 39), none⟩,
        ⟨(some 41), .faddr 4 (.tmp 40), none⟩,
        ⟨(some 42), .load 1 false (.tmp 41), none⟩,
        ⟨(some 43), .mv (.tmp 10), none⟩,
        ⟨(some 44), .bslice 29 1 1 [(.slice none 0 0)] [(0, (.tmp 43))], none⟩,
        ⟨(some 45), .app 29 1 24 (.tmp 42) (.tmp 44), none⟩,
        ⟨(some 46), .nilc (.tmp 38), none⟩,
        ⟨(some 47), .faddr 4 (.tmp 46), none⟩,
        ⟨none, .store 1 (.tmp 47) (.tmp 45), none⟩] [3, 8, 28, 29]))))
   (.reg [
       ⟨(some 48), .bin .add (.tmp 29) (.const (.int .i64 1)), none⟩,
       ⟨(some 29), .mv (.tmp 48), none⟩] [3, 8, 28, 29])))))))
 (.seq (.reg [
     ⟨(some 49), .mv (.tmp 8), none⟩,
     ⟨(some 50), .call 53 [(.tmp 49)], none⟩] [8])
 (.seq (.seq (.reg [
     ⟨(some 51), .mv (.tmp 8), none⟩,
     ⟨(some 52), .nilc (.tmp 51), none⟩,
     ⟨(some 53), .faddr 0 (.tmp 52), none⟩,
     ⟨(some 54), .faddr 1 (.tmp 53), none⟩,
     ⟨(some 55), .load 1 false (.tmp 54), none⟩] [8, 55])
 (.cond (.tmp 55)
  (.seq (.reg [
      ⟨(some 6), .mv (.const (.pointer none)), none⟩,
      ⟨(some 7), .mv (.const (.int .i64 5)), none⟩] [6, 7])
  (.ret))
  (.skip)))
 (.seq (.reg [
     ⟨(some 56), .mv (.tmp 8), none⟩,
     ⟨(some 6), .mv (.tmp 56), none⟩,
     ⟨(some 7), .mv (.const (.int .i64 0)), none⟩] [6, 7])
 (.ret))))))))
theorem s_impl_searched : stripF Try.prog 27 [[1, 2, 3], [1, 2, 3, 14], [6, 7], [1, 2, 3, 17], [6, 7], [3, 8], [3, 8, 28, 29], [3, 8, 28, 29], [3, 8, 28, 29, 30], [3, 8, 9, 28, 29], [3, 8, 10, 28, 29], [3, 8, 28, 29], [3, 8, 28, 29], [8], [8, 55], [6, 7], [6, 7]] = some (c_impl_searched, [.tmp 6, .tmp 7], 57) := by kernel_rfl
theorem FS.pfnE {P : Program} {f : FuncId} {args : List AV} {xs : List Int} {code : Int} (h : FS P f args xs code) : PFn P f args (.tup [ilS xs, I code]) := by
  intro H
  refine (h H).gr ?_
  rintro r H' ⟨ext, v, t, rfl, rfl, ho, -⟩
  exact GR.froz (froz_tup2 (ho.froz (fun i hi => hi.1)) (froz_I' _)) ⟨rfl, rfl⟩
def optsW (n : Nat) (O : List (List Int)) (i : Nat) : List (List Int) := (List.range i).map fun (x : Nat) => optW (x : Int) O
theorem optsW_succ (n : Nat) (O : List (List Int)) (i : Nat) : optsW n O (i + 1) = optsW n O i ++ [optW (i : Int) O] := by simp [optsW, List.range_succ]
def cvS (O : List (List Int)) (n : Nat) (one : Bool) (b : Nat) : VS := vst O n one (n + 1) [] ⟨b, false, []⟩
theorem searched_bad (n : Int) (O : List (List Int)) (b : Int) (one : Bool) (hx : ∀ xs ∈ O, ∀ x ∈ xs, (Lit.int .i64 x).wf = true) (hc : coverOk n O = false) (H : List Blk) :
    ACalls Try.prog f_impl_searched [.agg [I n, ilSS O], I b, Bv one] H (fun r H' => ∃ z, r = .tup [z, I 1] ∧ H' = H) := by
  have hv := implValidCover_fn n O hx
  rw [hc] at hv
  refine ACalls.introB s_impl_searched (by simp) ?_; intro hB hA; unfold c_impl_searched; simp (config := { maxSteps := 1000000 }) (disch := (first | omega | (simp only [go_sem]; try omega))) only [go_sem, Nat.reduceAdd, Nat.reduceEqDiff, Nat.reduceLeDiff, Nat.reduceMul, Nat.reduceLT, reduceIte, Int.reduceToNat, w64_id, cast_succ]
  repeat (first | (with_reducible first | refine SW.seq ?_ | refine SW.block ?_ | refine SW.rowC ?_ | refine SW.skip ?_ | refine SW.exit ?_ | refine PFn.use (hv) ?_ | refine PFn.useq (hv) ?_ | intro _ | refine And.intro (by omega) ?_) | simp (config := { maxSteps := 1000000 }) (disch := (first | omega | (simp only [go_sem]; try omega))) only [go_sem, Nat.reduceAdd, Nat.reduceEqDiff, Nat.reduceLeDiff, Nat.reduceMul, Nat.reduceLT, reduceIte, Int.reduceToNat, w64_id, cast_succ])
  refine SW.condT rfl ?_
  repeat (first | (with_reducible first | refine SW.seq ?_ | refine SW.block ?_ | refine SW.rowC ?_ | refine SW.skip ?_ | refine SW.exit ?_ | intro _ | refine And.intro (by omega) ?_) | simp (config := { maxSteps := 1000000 }) (disch := (first | omega | (simp only [go_sem]; try omega))) only [go_sem, Nat.reduceAdd, Nat.reduceEqDiff, Nat.reduceLeDiff, Nat.reduceMul, Nat.reduceLT, reduceIte, Int.reduceToNat, w64_id, cast_succ])
  refine SW.ret ?_; (try simp only [go_sem]); (first | refine FunPost.one ?_ | refine FunPost.two ?_ | refine FunPost.three ?_); (try simp (config := { maxSteps := 1000000 }) (disch := (first | omega | (simp only [go_sem]; try omega))) only [go_sem, Nat.reduceAdd, Nat.reduceEqDiff, Nat.reduceLeDiff, Nat.reduceMul, Nat.reduceLT, reduceIte, Int.reduceToNat, w64_id, cast_succ])
  exact GR.froz (froz_tup2 (.old _ (.lit _)) (froz_I' _)) ⟨_, rfl, rfl⟩
theorem searched_ok (n : Nat) (O : List (List Int)) (b : Nat) (one : Bool) (hx : ∀ xs ∈ O, ∀ x ∈ xs, (Lit.int .i64 x).wf = true) (hc : coverOk (n : Int) O = true) (hb : 1 ≤ b ∧ b ≤ 20000) (H : List Blk) :
    ACalls Try.prog f_impl_searched [.agg [I n, ilSS O], I b, Bv one] H (fun r H' => if (cvS O n one b).spent = true then ∃ z, r = .tup [z, I 5] ∧ H' = H else
      ∃ ext q p W v fv, H' = H ++ ext ∧ r = .tup [.pc p 0 0, I 0] ∧ H.length ≤ p ∧ CvH H' q p n O W one b [] (cvS O n one b) v fv ∧ ColG H' (p + 1) v [] fv (cvS O n one b).found) := by
  have hv := implValidCover_fn (n : Int) O hx
  rw [hc] at hv
  have ib := isBudget_fn (b : Int)
  rw [show (decide ((1 : Int) ≤ b) && decide ((b : Int) ≤ 20000)) = true by rw [decide_eq_true (by omega), decide_eq_true (by omega)]; rfl] at ib
  obtain ⟨n1, n64, hOl, hO⟩ := coverOk_n hc
  refine ACalls.introB s_impl_searched (by simp) ?_; intro hB hA; unfold c_impl_searched; simp (config := { maxSteps := 1000000 }) (disch := (first | omega | (simp only [go_sem]; try omega))) only [go_sem, Nat.reduceAdd, Nat.reduceEqDiff, Nat.reduceLeDiff, Nat.reduceMul, Nat.reduceLT, reduceIte, Int.reduceToNat, w64_id, cast_succ]
  repeat (first | (with_reducible first | refine SW.seq ?_ | refine SW.block ?_ | refine SW.rowC ?_ | refine SW.skip ?_ | refine SW.exit ?_ | refine PFn.use (hv) ?_ | refine PFn.useq (hv) ?_ | refine PFn.use (ib) ?_ | refine PFn.useq (ib) ?_ | intro _ | refine And.intro (by omega) ?_) | simp (config := { maxSteps := 1000000 }) (disch := (first | omega | (simp only [go_sem]; try omega))) only [go_sem, Nat.reduceAdd, Nat.reduceEqDiff, Nat.reduceLeDiff, Nat.reduceMul, Nat.reduceLT, reduceIte, Int.reduceToNat, w64_id, cast_succ])
  refine SW.condF rfl ?_
  repeat (first | (with_reducible first | refine SW.seq ?_ | refine SW.block ?_ | refine SW.rowC ?_ | refine SW.skip ?_ | refine SW.exit ?_ | refine PFn.use (hv) ?_ | refine PFn.useq (hv) ?_ | refine PFn.use (ib) ?_ | refine PFn.useq (ib) ?_ | intro _ | refine And.intro (by omega) ?_) | simp (config := { maxSteps := 1000000 }) (disch := (first | omega | (simp only [go_sem]; try omega))) only [go_sem, Nat.reduceAdd, Nat.reduceEqDiff, Nat.reduceLeDiff, Nat.reduceMul, Nat.reduceLT, reduceIte, Int.reduceToNat, w64_id, cast_succ])
  refine SW.condF rfl ?_
  repeat (first | (with_reducible first | refine SW.seq ?_ | refine SW.block ?_ | refine SW.rowC ?_ | refine SW.skip ?_ | refine SW.exit ?_ | intro _ | refine And.intro (by omega) ?_) | simp (config := { maxSteps := 1000000 }) (disch := (first | omega | (simp only [go_sem]; try omega))) only [go_sem, Nat.reduceAdd, Nat.reduceEqDiff, Nat.reduceLeDiff, Nat.reduceMul, Nat.reduceLT, reduceIte, Int.reduceToNat, w64_id, cast_succ])
  have hop : ∀ i : Nat, i < n → PFn Try.prog f_impl_OptionsWith [.agg [I n, ilSS O], I i] (.tup [ilS (optW (i : Int) O), I 0]) := fun i hi => by
    have := (implOptions_fs (n : Int) O (i : Int) hx).pfnE
    rw [show optV (n : Int) O (i : Int) = (optW (i : Int) O, 0) by unfold optV; rw [hc, show (decide (0 ≤ (i : Int)) && decide ((i : Int) ≤ (n : Int) - 1)) = true by rw [decide_eq_true (by omega), decide_eq_true (by omega)]; rfl]; rfl] at this
    exact this
  refine Av.SW.loopE (fun E0 H0 m E' H' => ∃ (i : Nat) (wv : AV), i ≤ n ∧ m = n - i ∧ E' = aput E0 29 (I i) ∧ H'[H.length]? = some ⟨0, 34, 1, [I n, ilSS O]⟩ ∧ H'[H.length + 1]? = some ⟨0, 4, 1, (List.replicate n false).map Bv⟩ ∧ H'[H.length + 2]? = some ⟨0, tyCv, 1, [I b, Bv false, I n, ilSS O, wv, Bv one, .nm (H.length + 1) 0 0 n, nilS, I 0, nilS]⟩ ∧ GrowF H' (H.length + 3) wv (optsW n O i) ∧ H.length + 3 ≤ H'.length ∧ ∀ j, j < H.length → H'[j]? = H[j]?) n
    ⟨0, nilS, by omega, by omega, rfl, by simp, by simp, by simp, .inl ⟨rfl, rfl⟩, by simp, fun j hj => by rw [List.getElem?_append_left (by omega)]⟩ ?_
  rintro m E' X ⟨i, wv, hi, rfl, rfl, m0, m1, m2, gw, hlX, hfX⟩
  have ha0 := fun o => pc_alive (off := o) m0
  have hl0 := fun o => pc_ld (off := o) m0
  have hls := fun l (hl : 0 + l ≤ 2) => pc_lds (off := 0) (n := l) m0 (by simpa using hl)
  have ha2 := fun o => pc_alive (off := o) m2
  have hl2 := fun o => pc_ld (off := o) m2
  simp (config := { maxSteps := 1000000 }) (disch := (first | omega | (simp only [go_sem]; try omega))) only [go_sem, Nat.reduceAdd, Nat.reduceEqDiff, Nat.reduceLeDiff, Nat.reduceMul, Nat.reduceLT, reduceIte, Int.reduceToNat, w64_id, cast_succ]
  repeat (first | (with_reducible first | refine SW.seq ?_ | refine SW.block ?_ | refine SW.rowC ?_ | refine SW.skip ?_ | refine SW.exit ?_ | intro _ | refine And.intro (by omega) ?_) | simp (config := { maxSteps := 1000000 }) (disch := (first | omega | (simp only [go_sem]; try omega))) only [go_sem, Nat.reduceAdd, Nat.reduceEqDiff, Nat.reduceLeDiff, Nat.reduceMul, Nat.reduceLT, reduceIte, Int.reduceToNat, w64_id, cast_succ])
  (first | refine SW.condD rfl (fun h3 => ?_) (fun h3 => ?_) | refine SW.condN rfl (fun h3 => ?_) (fun h3 => ?_) | refine SW.condNB rfl (fun h3 => ?_) (fun h3 => ?_) | refine SW.condB rfl (fun h3 => ?_) (fun h3 => ?_))
  · have hin : i < n := by omega
    have hopi := hop i hin
    repeat (first | (with_reducible first | refine SW.seq ?_ | refine SW.block ?_ | refine SW.rowC ?_ | refine SW.skip ?_ | refine SW.exit ?_ | refine PFn.use (hopi) ?_ | refine PFn.useq (hopi) ?_ | intro _ | refine And.intro (by omega) ?_) | simp (config := { maxSteps := 1000000 }) (disch := (first | omega | (simp only [go_sem]; try omega))) only [go_sem, Nat.reduceAdd, Nat.reduceEqDiff, Nat.reduceLeDiff, Nat.reduceMul, Nat.reduceLT, reduceIte, Int.reduceToNat, w64_id, cast_succ, ha0, hl0, hls, ha2, hl2])
    refine GrowF.app (gw.same (fun j b _ hb => get_appU hb _)) (by simp; omega) (by simp [optsW]; omega) ?_
    intro v' X1 g1 g2 g3
    have hx1 : X.length ≤ X1.length := by simp at g2; omega
    have k0 : X1[H.length]? = some ⟨0, 34, 1, [I n, ilSS O]⟩ := by rw [g3 _ (by omega)]; exact get_appU m0 _
    have k1 : X1[H.length + 1]? = some ⟨0, 4, 1, (List.replicate n false).map Bv⟩ := by rw [g3 _ (by omega)]; exact get_appU m1 _
    have k2 : X1[H.length + 2]? = some ⟨0, tyCv, 1, [I b, Bv false, I n, ilSS O, wv, Bv one, .nm (H.length + 1) 0 0 n, nilS, I 0, nilS]⟩ := by rw [g3 _ (by omega)]; exact get_appU m2 _
    have hp1l := (List.getElem?_eq_some_iff.1 k2).1
    have w1 : astore X1 [v'] (.pc (H.length + 2) 0 4) = some (X1.set (H.length + 2) ⟨0, tyCv, 1, [I b, Bv false, I n, ilSS O, v', Bv one, .nm (H.length + 1) 0 0 n, nilS, I 0, nilS]⟩) := by rw [pc_st k2 (by simp)]; rfl
    have ra := fun o => pc_alive (off := o) k2
    have rl := fun o => pc_ld (off := o) k2
    simp (config := { maxSteps := 1000000 }) (disch := (first | omega | (simp only [go_sem]; try omega))) only [go_sem, Nat.reduceAdd, Nat.reduceEqDiff, Nat.reduceLeDiff, Nat.reduceMul, Nat.reduceLT, reduceIte, Int.reduceToNat, w64_id, cast_succ, ra, rl, w1, g1.one.1, g1.one.2]
    repeat (first | (with_reducible first | refine SW.seq ?_ | refine SW.block ?_ | refine SW.rowC ?_ | refine SW.skip ?_ | refine SW.exit ?_ | intro _ | refine And.intro (by omega) ?_) | simp (config := { maxSteps := 1000000 }) (disch := (first | omega | (simp only [go_sem]; try omega))) only [go_sem, Nat.reduceAdd, Nat.reduceEqDiff, Nat.reduceLeDiff, Nat.reduceMul, Nat.reduceLT, reduceIte, Int.reduceToNat, w64_id, cast_succ, ra, rl, w1, g1.one.1, g1.one.2])
    refine SLoop.next (n - (i + 1)) (by omega) ⟨i + 1, v', by omega, rfl, by simp [go_sem], by rw [List.getElem?_set_ne (by omega)]; exact k0, by rw [List.getElem?_set_ne (by omega)]; exact k1, List.getElem?_set_self hp1l, ?_, by rw [List.length_set]; omega, fun j hj => ?_⟩
    · rw [optsW_succ]
      exact g1.same fun j b hj hb => by rw [List.getElem?_set_ne (by omega)]; exact hb
    · rw [List.getElem?_set_ne (by omega), g3 j (by omega), List.getElem?_append_left (by omega)]
      exact hfX j hj
  · have : i = n := by omega
    subst this
    obtain ⟨ext, rfl⟩ : ∃ ext, X = H ++ ext := ext_of (by omega) hfX
    clear hfX
    have hWr : Ren (H ++ ext) H.length [some (H.length + 1), some (H.length + 2)] wv (ilSS (optsW i O i)) := by
      rcases gw with ⟨rfl, h0⟩ | ⟨t, ver, rfl, g1, g2⟩
      · have := congrArg List.length h0
        simp [optsW] at this; omega
      · exact ren_rowS (by omega) (by simp; omega) g2
    have ho : RenOk (H ++ ext) H.length [some (H.length + 1), some (H.length + 2)] [⟨0, 4, 1, (List.replicate i false).map Bv⟩, ⟨0, tyCv, 1, [I b, Bv false, I i, ilSS O, ilSS (optsW i O i), Bv one, .nm H.length 0 0 i, nilS, I 0, nilS]⟩] := by
      refine ⟨rfl, fun p q j h1 h2 => ?_, fun p j nb h1 h2 => ?_, fun p nb h1 h2 => ?_⟩
      · match p, q with
        | 0, 0 => rfl
        | 1, 1 => rfl
        | 0, 1 => simp at h1 h2; omega
        | 1, 0 => simp at h1 h2; omega
        | 0, q + 2 => simp at h2
        | 1, q + 2 => simp at h2
        | p + 2, q => simp at h1
      · match p with
        | 0 =>
          obtain rfl := Option.some.inj (Option.some.inj h1)
          obtain rfl := Option.some.inj h2
          refine ⟨_, by omega, m1, by simp, rfl, rfl, rfl, Nat.le_refl _, fun i c' hc' => ⟨c', hc', ?_⟩⟩
          obtain ⟨x, _, rfl⟩ := List.mem_map.1 (List.mem_of_getElem? hc')
          exact ren_B _
        | 1 =>
          obtain rfl := Option.some.inj (Option.some.inj h1)
          obtain rfl := Option.some.inj h2
          refine ⟨_, by omega, m2, by simp, rfl, rfl, rfl, Nat.le_refl _, fun j c' hc' => ?_⟩
          match j with
          | 0 => cases hc'; exact ⟨_, rfl, ren_I _⟩
          | 1 => cases hc'; exact ⟨_, rfl, ren_B _⟩
          | 2 => cases hc'; exact ⟨_, rfl, ren_I _⟩
          | 3 => cases hc'; exact ⟨_, rfl, ren_ilSS _⟩
          | 4 => cases hc'; exact ⟨_, rfl, hWr⟩
          | 5 => cases hc'; exact ⟨_, rfl, ren_B _⟩
          | 6 => cases hc'; exact ⟨_, rfl, .nm 0 (H.length + 1) 0 0 i _ rfl m1 rfl⟩
          | 7 => cases hc'; exact ⟨_, rfl, .old _ (.lit _)⟩
          | 8 => cases hc'; exact ⟨_, rfl, ren_I _⟩
          | 9 => cases hc'; exact ⟨_, rfl, .old _ (.lit _)⟩
          | j + 10 => simp at hc'
        | p + 2 => simp at h1
      · match p with
        | 0 => simp at h1
        | 1 => simp at h1
        | p + 2 => simp at h1
    refine SW.renK (E' := [(3, .junk), (8, .pc (H.length + 1) 0 0), (28, I i), (29, I i), (30, Bv (decide ((i : Int) < i)))]) hB (Nat.le_refl _) ho (.cons _ (.junk _) (.cons _ (.pc 1 (H.length + 2) 0 0 _ rfl m2 rfl) (.cons _ (ren_I _) (.cons _ (ren_I _) (.cons _ (ren_B _) .nil))))) ?_
    repeat (first | (with_reducible first | refine SW.seq ?_ | refine SW.block ?_ | refine SW.rowC ?_ | refine SW.skip ?_ | refine SW.exit ?_ | intro _ | refine And.intro (by omega) ?_) | simp (config := { maxSteps := 1000000 }) (disch := (first | omega | (simp only [go_sem]; try omega))) only [go_sem, Nat.reduceAdd, Nat.reduceEqDiff, Nat.reduceLeDiff, Nat.reduceMul, Nat.reduceLT, reduceIte, Int.reduceToNat, w64_id, cast_succ])
    have h0 : CvH (H ++ [⟨0, 4, 1, (List.replicate i false).map Bv⟩, ⟨0, tyCv, 1, [I b, Bv false, I i, ilSS O, ilSS (optsW i O i), Bv one, .nm H.length 0 0 i, nilS, I 0, nilS]⟩]) H.length (H.length + 1) i O (optsW i O i) one b (itemsOf O []) ⟨b, false, []⟩ nilS nilS :=
      ⟨by rw [List.getElem?_append_right (by omega), Nat.add_sub_cancel_left]; simp [cvB], by rw [List.getElem?_append_right (Nat.le_refl _), Nat.sub_self, marks_nil]; rfl⟩
    refine (cvSearch_ok i O (optsW i O i) one b hc rfl hb.2 (i + 1) _ H.length (H.length + 1) [] ⟨b, false, []⟩ nilS nilS h0 (.inl ⟨rfl, rfl, rfl, rfl⟩) (by omega) (ChOk.nil O i) (by simp) (Nat.le_refl _) (by simp; omega)).mono ?_
    rintro r X1 ⟨rfl, ⟨v, fv, h1, hcg⟩, hl1, hf1⟩
    obtain ⟨ext1, rfl⟩ : ∃ ext, X1 = H ++ ext := ext_of (by simp at hl1; omega) (fun j hj => by rw [hf1 j hj, List.getElem?_append_left hj])
    change CvH (H ++ ext1) H.length (H.length + 1) i O (optsW i O i) one b [] (cvS O i one b) v fv at h1
    change ColG (H ++ ext1) (H.length + 1 + 1) v [] fv (cvS O i one b).found at hcg
    generalize cvS O i one b = S at *
    have ha := fun o => pc_alive (off := o) h1.box
    have hl := fun o => pc_ld (off := o) h1.box
    cases hs : S.spent
    · rw [hs] at hl
      repeat (first | (with_reducible first | refine SW.seq ?_ | refine SW.block ?_ | refine SW.rowC ?_ | refine SW.skip ?_ | refine SW.exit ?_ | intro _ | refine And.intro (by omega) ?_) | simp (config := { maxSteps := 1000000 }) (disch := (first | omega | (simp only [go_sem]; try omega))) only [go_sem, Nat.reduceAdd, Nat.reduceEqDiff, Nat.reduceLeDiff, Nat.reduceMul, Nat.reduceLT, reduceIte, Int.reduceToNat, w64_id, cast_succ, ha, hl])
      refine SW.condF rfl ?_
      repeat (first | (with_reducible first | refine SW.seq ?_ | refine SW.block ?_ | refine SW.rowC ?_ | refine SW.skip ?_ | refine SW.exit ?_ | intro _ | refine And.intro (by omega) ?_) | simp (config := { maxSteps := 1000000 }) (disch := (first | omega | (simp only [go_sem]; try omega))) only [go_sem, Nat.reduceAdd, Nat.reduceEqDiff, Nat.reduceLeDiff, Nat.reduceMul, Nat.reduceLT, reduceIte, Int.reduceToNat, w64_id, cast_succ])
      refine SW.ret ?_; (try simp only [go_sem]); (first | refine FunPost.one ?_ | refine FunPost.two ?_ | refine FunPost.three ?_); (try simp (config := { maxSteps := 1000000 }) (disch := (first | omega | (simp only [go_sem]; try omega))) only [go_sem, Nat.reduceAdd, Nat.reduceEqDiff, Nat.reduceLeDiff, Nat.reduceMul, Nat.reduceLT, reduceIte, Int.reduceToNat, w64_id, cast_succ])
      exact GR.of ⟨ext1, H.length, H.length + 1, optsW i O i, v, fv, rfl, rfl, by omega, h1, hcg⟩
    · rw [hs] at hl
      repeat (first | (with_reducible first | refine SW.seq ?_ | refine SW.block ?_ | refine SW.rowC ?_ | refine SW.skip ?_ | refine SW.exit ?_ | intro _ | refine And.intro (by omega) ?_) | simp (config := { maxSteps := 1000000 }) (disch := (first | omega | (simp only [go_sem]; try omega))) only [go_sem, Nat.reduceAdd, Nat.reduceEqDiff, Nat.reduceLeDiff, Nat.reduceMul, Nat.reduceLT, reduceIte, Int.reduceToNat, w64_id, cast_succ, ha, hl])
      refine SW.condT rfl ?_
      repeat (first | (with_reducible first | refine SW.seq ?_ | refine SW.block ?_ | refine SW.rowC ?_ | refine SW.skip ?_ | refine SW.exit ?_ | intro _ | refine And.intro (by omega) ?_) | simp (config := { maxSteps := 1000000 }) (disch := (first | omega | (simp only [go_sem]; try omega))) only [go_sem, Nat.reduceAdd, Nat.reduceEqDiff, Nat.reduceLeDiff, Nat.reduceMul, Nat.reduceLT, reduceIte, Int.reduceToNat, w64_id, cast_succ])
      refine SW.ret ?_; (try simp only [go_sem]); (first | refine FunPost.one ?_ | refine FunPost.two ?_ | refine FunPost.three ?_); (try simp (config := { maxSteps := 1000000 }) (disch := (first | omega | (simp only [go_sem]; try omega))) only [go_sem, Nat.reduceAdd, Nat.reduceEqDiff, Nat.reduceLeDiff, Nat.reduceMul, Nat.reduceLT, reduceIte, Int.reduceToNat, w64_id, cast_succ])
      exact GR.froz (froz_tup2 (.old _ (.lit _)) (froz_I' _)) ⟨_, rfl, rfl⟩
end Go.Proofs.Ytnlfokkljgbaaaa
