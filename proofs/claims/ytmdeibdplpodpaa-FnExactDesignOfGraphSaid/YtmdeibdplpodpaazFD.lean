/- Designs with some blocks, sorted: memory of the call's own. -/
import Derived.Test.YtmdeibdplpodpaaProg
import Derived.KernelRfl
import Derived.Test.YtmdeibdplpodpaazC1
import Derived.Test.YtmdeibdplpodpaazX1
import Derived.Test.YtmdeibdplpodpaazS5
import Derived.Test.YtmdeibdplpodpaazK18
import Derived.Test.YtmdeibdplpodpaazAv17
set_option linter.unusedSimpArgs false
set_option linter.unusedVariables false
set_option maxHeartbeats 4000000
set_option maxRecDepth 100000
namespace Go.Proofs.Ytmdeibdplpodpaa
open Go.Av
abbrev f_impl_sorted : Nat := 43
def c_impl_sorted : SC :=
 .seq (.reg [
     ⟨(some 4), .alloc 38 [(.int .i64 0), (.slice none 0 0)], none⟩,
     ⟨(some 5), .mv (.const (.int .i64 0)), none⟩] [0, 1, 4])
 (.seq (.seq (.reg [
     ⟨(some 7), .mv (.tmp 1), none⟩,
     ⟨(some 8), .len (.tmp 7), none⟩,
     ⟨(some 9), .bin .gtr (.tmp 8) (.const (.int .i64 128)), none⟩] [0, 1, 4, 9])
 (.cond (.tmp 9)
  (.seq (.reg [
      ⟨(some 10), .build [(.int .i64 0), (.slice none 0 0)] [], none⟩,
      ⟨none, .store 2 (.tmp 4) (.tmp 10), none⟩,
      ⟨(some 5), .mv (.const (.int .i64 5)), none⟩] [4, 5])
  (.ret))
  (.skip)))
 (.seq (.reg [
     ⟨(some 11), .mv (.tmp 0), none⟩,
     ⟨(some 12), .mv (.tmp 1), none⟩,
     ⟨(some 13), .call 69 [(.tmp 12)], none⟩,
     ⟨(some 14), .build [(.int .i64 0), (.slice none 0 0)] [(0, 1, (.tmp 11)), (1, 1, (.tmp 13))], none⟩,
     ⟨(some 6), .alloc 38 [(.int .i64 0), (.slice none 0 0)], none⟩,
     ⟨none, .store 2 (.tmp 6) (.tmp 14), none⟩] [4, 6])
 (.seq (.reg [
     ⟨(some 15), .faddr 1 (.tmp 6), none⟩,
     ⟨(some 16), .load 1 false (.tmp 15), none⟩,
     ⟨(some 17), .call 70 [(.tmp 16), (.func 71)], none⟩] [4, 6])
 (.seq (.reg [
     ⟨(some 18), .load 2 true (.tmp 6), none⟩,
     ⟨none, .store 2 (.tmp 4) (.tmp 18), none⟩,
     ⟨(some 5), .mv (.const (.int .i64 0)), none⟩] [4, 5])
 (.ret)))))
theorem s_impl_sorted : stripF Try.prog 43 [[0, 1, 4], [0, 1, 4, 9], [4, 5], [4, 6], [4, 6], [4, 5]] = some (c_impl_sorted, [.cell 4 2, .tmp 5], 19) := by kernel_rfl
def FDs (P : Program) (f : FuncId) (args : List AV) (n : Int) (xss : List (List Int)) (code : Int) : Prop :=
  ∀ H, ACalls P f args H fun r H' => ∃ ext v, H' = H ++ ext ∧ r = .tup [.agg [I n, v], I code] ∧ OwnSS H' (Btw H.length H'.length) v xss
theorem FDs.lend {P : Program} {f : FuncId} {args args' : List AV} {n : Int} {xss : List (List Int)} {code : Int} (h : FDs P f args' n xss code) {H : List Blk} (hf : Frozs H args args') :
    ACalls P f args H fun r H' => ∃ ext v, H' = H ++ ext ∧ r = .tup [.agg [I n, v], I code] ∧ OwnSS H' (Btw H.length H'.length) v xss := by
  refine ((h []).lend hf ?_).mono ?_
  · rintro r H0 ⟨ext, v, rfl, rfl, ho⟩
    exact .tup2 (.agg _ (by intro c hc; simp at hc; rcases hc with rfl | rfl; exact .I _; exact ho.ov)) (.I _)
  · rintro r H' ⟨r0, H0, ⟨ext, v, rfl, rfl, ho⟩, rfl, rfl⟩
    refine ⟨_, _, rfl, ?_, ho.sh (H := H) (N' := Btw H.length (H ++ _).length) (fun i hi => ?_)⟩
    · simp [sh_tup, sh_agg, sh_In]
    · unfold Btw at hi ⊢
      simp at hi ⊢; omega
theorem sorted_own (n : Int) (bs : List (List Int)) (hl : bs.length ≤ 2000000) (hr : ∀ x ∈ bs, x.length ≤ 2000000) :
    FDs Try.prog f_impl_sorted [I n, ilSS bs] (if 128 < bs.length then 0 else n) (if 128 < bs.length then [] else sortD cmpL bs) (if 128 < bs.length then 5 else 0) := by
  intro H
  by_cases h : 128 < bs.length
  · simp only [if_pos h]
    have dd : decide ((128 : Int) < (bs.length : Int)) = true := decide_eq_true (by omega)
    refine ACalls.introB s_impl_sorted (by simp) ?_; intro hB hA; unfold c_impl_sorted; simp (config := { maxSteps := 1000000 }) (disch := (first | omega | (simp only [go_sem]; try omega))) only [go_sem, Nat.reduceAdd, Nat.reduceEqDiff, Nat.reduceLeDiff, Nat.reduceMul, Nat.reduceLT, reduceIte, Int.reduceToNat, w64_id, cast_succ]
    repeat (first | (with_reducible first | refine SW.seq ?_ | refine SW.block ?_ | refine SW.rowC ?_ | refine SW.skip ?_ | refine SW.exit ?_ | intro _ | refine And.intro (by omega) ?_) | simp (config := { maxSteps := 1000000 }) (disch := (first | omega | (simp only [go_sem]; try omega))) only [go_sem, Nat.reduceAdd, Nat.reduceEqDiff, Nat.reduceLeDiff, Nat.reduceMul, Nat.reduceLT, reduceIte, Int.reduceToNat, w64_id, cast_succ, dd])
    refine SW.condT rfl ?_
    repeat (first | (with_reducible first | refine SW.seq ?_ | refine SW.block ?_ | refine SW.rowC ?_ | refine SW.skip ?_ | refine SW.exit ?_ | intro _ | refine And.intro (by omega) ?_) | simp (config := { maxSteps := 1000000 }) (disch := (first | omega | (simp only [go_sem]; try omega))) only [go_sem, Nat.reduceAdd, Nat.reduceEqDiff, Nat.reduceLeDiff, Nat.reduceMul, Nat.reduceLT, reduceIte, Int.reduceToNat, w64_id, cast_succ])
    refine SW.ret ?_
    refine FunPost.cell_tmp (cs := [I 0, nilS]) (by simp (config := { maxSteps := 1000000 }) (disch := (first | omega | (simp only [go_sem]; try omega))) only [go_sem, Nat.reduceAdd, Nat.reduceEqDiff, Nat.reduceLeDiff, Nat.reduceMul, Nat.reduceLT, reduceIte, Int.reduceToNat, w64_id, cast_succ]) ?_
    exact GR.of ⟨_, _, rfl, rfl, .inr ⟨rfl, .inl rfl⟩⟩
  · simp only [if_neg h]
    have dd : decide ((128 : Int) < (bs.length : Int)) = false := decide_eq_false (by omega)
    have hcl := fun H => copyLists_grow H bs hl hr
    refine ACalls.introB s_impl_sorted (by simp) ?_; intro hB hA; unfold c_impl_sorted; simp (config := { maxSteps := 1000000 }) (disch := (first | omega | (simp only [go_sem]; try omega))) only [go_sem, Nat.reduceAdd, Nat.reduceEqDiff, Nat.reduceLeDiff, Nat.reduceMul, Nat.reduceLT, reduceIte, Int.reduceToNat, w64_id, cast_succ]
    repeat (first | (with_reducible first | refine SW.seq ?_ | refine SW.block ?_ | refine SW.rowC ?_ | refine SW.skip ?_ | refine SW.exit ?_ | intro _ | refine And.intro (by omega) ?_) | simp (config := { maxSteps := 1000000 }) (disch := (first | omega | (simp only [go_sem]; try omega))) only [go_sem, Nat.reduceAdd, Nat.reduceEqDiff, Nat.reduceLeDiff, Nat.reduceMul, Nat.reduceLT, reduceIte, Int.reduceToNat, w64_id, cast_succ, dd])
    refine SW.condF rfl ?_
    repeat (first | (with_reducible first | refine SW.seq ?_ | refine SW.block ?_ | refine SW.rowC ?_ | refine SW.skip ?_ | refine SW.exit ?_ | intro _ | refine And.intro (by omega) ?_) | simp (config := { maxSteps := 1000000 }) (disch := (first | omega | (simp only [go_sem]; try omega))) only [go_sem, Nat.reduceAdd, Nat.reduceEqDiff, Nat.reduceLeDiff, Nat.reduceMul, Nat.reduceLT, reduceIte, Int.reduceToNat, w64_id, cast_succ])
    refine (hcl _).mono ?_
    rintro r H1 ⟨ext, hH1, own⟩
    have hbox : H1[H.length]? = some ⟨0, 38, 1, [I 0, nilS]⟩ := by rw [hH1]; simp
    have hpre : ∀ j, j < H.length → H1[j]? = H[j]? := fun j hj => by rw [hH1, List.append_assoc, List.getElem?_append_left hj]
    have hlt : H.length < H1.length := (List.getElem?_eq_some_iff.1 hbox).1
    have hlH : (H ++ [(⟨0, 38, 1, [I 0, nilS]⟩ : Blk)]).length = H.length + 1 := by simp
    rw [hlH] at own
    clear hH1
    rcases own with ⟨rfl, rfl⟩ | ⟨t, ver, cells, rfl, oc⟩
    · have hb2 : ∀ ext, (H1 ++ ext)[H.length]? = some ⟨0, 38, 1, [I 0, nilS]⟩ := fun ext => get_appB2 hbox ext
      repeat (first | (with_reducible first | refine SW.seq ?_ | refine SW.block ?_ | refine SW.rowC ?_ | refine SW.skip ?_ | refine SW.exit ?_ | intro _ | refine And.intro (by omega) ?_) | simp (config := { maxSteps := 1000000 }) (disch := (first | omega | (simp only [go_sem]; try omega))) only [go_sem, Nat.reduceAdd, Nat.reduceEqDiff, Nat.reduceLeDiff, Nat.reduceMul, Nat.reduceLT, reduceIte, Int.reduceToNat, w64_id, cast_succ])
      refine (sortNil_ok _ _).mono ?_
      rintro r H' ⟨rfl, rfl⟩
      have hst := pc_st (cs := [I n, nilS]) (off := 0) (hb2 [⟨0, 38, 1, [I n, nilS]⟩]) (by simp)
      repeat (first | (with_reducible first | refine SW.seq ?_ | refine SW.block ?_ | refine SW.rowC ?_ | refine SW.skip ?_ | refine SW.exit ?_ | intro _ | refine And.intro (by omega) ?_) | simp (config := { maxSteps := 1000000 }) (disch := (first | omega | (simp only [go_sem]; try omega))) only [go_sem, Nat.reduceAdd, Nat.reduceEqDiff, Nat.reduceLeDiff, Nat.reduceMul, Nat.reduceLT, reduceIte, Int.reduceToNat, w64_id, cast_succ, hst])
      refine SW.ret ?_
      refine FunPost.cell_tmp (cs := [I n, nilS]) (pc_lds (List.getElem?_set_self (by simp; omega)) (by simp [setMany])) ?_
      obtain ⟨e, he⟩ := prefix_of (H := H) (H' := (H1 ++ [(⟨0, 38, 1, [I n, nilS]⟩ : Blk)]).set H.length ⟨0, 38, 1, setMany [I 0, nilS] 0 [I n, nilS]⟩) (by simp; omega) (fun j hj => by rw [List.getElem?_set_ne (by omega), List.getElem?_append_left (by omega)]; exact hpre j hj)
      exact GR.of ⟨e, _, he, rfl, .inr ⟨rfl, .inl rfl⟩⟩
    · have htl := (List.getElem?_eq_some_iff.1 oc.2.1).1
      have ht1 := oc.1
      unfold Fr at ht1
      repeat (first | (with_reducible first | refine SW.seq ?_ | refine SW.block ?_ | refine SW.rowC ?_ | refine SW.skip ?_ | refine SW.exit ?_ | intro _ | refine And.intro (by omega) ?_) | simp (config := { maxSteps := 1000000 }) (disch := (first | omega | (simp only [go_sem]; try omega))) only [go_sem, Nat.reduceAdd, Nat.reduceEqDiff, Nat.reduceLeDiff, Nat.reduceMul, Nat.reduceLT, reduceIte, Int.reduceToNat, w64_id, cast_succ])
      refine (sortRows_ok (oc.append [⟨0, 38, 1, [I n, .nm t ver 0 bs.length]⟩]) (by omega)).mono ?_
      rintro r H2 ⟨rfl, cs, ys, hpm, hsd, rfl, hown2⟩
      have hy : ys = sortD cmpL bs := sorted_isD cmpL_tot hpm hsd
      have hyl : ys.length = bs.length := hpm.length_eq
      have hbx : ((H1 ++ [(⟨0, 38, 1, [I n, .nm t ver 0 bs.length]⟩ : Blk)]).set t ⟨ver, tyLL, 1, cs⟩)[H1.length]? = some ⟨0, 38, 1, [I n, .nm t ver 0 bs.length]⟩ := by rw [List.getElem?_set_ne (by omega)]; simp
      have hbd : ((H1 ++ [(⟨0, 38, 1, [I n, .nm t ver 0 bs.length]⟩ : Blk)]).set t ⟨ver, tyLL, 1, cs⟩)[H.length]? = some ⟨0, 38, 1, [I 0, nilS]⟩ := by rw [List.getElem?_set_ne (by omega)]; exact get_appB2 hbox _
      have hpre2 : ∀ j, j < H.length → ((H1 ++ [(⟨0, 38, 1, [I n, .nm t ver 0 bs.length]⟩ : Blk)]).set t ⟨ver, tyLL, 1, cs⟩)[j]? = H[j]? := fun j hj => by
        rw [List.getElem?_set_ne (by omega), List.getElem?_append_left (by omega)]; exact hpre j hj
      have hlen2 : ((H1 ++ [(⟨0, 38, 1, [I n, .nm t ver 0 bs.length]⟩ : Blk)]).set t ⟨ver, tyLL, 1, cs⟩).length = H1.length + 1 := by simp
      generalize (H1 ++ [(⟨0, 38, 1, [I n, .nm t ver 0 bs.length]⟩ : Blk)]).set t ⟨ver, tyLL, 1, cs⟩ = H3 at *
      have hst := pc_st (cs := [I n, .nm t ver 0 bs.length]) (off := 0) hbd (by simp)
      have hld : acells H3 2 (.pc H1.length 0 0) = some [I n, .nm t ver 0 bs.length] := pc_lds hbx (by simp)
      repeat (first | (with_reducible first | refine SW.seq ?_ | refine SW.block ?_ | refine SW.rowC ?_ | refine SW.skip ?_ | refine SW.exit ?_ | intro _ | refine And.intro (by omega) ?_) | simp (config := { maxSteps := 1000000 }) (disch := (first | omega | (simp only [go_sem]; try omega))) only [go_sem, Nat.reduceAdd, Nat.reduceEqDiff, Nat.reduceLeDiff, Nat.reduceMul, Nat.reduceLT, reduceIte, Int.reduceToNat, w64_id, cast_succ, pc_alive hbx, hld, hst, pc_alive hbd])
      refine SW.ret ?_
      refine FunPost.cell_tmp (cs := [I n, .nm t ver 0 bs.length]) (pc_lds (List.getElem?_set_self (by omega)) (by simp [setMany])) ?_
      obtain ⟨e, he⟩ := prefix_of (H := H) (H' := H3.set H.length ⟨0, 38, 1, setMany [I 0, nilS] 0 [I n, .nm t ver 0 bs.length]⟩) (by simp; omega) (fun j hj => by rw [List.getElem?_set_ne (by omega)]; exact hpre2 j hj)
      refine GR.of ⟨e, _, he, rfl, .inl ⟨t, ver, tyLL, cs, by rw [← hyl, hy], ?_⟩⟩
      rw [← hy]
      refine (hown2.same (H' := H3.set H.length ⟨0, 38, 1, setMany [I 0, nilS] 0 [I n, .nm t ver 0 bs.length]⟩) (fun j b q hb => ?_)).weak (fun r h1 h2 => ?_)
      · unfold Fr at q
        rw [List.getElem?_set_ne (by omega)]; exact hb
      · unfold Fr at h1
        exact ⟨by omega, h2⟩
end Go.Proofs.Ytmdeibdplpodpaa
