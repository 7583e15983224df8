/- One block more each time: the program. -/
import Derived.Test.YtmdeibdplpodpaaGreatProg
import Derived.KernelRfl
import Derived.Test.YtmdeibdplpodpaaGreatzZ2
import Derived.Test.YtmdeibdplpodpaaGreatzZ3
import Derived.Test.YtmdeibdplpodpaaGreatzX2
import Derived.Test.YtmdeibdplpodpaaGreatzK50
set_option linter.unusedSimpArgs false
set_option linter.unusedVariables false
set_option maxHeartbeats 4000000
set_option maxRecDepth 100000
namespace Go.Proofs.YtmdeibdplpodpaaGreat
open Go.Av
abbrev f_impl_extended : Nat := 47
def c_impl_extended : SC :=
 .seq (.reg [
     ⟨(some 8), .mv (.const (.slice none 0 0)), none⟩] [0, 1, 2, 3])
 (.seq (.reg [
     ⟨(some 9), .mv (.const (.slice none 0 0)), none⟩] [0, 1, 2, 3, 9])
 (.seq (.seq (.reg [
     ⟨(some 15), .mv (.tmp 1), none⟩,
     ⟨(some 16), .len (.tmp 15), none⟩,
     ⟨(some 17), .mv (.const (.int .i64 0)), none⟩] [0, 2, 3, 9, 15, 16, 17])
 (.block 0 (.loop [0, 2, 3, 9, 15, 16, 17]
   (.seq (.reg [
       ⟨(some 18), .bin .lss (.tmp 17) (.tmp 16), none⟩] [0, 2, 3, 9, 15, 16, 17, 18])
   (.seq (.cond (.tmp 18)
    (.skip)
    (.exit 0))
   (.seq (.block 1 (.seq (.reg [
        ⟨(some 19), .iaddr 1 (.tmp 15) (.tmp 17), none⟩,
        ⟨(some 20), .load 1 false (.tmp 19), none⟩,
        ⟨(some 11), .mv (.tmp 20), none⟩] [0, 2, 3, 9, 11, 15, 16, 17])
    (.seq (.reg [
        ⟨(some 21), .mv (.tmp 0), none⟩,
        ⟨(some 22), .mv (.tmp 11), none⟩,
        ⟨(some 23), .mv (.tmp 2), none⟩,
        ⟨(some 24), .mv (.tmp 3), none⟩,
        ⟨(some 25), .call 77 [(.tmp 21), (.tmp 22), (.tmp 23), (.tmp 24)], none⟩,
        ⟨(some 26), .len (.tmp 25), none⟩,
        ⟨(some 27), .mv (.const (.int .i64 0)), none⟩] [0, 2, 3, 9, 11, 15, 16, 17, 25, 26, 27])
    (.block 2 (.loop [0, 2, 3, 9, 11, 15, 16, 17, 25, 26, 27]
      (.seq (.reg [
          ⟨(some 28), .bin .lss (.tmp 27) (.tmp 26), none⟩] [0, 2, 3, 9, 11, 15, 16, 17, 25, 26, 27, 28])
      (.seq (.cond (.tmp 28)
       (.skip)
       (.exit 2))
      (.seq (.block 3 (.seq (.reg [
           ⟨(some 29), .iaddr 1 (.tmp 25) (.tmp 27), none⟩,
           ⟨(some 30), .load 1 false (.tmp 29), none⟩,
           ⟨(some 13), .mv (.tmp 30), none⟩] [0, 2, 3, 9, 11, 13, 15, 16, 17, 25, 26, 27])
       (.seq (.reg [
           ⟨(some 31), .mv (.tmp 11), none⟩,
           ⟨(some 32), .call 78 [(.tmp 31)], none⟩,
           ⟨(some 33), .mv (.tmp 13), none⟩,
           ⟨(some 34), .bslice 22 1 1 [(.slice none 0 0)] [(0, (.tmp 33))], none⟩,
           ⟨(some 35), .app 22 1 24 (.tmp 32) (.tmp 34), none⟩,
           ⟨(some 14), .mv (.tmp 35), none⟩] [0, 2, 3, 9, 11, 14, 15, 16, 17, 25, 26, 27])
       (.seq (.reg [
           ⟨(some 36), .mv (.tmp 14), none⟩,
           ⟨(some 37), .call 79 [(.tmp 36), (.func 80)], none⟩] [0, 2, 3, 9, 11, 14, 15, 16, 17, 25, 26, 27])
       (.reg [
           ⟨(some 38), .mv (.tmp 9), none⟩,
           ⟨(some 39), .mv (.tmp 0), none⟩,
           ⟨(some 40), .mv (.tmp 14), none⟩,
           ⟨(some 41), .call 81 [(.tmp 39), (.tmp 40)], none⟩,
           ⟨(some 42), .bslice 25 1 1 [(.slice none 0 0)] [(0, (.tmp 41))], none⟩,
           ⟨(some 43), .app 25 1 24 (.tmp 38) (.tmp 42), none⟩,
           ⟨(some 9), .mv (.tmp 43), none⟩] [0, 2, 3, 9, 11, 15, 16, 17, 25, 26, 27])))))
      (.reg [
          ⟨(some 44), .bin .add (.tmp 27) (.const (.int .i64 1)), none⟩,
          ⟨(some 27), .mv (.tmp 44), none⟩] [0, 2, 3, 9, 11, 15, 16, 17, 25, 26, 27])))))))))
   (.reg [
       ⟨(some 45), .bin .add (.tmp 17) (.const (.int .i64 1)), none⟩,
       ⟨(some 17), .mv (.tmp 45), none⟩] [0, 2, 3, 9, 15, 16, 17])))))))
 (.seq (.reg [
     ⟨(some 46), .mv (.tmp 9), none⟩,
     ⟨(some 47), .call 82 [(.tmp 46), (.func 83)], none⟩] [9])
 (.seq (.reg [
     ⟨(some 48), .mv (.tmp 9), none⟩,
     ⟨(some 49), .call 84 [(.tmp 48), (.func 61)], none⟩,
     ⟨(some 8), .mv (.tmp 49), none⟩] [8])
 (.ret)))))
theorem s_impl_extended : stripF Tryz.prog 47 [[0, 1, 2, 3], [0, 1, 2, 3, 9], [0, 2, 3, 9, 15, 16, 17], [0, 2, 3, 9, 15, 16, 17], [0, 2, 3, 9, 15, 16, 17, 18], [0, 2, 3, 9, 11, 15, 16, 17], [0, 2, 3, 9, 11, 15, 16, 17, 25, 26, 27], [0, 2, 3, 9, 11, 15, 16, 17, 25, 26, 27], [0, 2, 3, 9, 11, 15, 16, 17, 25, 26, 27, 28], [0, 2, 3, 9, 11, 13, 15, 16, 17, 25, 26, 27], [0, 2, 3, 9, 11, 14, 15, 16, 17, 25, 26, 27], [0, 2, 3, 9, 11, 14, 15, 16, 17, 25, 26, 27], [0, 2, 3, 9, 11, 15, 16, 17, 25, 26, 27], [0, 2, 3, 9, 11, 15, 16, 17, 25, 26, 27], [0, 2, 3, 9, 15, 16, 17], [9], [8]] = some (c_impl_extended, [.tmp 8], 50) := by kernel_rfl
def FX1 (P : Program) (f : FuncId) (args : List AV) (x3 : List (List (List Int))) : Prop :=
  ∀ H, ACalls P f args H fun r H' => ∃ ext, H' = H ++ ext ∧ OwnX H' (Btw H.length H'.length) r x3
theorem FX1.lend {P : Program} {f : FuncId} {args args' : List AV} {x3 : List (List (List Int))} (h : FX1 P f args' x3) {H : List Blk} (hf : Frozs H args args') :
    ACalls P f args H fun r H' => ∃ ext, H' = H ++ ext ∧ OwnX H' (Btw H.length H'.length) r x3 := by
  refine ((h []).lend hf ?_).mono ?_
  · rintro r H0 ⟨ext, rfl, ho⟩
    exact ho.ov
  · rintro r H' ⟨r0, H0, ⟨ext, rfl, ho⟩, rfl, rfl⟩
    refine ⟨_, rfl, ho.sh (H := H) (N' := Btw H.length (H ++ _).length) (fun i hi => ?_)⟩
    unfold Btw at hi ⊢
    simp at hi ⊢; omega
theorem ownSS_lend {P : Program} {f : FuncId} {args args' : List AV} {xss : List (List Int)} (h : ∀ H, ACalls P f args' H fun r H' => ∃ ext, H' = H ++ ext ∧ OwnSS H' (Btw H.length H'.length) r xss) {H : List Blk} (hf : Frozs H args args') :
    ACalls P f args H fun r H' => ∃ ext, H' = H ++ ext ∧ OwnSS H' (Btw H.length H'.length) r xss := by
  refine ((h []).lend hf ?_).mono ?_
  · rintro r H0 ⟨ext, rfl, ho⟩
    exact ho.ov
  · rintro r H' ⟨r0, H0, ⟨ext, rfl, ho⟩, rfl, rfl⟩
    refine ⟨_, rfl, ho.sh (H := H) (N' := Btw H.length (H ++ _).length) (fun i hi => ?_)⟩
    unfold Btw at hi ⊢
    simp at hi ⊢; omega
theorem growL_snoc (v k : Nat) (s : Int) (l : List (List (List Int))) (y : List (List Int)) : growL v k s (l ++ [y]) = growL v k s l ++ grow1 v k s y := by simp [growL]
theorem froz_rowS' {H : List Blk} {b r ver ty n : Nat} {xs : List (List Int)} (hn : n = xs.length) (hb : b ≤ r) (hr : H[r]? = some ⟨ver, ty, 1, xs.map ilS⟩) : Froz H b (.nm r ver 0 n) (ilSS xs) := by subst hn; exact froz_rowS hb hr
theorem extended_own (v k : Nat) (s : Int) (l : List (List (List Int))) (j : Nat) (h1 : 1 ≤ v) (h6 : v ≤ 6) (hk : k ≤ 6) (hj : j ≤ 20) (hl : ∀ bs ∈ l, packOk v k j bs) (hll : l.length ≤ 1048576) :
    FX1 Tryz.prog f_impl_extended [I v, il3 l, I k, I s] (genS v k s l) := by
  intro H
  refine ACalls.introB s_impl_extended (by simp) ?_; intro hB hA; unfold c_impl_extended; simp (config := { maxSteps := 1000000 }) (disch := (first | omega | (simp only [go_sem]; try omega))) only [go_sem, Nat.reduceAdd, Nat.reduceEqDiff, Nat.reduceLeDiff, Nat.reduceMul, Nat.reduceLT, reduceIte, Int.reduceToNat, w64_id, cast_succ]
  repeat (first | (with_reducible first | refine SW.seq ?_ | refine SW.block ?_ | refine SW.rowC ?_ | refine SW.skip ?_ | refine SW.exit ?_ | intro _ | refine And.intro (by omega) ?_) | simp (config := { maxSteps := 1000000 }) (disch := (first | omega | (simp only [go_sem]; try omega))) only [go_sem, Nat.reduceAdd, Nat.reduceEqDiff, Nat.reduceLeDiff, Nat.reduceMul, Nat.reduceLT, reduceIte, Int.reduceToNat, w64_id, cast_succ])
  refine SW.ghost (Gh.name 9 25 1 rfl) ?_
  simp (config := { maxSteps := 1000000 }) (disch := (first | omega | (simp only [go_sem]; try omega))) only [go_sem, Nat.reduceAdd, Nat.reduceEqDiff, Nat.reduceLeDiff, Nat.reduceMul, Nat.reduceLT, reduceIte, Int.reduceToNat, w64_id, cast_succ]
  refine SW.loopE (fun E0 H0 q E' H' => ∃ (pre post : List (List (List Int))) (ver : Nat) (cells : List AV) (M : Nat → Nat → Prop), l = pre ++ post ∧ q = post.length ∧ E' = aput (aput E0 17 (I pre.length)) 9 (.nm H.length ver 0 (growL v k s pre).length) ∧ OwnXC H' (Btw H.length H'.length) M H.length ver 25 cells (growL v k s pre) ∧ ∀ j, j < H.length → H'[j]? = H[j]?) l.length
    ⟨[], l, 0, [], fun _ _ => False, rfl, rfl, rfl, ⟨⟨by omega, by simp⟩, by simp, rfl, by simp, by simp, by simp⟩, fun j hj => by rw [List.getElem?_append_left hj]⟩ ?_
  rintro q E' H1 ⟨pre, post, ver, cells, M, hpp, rfl, rfl, hown, hpre⟩
  refine SW.hb (fun hB1 => ?_)
  have hlt : H.length < H1.length := (List.getElem?_eq_some_iff.1 hown.2.1).1
  have hprl : pre.length ≤ 1048576 := by rw [hpp] at hll; simp at hll; omega
  have hgl := growL_len (s := s) h6 hk pre
  have hsn := fun y => growL_snoc v k s pre y
  generalize hG : growL v k s pre = G at *
  simp (config := { maxSteps := 1000000 }) (disch := (first | omega | (simp only [go_sem]; try omega))) only [go_sem, Nat.reduceAdd, Nat.reduceEqDiff, Nat.reduceLeDiff, Nat.reduceMul, Nat.reduceLT, reduceIte, Int.reduceToNat, w64_id, cast_succ]
  repeat (first | (with_reducible first | refine SW.seq ?_ | refine SW.block ?_ | refine SW.rowC ?_ | refine SW.skip ?_ | refine SW.exit ?_ | intro _ | refine And.intro (by omega) ?_) | simp (config := { maxSteps := 1000000 }) (disch := (first | omega | (simp only [go_sem]; try omega))) only [go_sem, Nat.reduceAdd, Nat.reduceEqDiff, Nat.reduceLeDiff, Nat.reduceMul, Nat.reduceLT, reduceIte, Int.reduceToNat, w64_id, cast_succ])
  (first | refine SW.condD rfl (fun h => ?_) (fun h => ?_) | refine SW.condN rfl (fun h => ?_) (fun h => ?_) | refine SW.condNB rfl (fun h => ?_) (fun h => ?_) | refine SW.condB rfl (fun h => ?_) (fun h => ?_))
  · obtain ⟨y, post, rfl, hgy, -⟩ := consOf (d := []) hpp (by omega)
    have hy := hl y (by rw [hpp]; simp)
    have hyr : ∀ b ∈ y, b.length ≤ 6 := fun b hb => by have := (hy.2.2 b hb).1; omega
    have hyl : y.length ≤ 20 := by have := hy.1; omega
    have hext := extensions_new H1 v y k s (by omega) (by omega) (fun b hb => by have := hyr b hb; omega)
    repeat (first | (with_reducible first | refine SW.seq ?_ | refine SW.block ?_ | refine SW.rowC ?_ | refine SW.skip ?_ | refine SW.exit ?_ | intro _ | refine And.intro (by omega) ?_) | simp (config := { maxSteps := 1000000 }) (disch := (first | omega | (simp only [go_sem]; try omega))) only [go_sem, Nat.reduceAdd, Nat.reduceEqDiff, Nat.reduceLeDiff, Nat.reduceMul, Nat.reduceLT, reduceIte, Int.reduceToNat, w64_id, cast_succ, hgy])
    refine hext.mono ?_
    rintro r H2 ⟨ext, rfl, own⟩
    obtain ⟨oc, hvo, -, -⟩ := own.rd
    repeat (first | (with_reducible first | refine SW.seq ?_ | refine SW.block ?_ | refine SW.rowC ?_ | refine SW.skip ?_ | refine SW.exit ?_ | intro _ | refine And.intro (by omega) ?_) | simp (config := { maxSteps := 1000000 }) (disch := (first | omega | (simp only [go_sem]; try omega))) only [go_sem, Nat.reduceAdd, Nat.reduceEqDiff, Nat.reduceLeDiff, Nat.reduceMul, Nat.reduceLT, reduceIte, Int.reduceToNat, w64_id, cast_succ, hvo])
    refine SW.froz hB1 (by omega) (.cons _ (ren_I _) (.cons _ (ren_I _) (.cons _ (ren_I _) (.cons _ (.old _ (.nm _ _ _ _ hlt)) (.cons _ (ren_ilSS _) (.cons _ (.old _ (by rw [Bel_il3]; trivial)) (.cons _ (ren_I _) (.cons _ (ren_I _) (.cons _ (ren_of_froz (own.froz (fun r hr => hr.1))) (.cons _ (ren_I _) (.cons _ (ren_I _) .nil))))))))))) ?_
    have hXl := exts_len v k s y
    have hc20 := ch_le20 v h6 k (by omega)
    have hgr : grow1 v k s y = (exts v y k s).map fun set => leastF (more y set) (perms v) := rfl
    have hXm : ∀ set ∈ exts v y k s, set.length = k ∧ asc 0 ((v : Int) - 1) set = true ∧ set ∉ y := fun set h => exts_mem h
    generalize hX : exts v y k s = X at *
    have hX2 : (subsN v k).filter (fitB y s) = X := hX
    rw [hX2]
    refine SW.loopE (fun E0 H0 q E' H' => ∃ (pr po : List (List Int)) (ver : Nat) (cells : List AV) (M : Nat → Nat → Prop), X = pr ++ po ∧ q = po.length ∧ E' = aput (aput E0 27 (I pr.length)) 9 (.nm H.length ver 0 (G ++ pr.map fun set => leastF (more y set) (perms v)).length) ∧ OwnXC H' (Btw H.length H'.length) M H.length ver 25 cells (G ++ pr.map fun set => leastF (more y set) (perms v)) ∧ ∀ j, j < H.length → H'[j]? = H[j]?) X.length
      ⟨[], X, ver, cells, M, rfl, rfl, by simp [go_sem], by simpa using hown, hpre⟩ ?_
    rintro q E' H3 ⟨pr, po, ver3, cells3, M3, hp3, rfl, rfl, hown3, hpre3⟩
    refine SW.hb (fun hB3 => ?_)
    have hlt3 : H.length < H3.length := (List.getElem?_eq_some_iff.1 hown3.2.1).1
    have hpl3 : pr.length ≤ 20 := by rw [hp3] at hXl; simp at hXl; omega
    generalize hG3 : G ++ pr.map (fun set => leastF (more y set) (perms v)) = G3 at *
    have hG3l : G3.length ≤ 20 * 1048576 + 20 := by rw [← hG3]; simp; omega
    simp (config := { maxSteps := 1000000 }) (disch := (first | omega | (simp only [go_sem]; try omega))) only [go_sem, Nat.reduceAdd, Nat.reduceEqDiff, Nat.reduceLeDiff, Nat.reduceMul, Nat.reduceLT, reduceIte, Int.reduceToNat, w64_id, cast_succ]
    repeat (first | (with_reducible first | refine SW.seq ?_ | refine SW.block ?_ | refine SW.rowC ?_ | refine SW.skip ?_ | refine SW.exit ?_ | intro _ | refine And.intro (by omega) ?_) | simp (config := { maxSteps := 1000000 }) (disch := (first | omega | (simp only [go_sem]; try omega))) only [go_sem, Nat.reduceAdd, Nat.reduceEqDiff, Nat.reduceLeDiff, Nat.reduceMul, Nat.reduceLT, reduceIte, Int.reduceToNat, w64_id, cast_succ])
    (first | refine SW.condD rfl (fun h2 => ?_) (fun h2 => ?_) | refine SW.condN rfl (fun h2 => ?_) (fun h2 => ?_) | refine SW.condNB rfl (fun h2 => ?_) (fun h2 => ?_) | refine SW.condB rfl (fun h2 => ?_) (fun h2 => ?_))
    · obtain ⟨set, po, rfl, hgs, -⟩ := consOf (d := []) hp3 (by omega)
      obtain ⟨q1, q2, q3⟩ := hXm set (by rw [hp3]; simp)
      repeat (first | (with_reducible first | refine SW.seq ?_ | refine SW.block ?_ | refine SW.rowC ?_ | refine SW.skip ?_ | refine SW.exit ?_ | intro _ | refine And.intro (by omega) ?_) | simp (config := { maxSteps := 1000000 }) (disch := (first | omega | (simp only [go_sem]; try omega))) only [go_sem, Nat.reduceAdd, Nat.reduceEqDiff, Nat.reduceLeDiff, Nat.reduceMul, Nat.reduceLT, reduceIte, Int.reduceToNat, w64_id, cast_succ, hgs])
      refine (copyLists_fz H3 (ilSS y) y rfl (by omega) (fun b hb => by have := hyr b hb; omega)).mono ?_
      rintro r H4 ⟨ver4, rfl, rfl⟩
      have htl : (y.map ilS).take y.length = y.map ilS := List.take_of_length_le (by simp)
      repeat (first | (with_reducible first | refine SW.seq ?_ | refine SW.block ?_ | refine SW.rowC ?_ | refine SW.skip ?_ | refine SW.exit ?_ | intro _ | refine And.intro (by omega) ?_) | simp (config := { maxSteps := 1000000 }) (disch := (first | omega | (simp only [go_sem]; try omega))) only [go_sem, Nat.reduceAdd, Nat.reduceEqDiff, Nat.reduceLeDiff, Nat.reduceMul, Nat.reduceLT, reduceIte, Int.reduceToNat, w64_id, cast_succ, htl])
      have hsf := sortFz_ok (H3 ++ [⟨ver4 + 1, tyLL, 1, (y ++ [set]).map ilS⟩, ⟨0, tyLL, 1, [ilS set]⟩]) H3.length (ver4 + 1) tyLL (y ++ [set]) (by simp) (by simp; omega)
      rw [show (y ++ [set]).length = y.length + 1 by simp] at hsf
      refine hsf.mono ?_
      rintro r H4 ⟨rfl, ys, hpm, hsd, rfl⟩
      have hmk := more_ok hy q1 q2 q3
      have hnd : (y ++ [set]).Nodup := by
        rw [List.nodup_append]
        exact ⟨hy.2.1.nodup cmpL_tot, by simp, fun a ha b hb => by rw [List.mem_singleton.1 hb]; exact fun e => q3 (e ▸ ha)⟩
      have hys : ys = more y set := sorted_is cmpL_tot hpm hsd hnd
      have hyl2 : ys.length = y.length + 1 := by have := hpm.length_eq; simpa using this
      have hls := fun H => leastSystem_own H v ys (by rw [hys]; exact hmk.sys h1 h6) (by omega)
      repeat (first | (with_reducible first | refine SW.seq ?_ | refine SW.block ?_ | refine SW.rowC ?_ | refine SW.skip ?_ | refine SW.exit ?_ | intro _ | refine And.intro (by omega) ?_) | simp (config := { maxSteps := 1000000 }) (disch := (first | omega | (simp only [go_sem]; try omega))) only [go_sem, Nat.reduceAdd, Nat.reduceEqDiff, Nat.reduceLeDiff, Nat.reduceMul, Nat.reduceLT, reduceIte, Int.reduceToNat, w64_id, cast_succ])
      refine (ownSS_lend hls (.cons (froz_I' _) (.cons (froz_rowS' (r := H3.length) (ver := ver4 + 1) (ty := tyLL) (xs := ys) hyl2.symm (Nat.zero_le _) (by simp)) .nil))).mono ?_
      rintro r H5 ⟨ext5, hH5, own5⟩
      rw [hys] at own5
      have h35 : ∀ j, j < H3.length → H5[j]? = H3[j]? := fun j hj => by rw [hH5, List.append_assoc, List.getElem?_append_left hj]
      have hl5 : H3.length + 2 ≤ H5.length := by rw [hH5]; simp
      have hlq : ∀ a b : Blk, (H3 ++ [a, b]).length = H3.length + 2 := fun a b => by simp
      rw [hlq] at own5
      clear hH5
      have hMl : ∀ j r, M3 j r → r < H3.length := fun j r q => (hown3.2.2.2.2.1 j r q).1.2
      repeat (first | (with_reducible first | refine SW.seq ?_ | refine SW.block ?_ | refine SW.rowC ?_ | refine SW.skip ?_ | refine SW.exit ?_ | intro _ | refine And.intro (by omega) ?_) | simp (config := { maxSteps := 1000000 }) (disch := (first | omega | (simp only [go_sem]; try omega))) only [go_sem, Nat.reduceAdd, Nat.reduceEqDiff, Nat.reduceLeDiff, Nat.reduceMul, Nat.reduceLT, reduceIte, Int.reduceToNat, w64_id, cast_succ, own5.oneU.1, own5.oneU.2])
      rw [AppX_nm (h1 := rfl) (h2 := by simp [own5.oneU.1])]
      refine OwnXC.appN (H1 := H3) (N := Btw H.length H5.length) (Pn := Btw (H3.length + 2) H5.length) (xss := leastF (more y set) (perms v)) (hown3.mono (fun r hr => ⟨hr.1, by have := hr.2; omega⟩)) ?_ (fun r hr => ⟨⟨by have := hr.1; omega, hr.2⟩, by have := hr.1; omega, fun j _ q => by have := hMl j r q; have := hr.1; omega⟩) (by omega) ?_ ?_
      · exact own5.append _
      · intro j b hj hb
        have hjl := (List.getElem?_eq_some_iff.1 hb).1
        rw [List.getElem?_append_left (by omega), h35 j hjl]; exact hb
      · rintro v' H6 rfl ⟨M6, cells6, o6⟩ hl6 h6'
        repeat (first | (with_reducible first | refine SW.seq ?_ | refine SW.block ?_ | refine SW.rowC ?_ | refine SW.skip ?_ | refine SW.exit ?_ | intro _ | refine And.intro (by omega) ?_) | simp (config := { maxSteps := 1000000 }) (disch := (first | omega | (simp only [go_sem]; try omega))) only [go_sem, Nat.reduceAdd, Nat.reduceEqDiff, Nat.reduceLeDiff, Nat.reduceMul, Nat.reduceLT, reduceIte, Int.reduceToNat, w64_id, cast_succ])
        rw [List.length_append] at hl6
        refine SLoop.next po.length (by simp) ⟨pr ++ [set], po, ver3 + 1, cells6, M6, by simp [hp3], rfl, ?_, ?_, fun j hj => ?_⟩
        · rw [← hG3]; simp [go_sem]; omega
        · rw [show G ++ (pr ++ [set]).map (fun set => leastF (more y set) (perms v)) = G3 ++ [leastF (more y set) (perms v)] by rw [← hG3]; simp]
          exact o6.mono (fun r hr => ⟨hr.1, by have := hr.2; omega⟩)
        · rw [h6' j (by omega), List.getElem?_append_left (by omega), h35 j (by omega)]; exact hpre3 j hj
    · obtain ⟨rfl, rfl⟩ := nilOf hp3 (by omega)
      repeat (first | (with_reducible first | refine SW.seq ?_ | refine SW.block ?_ | refine SW.rowC ?_ | refine SW.skip ?_ | refine SW.exit ?_ | intro _ | refine And.intro (by omega) ?_) | simp (config := { maxSteps := 1000000 }) (disch := (first | omega | (simp only [go_sem]; try omega))) only [go_sem, Nat.reduceAdd, Nat.reduceEqDiff, Nat.reduceLeDiff, Nat.reduceMul, Nat.reduceLT, reduceIte, Int.reduceToNat, w64_id, cast_succ])
      refine SLoop.next post.length (by simp) ⟨pre ++ [y], post, ver3, cells3, M3, by simp [hpp], rfl, ?_, ?_, hpre3⟩
      · rw [hsn, hgr, hG3]; simp [go_sem]
      · rw [hsn, hgr, hG3]; exact hown3
  · obtain ⟨rfl, rfl⟩ := nilOf hpp (by omega)
    repeat (first | (with_reducible first | refine SW.seq ?_ | refine SW.block ?_ | refine SW.rowC ?_ | refine SW.skip ?_ | refine SW.exit ?_ | intro _ | refine And.intro (by omega) ?_) | simp (config := { maxSteps := 1000000 }) (disch := (first | omega | (simp only [go_sem]; try omega))) only [go_sem, Nat.reduceAdd, Nat.reduceEqDiff, Nat.reduceLeDiff, Nat.reduceMul, Nat.reduceLT, reduceIte, Int.reduceToNat, w64_id, cast_succ])
    refine (hown.sort_ok sortLLL_p sortLLL_n compareSystems_call cmpSS cmpSS_tot compareSystems_fn (by omega)).mono ?_
    rintro r H2 ⟨rfl, cs, ys, M2, hpm, hsd, rfl, hown2⟩
    have hlen : G.length = ys.length := hpm.length_eq.symm
    have hpre2 : ∀ j, j < H.length → (H1.set H.length ⟨ver, 25, 1, cs⟩)[j]? = H[j]? := fun j hj => by
      rw [List.getElem?_set_ne (by omega)]; exact hpre j hj
    have hl2 : (H1.set H.length ⟨ver, 25, 1, cs⟩).length = H1.length := by simp
    generalize H1.set H.length ⟨ver, 25, 1, cs⟩ = H2 at *
    have hown3 := hown2
    obtain ⟨o1, o2, o3, o4, o5, o6⟩ := hown2
    have hos : ∀ j, j < ys.length → OwnSS H2 (M2 j) (cs.getD j nilS) (ys.getD j []) := fun j hj => by
      refine o4 j _ _ ?_ ?_
      · rw [List.getD_eq_getElem?_getD, List.getElem?_eq_getElem (by omega)]; rfl
      · rw [List.getD_eq_getElem?_getD, List.getElem?_eq_getElem hj]; rfl
    have hco := compactX_ok H2 H.length ver 25 ys cs o2 o3 (fun c hc => by
      obtain ⟨j, hj, rfl⟩ := List.getElem_of_mem hc
      exact (o4 j _ _ (List.getElem?_eq_getElem hj) (List.getElem?_eq_getElem (by omega))).oneU) (fun cells' j hj => by
      refine ((hos j hj).same (fun r b hr hb => ?_)).rd
      rw [List.getElem?_set_ne (Ne.symm (o5 j r hr).2)]; exact hb) (by omega)
    rw [hlen]
    repeat (first | (with_reducible first | refine SW.seq ?_ | refine SW.block ?_ | refine SW.rowC ?_ | refine SW.skip ?_ | refine SW.exit ?_ | intro _ | refine And.intro (by omega) ?_) | simp (config := { maxSteps := 1000000 }) (disch := (first | omega | (simp only [go_sem]; try omega))) only [go_sem, Nat.reduceAdd, Nat.reduceEqDiff, Nat.reduceLeDiff, Nat.reduceMul, Nat.reduceLT, reduceIte, Int.reduceToNat, w64_id, cast_succ])
    refine hco.mono ?_
    rintro r H3 ⟨cells3, rfl, rfl, hct, hcl⟩
    repeat (first | (with_reducible first | refine SW.seq ?_ | refine SW.block ?_ | refine SW.rowC ?_ | refine SW.skip ?_ | refine SW.exit ?_ | intro _ | refine And.intro (by omega) ?_) | simp (config := { maxSteps := 1000000 }) (disch := (first | omega | (simp only [go_sem]; try omega))) only [go_sem, Nat.reduceAdd, Nat.reduceEqDiff, Nat.reduceLeDiff, Nat.reduceMul, Nat.reduceLT, reduceIte, Int.reduceToNat, w64_id, cast_succ])
    refine SW.ret ?_; (try simp only [go_sem]); (first | refine FunPost.one ?_ | refine FunPost.two ?_ | refine FunPost.three ?_); (try simp (config := { maxSteps := 1000000 }) (disch := (first | omega | (simp only [go_sem]; try omega))) only [go_sem, Nat.reduceAdd, Nat.reduceEqDiff, Nat.reduceLeDiff, Nat.reduceMul, Nat.reduceLT, reduceIte, Int.reduceToNat, w64_id, cast_succ])
    have hget3 : (H2.set H.length ⟨ver, 25, 1, cells3⟩)[H.length]? = some ⟨ver, 25, 1, cells3⟩ := List.getElem?_set_self (by omega)
    refine GR.trunc (keepX ys ys.length).length hget3 ?_
    rw [List.set_set, hct]
    have hcp := hown3.compact ys.length (Nat.le_refl _)
    have hdd : ddX ys ys.length = genS v k s pre := by
      rw [ddX_is hsd]
      unfold genS
      rw [hG]
      refine asc_uniq cmpSS_tot (sortU_asc cmpSS_tot _) (sortU_asc cmpSS_tot _) (fun y => ?_)
      rw [sortU_mem cmpSS_tot, sortU_mem cmpSS_tot]
      exact hpm.mem_iff
    have hkl : (keepX ys ys.length).length = (ddX ys ys.length).length := by rw [← keepX_map]; simp
    have hpx := prefix_of (H := H) (H' := H2.set H.length ⟨ver, 25, 1, (keepX ys ys.length).map (fun j => cs.getD j nilS)⟩) (by simp; omega) (fun j hj => by rw [List.getElem?_set_ne (by omega)]; exact hpre2 j hj)
    obtain ⟨ext, hext⟩ := hpx
    refine GR.of ⟨ext, hext, ?_⟩
    rw [← hdd, hkl]
    exact .inl ⟨H.length, ver, 25, _, _, rfl, hcp.mono (fun r hr => ⟨hr.1, by rw [List.length_set]; have := hr.2; omega⟩)⟩
end Go.Proofs.YtmdeibdplpodpaaGreat
namespace Go.Proofs.YtmdeibdplpodpaaGreat
open Go.Av
abbrev f_spec_l27PutSystem : Nat := 45
def c_spec_l27PutSystem : SC :=
 .seq (.reg [
     ⟨(some 4), .mv (.const (.slice none 0 0)), none⟩] [0, 1])
 (.seq (.reg [
     ⟨(some 9), .bslice 25 1 0 [] [], none⟩,
     ⟨(some 5), .mv (.tmp 9), none⟩] [0, 1, 5])
 (.seq (.reg [
     ⟨(some 6), .mv (.const (.bool false)), none⟩] [0, 1, 5, 6])
 (.seq (.seq (.reg [
     ⟨(some 7), .mv (.const (.int .i64 0)), none⟩] [0, 1, 5, 6, 7])
 (.block 0 (.loop [0, 1, 5, 6, 7]
   (.seq (.seq (.reg [
       ⟨(some 10), .mv (.tmp 7), none⟩,
       ⟨(some 11), .mv (.tmp 0), none⟩,
       ⟨(some 12), .len (.tmp 11), none⟩,
       ⟨(some 13), .bin .lss (.tmp 10) (.tmp 12), none⟩] [0, 1, 5, 6, 7, 13])
   (.cond (.tmp 13)
    (.skip)
    (.exit 0)))
   (.seq (.block 1 (.seq (.reg [
        ⟨(some 16), .mv (.tmp 0), none⟩,
        ⟨(some 17), .mv (.tmp 7), none⟩,
        ⟨(some 18), .iaddr 1 (.tmp 16) (.tmp 17), none⟩,
        ⟨(some 19), .load 1 false (.tmp 18), none⟩,
        ⟨(some 20), .mv (.tmp 1), none⟩,
        ⟨(some 21), .call 75 [(.tmp 19), (.tmp 20)], none⟩,
        ⟨(some 8), .mv (.tmp 21), none⟩] [0, 1, 5, 6, 7, 8])
    (.seq (.seq (.reg [
        ⟨(some 22), .mv (.tmp 6), none⟩,
        ⟨(some 23), .un .not (.tmp 22), none⟩,
        ⟨(some 24), .mv (.tmp 23), none⟩,
        ⟨(some 25), .mv (.tmp 8), (some (24, true))⟩,
        ⟨(some 26), .bin .geq (.tmp 25) (.const (.int .i64 0)), (some (24, true))⟩,
        ⟨(some 27), .pick (.tmp 24) (.tmp 26) (.const (.bool false)), none⟩] [0, 1, 5, 6, 7, 8, 27])
    (.cond (.tmp 27)
     (.seq (.reg [
         ⟨(some 6), .mv (.const (.bool true)), none⟩] [0, 1, 5, 6, 7, 8])
     (.seq (.reg [
         ⟨(some 28), .mv (.tmp 8), none⟩,
         ⟨(some 29), .bin .gtr (.tmp 28) (.const (.int .i64 0)), none⟩] [0, 1, 5, 6, 7, 29])
     (.cond (.tmp 29)
      (.reg [
          ⟨(some 30), .mv (.tmp 5), none⟩,
          ⟨(some 31), .mv (.tmp 1), none⟩,
          ⟨(some 32), .bslice 25 1 1 [(.slice none 0 0)] [(0, (.tmp 31))], none⟩,
          ⟨(some 33), .app 25 1 24 (.tmp 30) (.tmp 32), none⟩,
          ⟨(some 5), .mv (.tmp 33), none⟩] [0, 1, 5, 6, 7])
      (.skip))))
     (.skip)))
    (.reg [
        ⟨(some 34), .mv (.tmp 5), none⟩,
        ⟨(some 35), .mv (.tmp 0), none⟩,
        ⟨(some 36), .mv (.tmp 7), none⟩,
        ⟨(some 37), .iaddr 1 (.tmp 35) (.tmp 36), none⟩,
        ⟨(some 38), .load 1 false (.tmp 37), none⟩,
        ⟨(some 39), .bslice 25 1 1 [(.slice none 0 0)] [(0, (.tmp 38))], none⟩,
        ⟨(some 40), .app 25 1 24 (.tmp 34) (.tmp 39), none⟩,
        ⟨(some 5), .mv (.tmp 40), none⟩] [0, 1, 5, 6, 7]))))
   (.reg [
       ⟨(some 14), .mv (.tmp 7), none⟩,
       ⟨(some 15), .bin .add (.tmp 14) (.const (.int .i64 1)), none⟩,
       ⟨(some 7), .mv (.tmp 15), none⟩] [0, 1, 5, 6, 7]))))))
 (.seq (.seq (.reg [
     ⟨(some 41), .mv (.tmp 6), none⟩,
     ⟨(some 42), .un .not (.tmp 41), none⟩] [1, 5, 42])
 (.cond (.tmp 42)
  (.reg [
      ⟨(some 43), .mv (.tmp 5), none⟩,
      ⟨(some 44), .mv (.tmp 1), none⟩,
      ⟨(some 45), .bslice 25 1 1 [(.slice none 0 0)] [(0, (.tmp 44))], none⟩,
      ⟨(some 46), .app 25 1 24 (.tmp 43) (.tmp 45), none⟩,
      ⟨(some 5), .mv (.tmp 46), none⟩] [5])
  (.skip)))
 (.seq (.reg [
     ⟨(some 47), .mv (.tmp 5), none⟩,
     ⟨(some 4), .mv (.tmp 47), none⟩] [4])
 (.ret))))))
theorem s_spec_l27PutSystem : stripF Tryz.prog 45 [[0, 1], [0, 1, 5], [0, 1, 5, 6], [0, 1, 5, 6, 7], [0, 1, 5, 6, 7], [0, 1, 5, 6, 7, 13], [0, 1, 5, 6, 7, 8], [0, 1, 5, 6, 7, 8, 27], [0, 1, 5, 6, 7, 8], [0, 1, 5, 6, 7, 29], [0, 1, 5, 6, 7], [0, 1, 5, 6, 7], [0, 1, 5, 6, 7], [1, 5, 42], [5], [4]] = some (c_spec_l27PutSystem, [.tmp 4], 48) := by kernel_rfl
attribute [go_sem] Bel_il3 all_map3
theorem l27PutSystem_fn (xss : List (List (List Int))) (x : List (List Int)) (hl : xss.length ≤ 100000000) (hlen : ∀ y ∈ xss, y.length = x.length) : PFn Tryz.prog f_spec_l27PutSystem [il3 xss, ilSS x] (il3 (insU cmpSS x xss)) := by
  intro H; refine ACalls.introB s_spec_l27PutSystem (by simp) ?_; intro hB hA; unfold c_spec_l27PutSystem; simp (config := { maxSteps := 1000000 }) (disch := (first | omega | (simp only [go_sem]; try omega))) only [go_sem, Nat.reduceAdd, Nat.reduceEqDiff, Nat.reduceLeDiff, Nat.reduceMul, Nat.reduceLT, reduceIte, Int.reduceToNat, w64_id, cast_succ]
  repeat (first | (with_reducible first | refine SW.seq ?_ | refine SW.block ?_ | refine SW.rowC ?_ | refine SW.skip ?_ | refine SW.exit ?_ | intro _ | refine And.intro (by omega) ?_) | simp (config := { maxSteps := 1000000 }) (disch := (first | omega | (simp only [go_sem]; try omega))) only [go_sem, Nat.reduceAdd, Nat.reduceEqDiff, Nat.reduceLeDiff, Nat.reduceMul, Nat.reduceLT, reduceIte, Int.reduceToNat, w64_id, cast_succ])
  refine SW.loopE (fun E0 H0 q E' H' => ∃ (pre post L : List (List (List Int))) (ver : Nat) (done : Bool), xss = pre ++ post ∧ q = post.length ∧ E' = aput (aput (aput E0 7 (I pre.length)) 6 (Bv done)) 5 (.nm H.length ver 0 L.length) ∧ H' = H ++ [⟨ver, 25, 1, L.map ilSS⟩] ∧
    (if done = true then L ++ post else L ++ insU cmpSS x post) = insU cmpSS x xss ∧ L.length ≤ pre.length + (if done = true then 1 else 0)) xss.length ⟨[], xss, [], 0, false, rfl, rfl, rfl, rfl, rfl, by simp⟩ ?_
  rintro q E' H' ⟨pre, post, L, ver, done, hp, rfl, rfl, rfl, hL, hLl⟩
  have hpl : pre.length ≤ 100000000 := by rw [hp] at hl; simp at hl; omega
  have htl : (L.map ilSS).take L.length = L.map ilSS := List.take_of_length_le (by simp)
  have htl1 : ∀ y, (L.map ilSS ++ [ilSS y]).take (L.length + 1) = L.map ilSS ++ [ilSS y] := fun y => List.take_of_length_le (by simp)
  have htl3 : ∀ y, (List.map ilSS (L ++ [y])).take (L.length + 1) = List.map ilSS (L ++ [y]) := fun y => List.take_of_length_le (by simp)
  have insc : ∀ (y : List (List Int)) (r : List (List (List Int))), insU cmpSS x (y :: r) = if cmpSS y x ≥ 0 then (if cmpSS y x > 0 then x :: y :: r else y :: r) else y :: insU cmpSS x r := fun _ _ => rfl
  cases done
  · simp only [Bool.false_eq_true, if_false] at hL hLl
    simp (config := { maxSteps := 1000000 }) (disch := (first | omega | (simp only [go_sem]; try omega))) only [go_sem, Nat.reduceAdd, Nat.reduceEqDiff, Nat.reduceLeDiff, Nat.reduceMul, Nat.reduceLT, reduceIte, Int.reduceToNat, w64_id, cast_succ]
    repeat (first | (with_reducible first | refine SW.seq ?_ | refine SW.block ?_ | refine SW.rowC ?_ | refine SW.skip ?_ | refine SW.exit ?_ | intro _ | refine And.intro (by omega) ?_) | simp (config := { maxSteps := 1000000 }) (disch := (first | omega | (simp only [go_sem]; try omega))) only [go_sem, Nat.reduceAdd, Nat.reduceEqDiff, Nat.reduceLeDiff, Nat.reduceMul, Nat.reduceLT, reduceIte, Int.reduceToNat, w64_id, cast_succ])
    (first | refine SW.condD rfl (fun h => ?_) (fun h => ?_) | refine SW.condN rfl (fun h => ?_) (fun h => ?_) | refine SW.condNB rfl (fun h => ?_) (fun h => ?_) | refine SW.condB rfl (fun h => ?_) (fun h => ?_))
    · obtain ⟨y, post, rfl, hg, -⟩ := consOf (d := []) hp (by omega)
      have hcm := l27Compare_fn y x (hlen y (by rw [hp]; simp))
      rw [insc] at hL
      by_cases hc0 : 0 ≤ cmpSS y x
      · rw [if_pos hc0] at hL
        have hd0 : decide (0 ≤ cmpSS y x) = true := decide_eq_true hc0
        repeat (first | (with_reducible first | refine SW.seq ?_ | refine SW.block ?_ | refine SW.rowC ?_ | refine SW.skip ?_ | refine SW.exit ?_ | refine PFn.use (hcm) ?_ | refine PFn.useq (hcm) ?_ | intro _ | refine And.intro (by omega) ?_) | simp (config := { maxSteps := 1000000 }) (disch := (first | omega | (simp only [go_sem]; try omega))) only [go_sem, Nat.reduceAdd, Nat.reduceEqDiff, Nat.reduceLeDiff, Nat.reduceMul, Nat.reduceLT, reduceIte, Int.reduceToNat, w64_id, cast_succ, hg, hd0])
        refine SW.condT rfl ?_
        repeat (first | (with_reducible first | refine SW.seq ?_ | refine SW.block ?_ | refine SW.rowC ?_ | refine SW.skip ?_ | refine SW.exit ?_ | intro _ | refine And.intro (by omega) ?_) | simp (config := { maxSteps := 1000000 }) (disch := (first | omega | (simp only [go_sem]; try omega))) only [go_sem, Nat.reduceAdd, Nat.reduceEqDiff, Nat.reduceLeDiff, Nat.reduceMul, Nat.reduceLT, reduceIte, Int.reduceToNat, w64_id, cast_succ])
        by_cases hc1 : 0 < cmpSS y x
        · rw [if_pos hc1] at hL
          have hd1 : decide (0 < cmpSS y x) = true := decide_eq_true hc1
          repeat (first | (with_reducible first | refine SW.seq ?_ | refine SW.block ?_ | refine SW.rowC ?_ | refine SW.skip ?_ | refine SW.exit ?_ | intro _ | refine And.intro (by omega) ?_) | simp (config := { maxSteps := 1000000 }) (disch := (first | omega | (simp only [go_sem]; try omega))) only [go_sem, Nat.reduceAdd, Nat.reduceEqDiff, Nat.reduceLeDiff, Nat.reduceMul, Nat.reduceLT, reduceIte, Int.reduceToNat, w64_id, cast_succ, hd1])
          refine SW.condT rfl ?_
          repeat (first | (with_reducible first | refine SW.seq ?_ | refine SW.block ?_ | refine SW.rowC ?_ | refine SW.skip ?_ | refine SW.exit ?_ | intro _ | refine And.intro (by omega) ?_) | simp (config := { maxSteps := 1000000 }) (disch := (first | omega | (simp only [go_sem]; try omega))) only [go_sem, Nat.reduceAdd, Nat.reduceEqDiff, Nat.reduceLeDiff, Nat.reduceMul, Nat.reduceLT, reduceIte, Int.reduceToNat, w64_id, cast_succ, hg, htl, htl1, htl3])
          have htl2 : (L.map ilSS ++ [ilSS x, ilSS y]).take (L.length + 2) = L.map ilSS ++ [ilSS x, ilSS y] := List.take_of_length_le (by simp)
          refine SLoop.nextT 1 post.length hB (by omega) (by simp) (by simp) ?_ ?_ ⟨pre ++ [y], post, L ++ [x, y], ver + 1 + 1, true, by simp [hp], rfl, ?_, ?_, ?_, ?_⟩
          · (simp only [go_sem, Nat.reduceAdd, Nat.reduceEqDiff, reduceIte, go_sem, and_self, and_true, true_and, implies_true, List.take_succ_cons, List.take_zero, and_true, true_and, all_map3]; try omega)
          · (simp only [go_sem, Nat.reduceAdd, Nat.reduceEqDiff, reduceIte, go_sem, and_self, and_true, true_and, implies_true, List.take_succ_cons, List.take_zero, and_true, true_and, all_map3]; try omega)
          · simp [go_sem]
          · simp
          · simpa using hL
          · simp; omega
        · rw [if_neg hc1] at hL
          have hd1 : decide (0 < cmpSS y x) = false := decide_eq_false hc1
          repeat (first | (with_reducible first | refine SW.seq ?_ | refine SW.block ?_ | refine SW.rowC ?_ | refine SW.skip ?_ | refine SW.exit ?_ | intro _ | refine And.intro (by omega) ?_) | simp (config := { maxSteps := 1000000 }) (disch := (first | omega | (simp only [go_sem]; try omega))) only [go_sem, Nat.reduceAdd, Nat.reduceEqDiff, Nat.reduceLeDiff, Nat.reduceMul, Nat.reduceLT, reduceIte, Int.reduceToNat, w64_id, cast_succ, hd1])
          refine SW.condF rfl ?_
          repeat (first | (with_reducible first | refine SW.seq ?_ | refine SW.block ?_ | refine SW.rowC ?_ | refine SW.skip ?_ | refine SW.exit ?_ | intro _ | refine And.intro (by omega) ?_) | simp (config := { maxSteps := 1000000 }) (disch := (first | omega | (simp only [go_sem]; try omega))) only [go_sem, Nat.reduceAdd, Nat.reduceEqDiff, Nat.reduceLeDiff, Nat.reduceMul, Nat.reduceLT, reduceIte, Int.reduceToNat, w64_id, cast_succ, hg, htl, htl1, htl3])
          refine SLoop.nextT 1 post.length hB (by omega) (by simp) (by simp) ?_ ?_ ⟨pre ++ [y], post, L ++ [y], ver + 1, true, by simp [hp], rfl, ?_, ?_, ?_, ?_⟩
          · (simp only [go_sem, Nat.reduceAdd, Nat.reduceEqDiff, reduceIte, go_sem, and_self, and_true, true_and, implies_true, List.take_succ_cons, List.take_zero, and_true, true_and, all_map3]; try omega)
          · (simp only [go_sem, Nat.reduceAdd, Nat.reduceEqDiff, reduceIte, go_sem, and_self, and_true, true_and, implies_true, List.take_succ_cons, List.take_zero, and_true, true_and, all_map3]; try omega)
          · simp [go_sem]
          · simp
          · simpa using hL
          · simp; omega
      · rw [if_neg hc0] at hL
        have hd0 : decide (0 ≤ cmpSS y x) = false := decide_eq_false hc0
        repeat (first | (with_reducible first | refine SW.seq ?_ | refine SW.block ?_ | refine SW.rowC ?_ | refine SW.skip ?_ | refine SW.exit ?_ | refine PFn.use (hcm) ?_ | refine PFn.useq (hcm) ?_ | intro _ | refine And.intro (by omega) ?_) | simp (config := { maxSteps := 1000000 }) (disch := (first | omega | (simp only [go_sem]; try omega))) only [go_sem, Nat.reduceAdd, Nat.reduceEqDiff, Nat.reduceLeDiff, Nat.reduceMul, Nat.reduceLT, reduceIte, Int.reduceToNat, w64_id, cast_succ, hg, hd0])
        refine SW.condF rfl ?_
        repeat (first | (with_reducible first | refine SW.seq ?_ | refine SW.block ?_ | refine SW.rowC ?_ | refine SW.skip ?_ | refine SW.exit ?_ | intro _ | refine And.intro (by omega) ?_) | simp (config := { maxSteps := 1000000 }) (disch := (first | omega | (simp only [go_sem]; try omega))) only [go_sem, Nat.reduceAdd, Nat.reduceEqDiff, Nat.reduceLeDiff, Nat.reduceMul, Nat.reduceLT, reduceIte, Int.reduceToNat, w64_id, cast_succ, hg, htl, htl1, htl3])
        refine SLoop.nextT 1 post.length hB (by omega) (by simp) (by simp) ?_ ?_ ⟨pre ++ [y], post, L ++ [y], ver + 1, false, by simp [hp], rfl, ?_, ?_, ?_, ?_⟩
        · (simp only [go_sem, Nat.reduceAdd, Nat.reduceEqDiff, reduceIte, go_sem, and_self, and_true, true_and, implies_true, List.take_succ_cons, List.take_zero, and_true, true_and, all_map3]; try omega)
        · (simp only [go_sem, Nat.reduceAdd, Nat.reduceEqDiff, reduceIte, go_sem, and_self, and_true, true_and, implies_true, List.take_succ_cons, List.take_zero, and_true, true_and, all_map3]; try omega)
        · simp [go_sem]
        · simp
        · simpa using hL
        · simp; omega
    · obtain ⟨rfl, rfl⟩ := nilOf hp (by omega)
      repeat (first | (with_reducible first | refine SW.seq ?_ | refine SW.block ?_ | refine SW.rowC ?_ | refine SW.skip ?_ | refine SW.exit ?_ | intro _ | refine And.intro (by omega) ?_) | simp (config := { maxSteps := 1000000 }) (disch := (first | omega | (simp only [go_sem]; try omega))) only [go_sem, Nat.reduceAdd, Nat.reduceEqDiff, Nat.reduceLeDiff, Nat.reduceMul, Nat.reduceLT, reduceIte, Int.reduceToNat, w64_id, cast_succ, htl])
      refine SW.condT rfl ?_
      repeat (first | (with_reducible first | refine SW.seq ?_ | refine SW.block ?_ | refine SW.rowC ?_ | refine SW.skip ?_ | refine SW.exit ?_ | intro _ | refine And.intro (by omega) ?_) | simp (config := { maxSteps := 1000000 }) (disch := (first | omega | (simp only [go_sem]; try omega))) only [go_sem, Nat.reduceAdd, Nat.reduceEqDiff, Nat.reduceLeDiff, Nat.reduceMul, Nat.reduceLT, reduceIte, Int.reduceToNat, w64_id, cast_succ, htl])
      refine SW.ret ?_; (try simp only [go_sem]); (first | refine FunPost.one ?_ | refine FunPost.two ?_ | refine FunPost.three ?_); (try simp (config := { maxSteps := 1000000 }) (disch := (first | omega | (simp only [go_sem]; try omega))) only [go_sem, Nat.reduceAdd, Nat.reduceEqDiff, Nat.reduceLeDiff, Nat.reduceMul, Nat.reduceLT, reduceIte, Int.reduceToNat, w64_id, cast_succ])
      refine GR.froz (r' := il3 (insU cmpSS x pre)) ?_ ⟨rfl, rfl⟩
      rw [← hL]
      have e := froz_row3 (H := H ++ [⟨ver + 1, 25, 1, (L ++ [x]).map ilSS⟩, ⟨0, 25, 1, [ilSS x]⟩]) (b := H.length) (r := H.length) (ver := ver + 1) (ty := 25) (xs := L ++ [x]) (Nat.le_refl _) (by simp)
      rw [List.length_append] at e
      exact e
  · simp only [if_true] at hL hLl
    simp (config := { maxSteps := 1000000 }) (disch := (first | omega | (simp only [go_sem]; try omega))) only [go_sem, Nat.reduceAdd, Nat.reduceEqDiff, Nat.reduceLeDiff, Nat.reduceMul, Nat.reduceLT, reduceIte, Int.reduceToNat, w64_id, cast_succ]
    repeat (first | (with_reducible first | refine SW.seq ?_ | refine SW.block ?_ | refine SW.rowC ?_ | refine SW.skip ?_ | refine SW.exit ?_ | intro _ | refine And.intro (by omega) ?_) | simp (config := { maxSteps := 1000000 }) (disch := (first | omega | (simp only [go_sem]; try omega))) only [go_sem, Nat.reduceAdd, Nat.reduceEqDiff, Nat.reduceLeDiff, Nat.reduceMul, Nat.reduceLT, reduceIte, Int.reduceToNat, w64_id, cast_succ])
    (first | refine SW.condD rfl (fun h => ?_) (fun h => ?_) | refine SW.condN rfl (fun h => ?_) (fun h => ?_) | refine SW.condNB rfl (fun h => ?_) (fun h => ?_) | refine SW.condB rfl (fun h => ?_) (fun h => ?_))
    · obtain ⟨y, post, rfl, hg, -⟩ := consOf (d := []) hp (by omega)
      have hcm := l27Compare_fn y x (hlen y (by rw [hp]; simp))
      repeat (first | (with_reducible first | refine SW.seq ?_ | refine SW.block ?_ | refine SW.rowC ?_ | refine SW.skip ?_ | refine SW.exit ?_ | refine PFn.use (hcm) ?_ | refine PFn.useq (hcm) ?_ | intro _ | refine And.intro (by omega) ?_) | simp (config := { maxSteps := 1000000 }) (disch := (first | omega | (simp only [go_sem]; try omega))) only [go_sem, Nat.reduceAdd, Nat.reduceEqDiff, Nat.reduceLeDiff, Nat.reduceMul, Nat.reduceLT, reduceIte, Int.reduceToNat, w64_id, cast_succ, hg])
      refine SW.condF rfl ?_
      repeat (first | (with_reducible first | refine SW.seq ?_ | refine SW.block ?_ | refine SW.rowC ?_ | refine SW.skip ?_ | refine SW.exit ?_ | intro _ | refine And.intro (by omega) ?_) | simp (config := { maxSteps := 1000000 }) (disch := (first | omega | (simp only [go_sem]; try omega))) only [go_sem, Nat.reduceAdd, Nat.reduceEqDiff, Nat.reduceLeDiff, Nat.reduceMul, Nat.reduceLT, reduceIte, Int.reduceToNat, w64_id, cast_succ, hg, htl, htl1, htl3])
      refine SLoop.nextT 1 post.length hB (by omega) (by simp) (by simp) ?_ ?_ ⟨pre ++ [y], post, L ++ [y], ver + 1, true, by simp [hp], rfl, ?_, ?_, ?_, ?_⟩
      · (simp only [go_sem, Nat.reduceAdd, Nat.reduceEqDiff, reduceIte, go_sem, and_self, and_true, true_and, implies_true, List.take_succ_cons, List.take_zero, and_true, true_and, all_map3]; try omega)
      · (simp only [go_sem, Nat.reduceAdd, Nat.reduceEqDiff, reduceIte, go_sem, and_self, and_true, true_and, implies_true, List.take_succ_cons, List.take_zero, and_true, true_and, all_map3]; try omega)
      · simp [go_sem]
      · simp
      · simpa using hL
      · simp; omega
    · obtain ⟨rfl, rfl⟩ := nilOf hp (by omega)
      repeat (first | (with_reducible first | refine SW.seq ?_ | refine SW.block ?_ | refine SW.rowC ?_ | refine SW.skip ?_ | refine SW.exit ?_ | intro _ | refine And.intro (by omega) ?_) | simp (config := { maxSteps := 1000000 }) (disch := (first | omega | (simp only [go_sem]; try omega))) only [go_sem, Nat.reduceAdd, Nat.reduceEqDiff, Nat.reduceLeDiff, Nat.reduceMul, Nat.reduceLT, reduceIte, Int.reduceToNat, w64_id, cast_succ, htl])
      refine SW.condF rfl ?_
      repeat (first | (with_reducible first | refine SW.seq ?_ | refine SW.block ?_ | refine SW.rowC ?_ | refine SW.skip ?_ | refine SW.exit ?_ | intro _ | refine And.intro (by omega) ?_) | simp (config := { maxSteps := 1000000 }) (disch := (first | omega | (simp only [go_sem]; try omega))) only [go_sem, Nat.reduceAdd, Nat.reduceEqDiff, Nat.reduceLeDiff, Nat.reduceMul, Nat.reduceLT, reduceIte, Int.reduceToNat, w64_id, cast_succ, htl])
      refine SW.ret ?_; (try simp only [go_sem]); (first | refine FunPost.one ?_ | refine FunPost.two ?_ | refine FunPost.three ?_); (try simp (config := { maxSteps := 1000000 }) (disch := (first | omega | (simp only [go_sem]; try omega))) only [go_sem, Nat.reduceAdd, Nat.reduceEqDiff, Nat.reduceLeDiff, Nat.reduceMul, Nat.reduceLT, reduceIte, Int.reduceToNat, w64_id, cast_succ])
      refine GR.froz (r' := il3 (insU cmpSS x pre)) ?_ ⟨rfl, rfl⟩
      rw [← hL, List.append_nil]
      exact froz_row3 (ver := ver) (ty := 25) (Nat.le_refl _) (by simp)
theorem more_ins {v k j : Nat} {y : List (List Int)} (h : packOk v k j y) (set : List Int) : insU cmpL set y = more y set := by
  unfold more
  rw [sortU_snoc]
  have e : sortU cmpL y = y := asc_uniq cmpL_tot (sortU_asc cmpL_tot _) h.2.1 (fun z => sortU_mem cmpL_tot _ _)
  rw [e]
end Go.Proofs.YtmdeibdplpodpaaGreat
