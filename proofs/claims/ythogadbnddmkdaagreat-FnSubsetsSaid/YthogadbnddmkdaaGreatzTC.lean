/- Groups that are seldom not valid; groups of orbits. -/
import Derived.Test.YthogadbnddmkdaaGreatProg
import Derived.KernelRfl
import Derived.Test.YthogadbnddmkdaaGreatzTB
import Derived.Test.YthogadbnddmkdaaGreatzK53
import Derived.Test.YthogadbnddmkdaaGreatzSJ
import Derived.Test.YthogadbnddmkdaaGreatzK50
import Derived.Test.YthogadbnddmkdaaGreatzSE
set_option linter.unusedSimpArgs false
set_option linter.unusedVariables false
set_option maxHeartbeats 4000000
set_option maxRecDepth 100000
namespace Go.Proofs.YthogadbnddmkdaaGreat
open Go.Av
abbrev f_spec_l05Bent : Nat := 107
def c_spec_l05Bent : SC :=
 .seq (.reg [
     ⟨(some 2), .alloc 44 [(.int .i64 0), (.slice none 0 0)], none⟩] [0, 2])
 (.seq (.reg [
     ⟨(some 4), .mv (.tmp 0), none⟩,
     ⟨(some 5), .call 108 [(.tmp 4)], none⟩,
     ⟨(some 3), .alloc 44 [(.int .i64 0), (.slice none 0 0)], none⟩,
     ⟨none, .store 2 (.tmp 3) (.tmp 5), none⟩] [0, 2, 3])
 (.seq (.seq (.reg [
     ⟨(some 6), .mv (.tmp 0), none⟩,
     ⟨(some 7), .call 73 [(.tmp 6), (.const (.int .i64 20))], none⟩] [0, 2, 3, 7])
 (.block 0 (.seq (.reg [
      ⟨(some 9), .bin .eql (.tmp 7) (.const (.int .i64 0)), none⟩,
      ⟨(some 8), .mv (.tmp 9), none⟩] [0, 2, 3, 7, 8])
  (.cond (.tmp 8)
   (.reg [
       ⟨(some 10), .mv (.tmp 0), none⟩,
       ⟨(some 11), .bslice 2 1 3 [(.int .i64 0), (.int .i64 0), (.int .i64 0)] [(0, (.const (.int .i64 0))), (1, (.const (.int .i64 1))), (2, (.const (.int .i64 33)))], none⟩,
       ⟨(some 12), .call 76 [(.tmp 10), (.tmp 11)], none⟩,
       ⟨(some 13), .faddr 0 (.tmp 3), none⟩,
       ⟨none, .store 1 (.tmp 13) (.tmp 12), none⟩] [2, 3])
   (.seq (.reg [
       ⟨(some 15), .bin .eql (.tmp 7) (.const (.int .i64 1)), none⟩,
       ⟨(some 14), .mv (.tmp 15), none⟩] [2, 3, 7, 14])
   (.cond (.tmp 14)
    (.reg [
        ⟨(some 16), .faddr 1 (.tmp 3), none⟩,
        ⟨(some 17), .load 1 false (.tmp 16), none⟩,
        ⟨(some 18), .slc 1 (.tmp 17) (some (.const (.int .i64 1))) none, none⟩,
        ⟨(some 19), .faddr 1 (.tmp 3), none⟩,
        ⟨none, .store 1 (.tmp 19) (.tmp 18), none⟩] [2, 3])
    (.seq (.reg [
        ⟨(some 21), .bin .eql (.tmp 7) (.const (.int .i64 2)), none⟩,
        ⟨(some 20), .mv (.tmp 21), none⟩] [2, 3, 7, 20])
    (.cond (.tmp 20)
     (.reg [
         ⟨(some 22), .faddr 1 (.tmp 3), none⟩,
         ⟨(some 23), .load 1 false (.tmp 22), none⟩,
         ⟨(some 24), .faddr 1 (.tmp 3), none⟩,
         ⟨(some 25), .load 1 false (.tmp 24), none⟩,
         ⟨(some 26), .iaddr 1 (.tmp 25) (.const (.int .i64 0)), none⟩,
         ⟨(some 27), .load 1 false (.tmp 26), none⟩,
         ⟨(some 28), .bslice 50 1 1 [(.slice none 0 0)] [(0, (.tmp 27))], none⟩,
         ⟨(some 29), .app 50 1 24 (.tmp 23) (.tmp 28), none⟩,
         ⟨(some 30), .faddr 1 (.tmp 3), none⟩,
         ⟨none, .store 1 (.tmp 30) (.tmp 29), none⟩] [2, 3])
     (.seq (.reg [
         ⟨(some 32), .bin .eql (.tmp 7) (.const (.int .i64 3)), none⟩,
         ⟨(some 31), .mv (.tmp 32), none⟩] [2, 3, 31])
     (.cond (.tmp 31)
      (.seq (.reg [
          ⟨(some 33), .faddr 1 (.tmp 3), none⟩,
          ⟨(some 34), .load 1 false (.tmp 33), none⟩,
          ⟨(some 35), .len (.tmp 34), none⟩,
          ⟨(some 36), .bin .gtr (.tmp 35) (.const (.int .i64 2)), none⟩] [2, 3, 36])
      (.cond (.tmp 36)
       (.reg [
           ⟨(some 37), .bslice 50 1 0 [] [], none⟩,
           ⟨(some 38), .faddr 1 (.tmp 3), none⟩,
           ⟨(some 39), .load 1 false (.tmp 38), none⟩,
           ⟨(some 40), .faddr 1 (.tmp 3), none⟩,
           ⟨(some 41), .load 1 false (.tmp 40), none⟩,
           ⟨(some 42), .len (.tmp 41), none⟩,
           ⟨(some 43), .bin .sub (.tmp 42) (.const (.int .i64 1)), none⟩,
           ⟨(some 44), .slc 1 (.tmp 39) none (some (.tmp 43)), none⟩,
           ⟨(some 45), .app 50 1 24 (.tmp 37) (.tmp 44), none⟩,
           ⟨(some 46), .faddr 1 (.tmp 3), none⟩,
           ⟨none, .store 1 (.tmp 46) (.tmp 45), none⟩] [2, 3])
       (.skip)))
      (.skip)))))))))))
 (.seq (.reg [
     ⟨(some 47), .load 2 true (.tmp 3), none⟩,
     ⟨none, .store 2 (.tmp 2) (.tmp 47), none⟩] [2])
 (.ret))))
theorem s_spec_l05Bent : stripF Tryz.prog 107 [[0, 2], [0, 2, 3], [0, 2, 3, 7], [0, 2, 3, 7, 8], [2, 3], [2, 3, 7, 14], [2, 3], [2, 3, 7, 20], [2, 3], [2, 3, 31], [2, 3, 36], [2, 3], [2]] = some (c_spec_l05Bent, [.cell 2 2], 48) := by kernel_rfl
theorem froz_off {H : List Blk} {b r ver ty off len : Nat} {xs ys : List (List Int)} (hb : b ≤ r) (hr : H[r]? = some ⟨ver, ty, 1, xs.map ilS⟩) (he : (xs.drop off).take len = ys) (hl : ys.length = len) : Froz H b (.nm r ver off len) (ilSS ys) := by
  subst hl
  have e2 : ((xs.map ilS).drop off).take (ys.length * 1) = ys.map ilS := by rw [Nat.mul_one, ← List.map_drop, ← List.map_take, he]
  refine .nm r ver off ys.length _ (ys.map ilS) hb hr rfl (by rw [e2]) ?_
  intro j c c' h1 h2
  simp only at h1
  rw [e2] at h1
  rw [h1] at h2; cases h2
  obtain ⟨x, _, rfl⟩ := List.mem_map.1 (List.mem_of_getElem? h1)
  exact .old _ (by rw [Bel_ilS]; trivial)
theorem slcN1 {H : List Blk} {K : AV → Prop} {r v l n : Nat} {z y : Int} {cells : List AV} (hs : (H[r]?).map Blk.sz = some 1) (h0 : 0 < z) (h1 : z < y) (h2 : y ≤ n) : SlcG 1 (.nm r v 0 l) z y H K (some (n, cells)) = K (.nm r v z.toNat (y.toNat - z.toNat)) := by
  simp only [SlcG]
  rw [if_neg (by omega), if_neg (by omega), Nat.zero_add, Nat.mul_one]
  exact propext ⟨fun h => h.2.2.2.2, fun h => ⟨by omega, by omega, h2, fun i ver off len he => by cases he; exact hs, h⟩⟩
theorem slcNE {H : List Blk} {K : AV → Prop} {r v l n : Nat} {z : Int} {cells : List AV} (hs : (H[r]?).map Blk.sz = some 1) (h0 : 0 < z) (h2 : z ≤ n) : SlcG 1 (.nm r v 0 l) z z H K (some (n, cells)) = K (ilSS []) := by
  simp only [SlcG]
  rw [if_neg (by omega), if_true]
  exact propext ⟨fun h => h.2.2.2.2, fun h => ⟨by omega, by omega, h2, fun i ver off len he => by cases he; exact hs, h⟩⟩
theorem slcN0 {H : List Blk} {K : AV → Prop} {r v l n : Nat} {y : Int} {cells : List AV} (hs : (H[r]?).map Blk.sz = some 1) (h0 : 0 ≤ y) (h1 : y ≤ n) : SlcG 1 (.nm r v 0 l) 0 y H K (some (n, cells)) = K (.nm r v 0 y.toNat) := by
  simp only [SlcG, if_true]
  exact propext ⟨fun h => h.2.2.2.2, fun h => ⟨by omega, h0, h1, fun i ver off len he => by cases he; exact hs, h⟩⟩
theorem view_nmT {H : List Blk} {r ver ty l : Nat} {cells : List AV} (h : H[r]? = some ⟨ver, ty, 1, cells⟩) : aview H (.nm r ver 0 l) = some (l, cells.take l) := by
  simp only [aview, h, if_true, List.drop_zero, Nat.mul_one]
theorem l05Bent_ok (H : List Blk) (p : Nat) (code : AV) (ns : List Int) (t : Nat) (u : Int) (hp : H[p]? = some (srcB code t u)) (hc : CodeOk code ns) (hcb : ∀ k, Bel k code) (ht : t ≤ 700000000) :
    ACalls Tryz.prog f_spec_l05Bent [.pc p 0 0] H (fun r H' => ∃ (n : Int) (els : List (List Int)) (u' : Int) (t' : Nat), r = .agg [I n, ilSS els] ∧ 0 ≤ n ∧ n ≤ 33 ∧ els.length ≤ 721 ∧ (∀ x ∈ els, x.length ≤ 64) ∧ t' ≤ t + 300 ∧ H' = H.set p (srcB code t' u')) := by
  have hlt := (List.getElem?_eq_some_iff.1 hp).1
  refine ACalls.introB s_spec_l05Bent (by simp) ?_; intro hB hA; unfold c_spec_l05Bent; simp (config := { maxSteps := 1000000 }) (disch := (first | omega | (simp only [go_sem]; try omega))) only [go_sem, Nat.reduceAdd, Nat.reduceEqDiff, Nat.reduceLeDiff, Nat.reduceMul, Nat.reduceLT, reduceIte, Int.reduceToNat, w64_id, cast_succ]
  have hBG := fun t u => HB_set hB (p := p) hcb t u
  have hset : ∀ t u (ext : List Blk), (H ++ ext).set p (srcB code t u) = H.set p (srcB code t u) ++ ext := fun t u ext => List.set_append_left _ _ hlt
  repeat (first | (with_reducible first | refine SW.seq ?_ | refine SW.block ?_ | refine SW.rowC ?_ | refine SW.skip ?_ | refine SW.exit ?_ | intro _ | refine And.intro (by omega) ?_) | simp (config := { maxSteps := 1000000 }) (disch := (first | omega | (simp only [go_sem]; try omega))) only [go_sem, Nat.reduceAdd, Nat.reduceEqDiff, Nat.reduceLeDiff, Nat.reduceMul, Nat.reduceLT, reduceIte, Int.reduceToNat, w64_id, cast_succ])
  refine (l05Draw_ok (H ++ [(⟨0, tyG, 1, [I 0, nilS]⟩ : Blk)]) p code ns t u (by rw [List.getElem?_append_left hlt]; exact hp) hc hcb ht).mono ?_
  rintro r H1 ⟨n, els, u1, t1, i, ver, ext, rfl, n1, n32, e1, e2, e3, ht1, rfl, hi, hib⟩
  rw [hset, List.append_assoc] at hib ⊢
  have hi' : H.length + 1 ≤ i := by simpa using hi
  have hlen : ∀ t u, (H.set p (srcB code t u)).length = H.length := fun t u => List.length_set
  have hib2 : ([(⟨0, tyG, 1, [I 0, nilS]⟩ : Blk)] ++ ext)[i - H.length]? = some ⟨ver, tyLL, 1, els.map ilS⟩ := by
    rw [List.getElem?_append_right (by rw [hlen]; omega), hlen] at hib; exact hib
  obtain ⟨X, hX⟩ : ∃ X : Nat → Int → List Blk, X = fun t u => H.set p (srcB code t u) ++ ([(⟨0, tyG, 1, [I 0, nilS]⟩ : Blk)] ++ ext) := ⟨_, rfl⟩
  have hX1 : ∀ t u, H.set p (srcB code t u) ++ ([(⟨0, tyG, 1, [I 0, nilS]⟩ : Blk)] ++ ext) = X t u := fun t u => by rw [hX]
  have hXp : ∀ t u e, (X t u ++ e)[p]? = some (srcB code t u) := fun t u e => by
    rw [← hX1, List.append_assoc, List.getElem?_append_left (by rw [hlen]; exact hlt)]; exact List.getElem?_set_self hlt
  have hXset : ∀ t u t' u' e, (X t u ++ e).set p (srcB code t' u') = X t' u' ++ e := fun t u t' u' e => by
    rw [← hX1, ← hX1, List.append_assoc, List.set_append_left _ _ (by rw [hlen]; exact hlt), List.set_set]; simp only [List.append_assoc]
  have hXi : ∀ t u e, (X t u ++ e)[i]? = some ⟨ver, tyLL, 1, els.map ilS⟩ := fun t u e => by
    refine getAppB ?_ e
    rw [← hX1, List.getElem?_append_right (by rw [hlen]; omega), hlen]; exact hib2
  have hX0 : ∀ t u e, (X t u ++ e)[H.length]? = some ⟨0, tyG, 1, [I 0, nilS]⟩ := fun t u e => by
    refine getAppB ?_ e
    rw [← hX1, List.getElem?_append_right (by rw [hlen]; omega), hlen, Nat.sub_self]; rfl
  have hXl : ∀ t u, (X t u).length = H.length + 1 + ext.length := fun t u => by rw [← hX1]; simp; omega
  rw [hX1]
  generalize hL : H.length + 1 + ext.length = L0 at *
  have hg : ∀ t u (a b : AV) e, (X t u ++ ((⟨0, tyG, 1, [a, b]⟩ : Blk) :: e))[L0]? = some ⟨0, tyG, 1, [a, b]⟩ := fun t u a b e => by
    rw [List.getElem?_append_right (by rw [hXl]; omega), hXl, Nat.sub_self]; rfl
  have hgs : ∀ t u (a b : AV) c e, (X t u ++ ((⟨0, tyG, 1, [a, b]⟩ : Blk) :: e)).set L0 c = X t u ++ (c :: e) := fun t u a b c e => by
    rw [List.set_append_right _ _ (by rw [hXl]; omega), hXl, Nat.sub_self]; rfl
  have s2 : ∀ t u (a b x y : AV) e, astore (X t u ++ ((⟨0, tyG, 1, [a, b]⟩ : Blk) :: e)) [x, y] (.pc L0 0 0) = some (X t u ++ ((⟨0, tyG, 1, [x, y]⟩ : Blk) :: e)) := fun t u a b x y e => by
    rw [pc_st (hg t u a b e) (by simp), hgs]; rfl
  have s0 : ∀ t u (a b x : AV) e, astore (X t u ++ ((⟨0, tyG, 1, [a, b]⟩ : Blk) :: e)) [x] (.pc L0 0 0) = some (X t u ++ ((⟨0, tyG, 1, [x, b]⟩ : Blk) :: e)) := fun t u a b x e => by
    rw [pc_st (hg t u a b e) (by simp), hgs]; rfl
  have s1 : ∀ t u (a b y : AV) e, astore (X t u ++ ((⟨0, tyG, 1, [a, b]⟩ : Blk) :: e)) [y] (.pc L0 0 1) = some (X t u ++ ((⟨0, tyG, 1, [a, y]⟩ : Blk) :: e)) := fun t u a b y e => by
    rw [pc_st (hg t u a b e) (by simp), hgs]; rfl
  have hvi : ∀ t u e, aview (X t u ++ e) (.nm i ver 0 els.length) = some (els.length, els.map ilS) := fun t u e => view_nm (hXi t u e) (by simp)
  have g1 := fun t u a b e o => pc_ld (off := o) (hg t u a b e)
  have g2 := fun t u a b e => pc_lds (off := 0) (n := 2) (hg t u a b e) (by simp)
  have g3 := fun t u a b e o => pc_alive (off := o) (hg t u a b e)
  repeat (first | (with_reducible first | refine SW.seq ?_ | refine SW.block ?_ | refine SW.rowC ?_ | refine SW.skip ?_ | refine SW.exit ?_ | intro _ | refine And.intro (by omega) ?_) | simp (config := { maxSteps := 1000000 }) (disch := (first | omega | (simp only [go_sem]; try omega))) only [go_sem, Nat.reduceAdd, Nat.reduceEqDiff, Nat.reduceLeDiff, Nat.reduceMul, Nat.reduceLT, reduceIte, Int.reduceToNat, w64_id, cast_succ, hXl, s2, s0, s1, g1, g2, g3, hvi])
  obtain ⟨Y, hY⟩ : ∃ Y : Nat → Int → AV → AV → List Blk, Y = fun t u a b => H.set p (srcB code t u) ++ ([(⟨0, tyG, 1, [a, b]⟩ : Blk)] ++ ext) := ⟨_, rfl⟩
  have hY1 : ∀ t u a b, Y t u a b = H.set p (srcB code t u) ++ ([(⟨0, tyG, 1, [a, b]⟩ : Blk)] ++ ext) := fun t u a b => by rw [hY]
  have y2 : ∀ t u (a b : AV) e, astore (X t u ++ e) [a, b] (.pc H.length 0 0) = some (Y t u a b ++ e) := fun t u a b e => by
    rw [pc_st (hX0 t u e) (by simp), ← hX1, hY1, List.append_assoc, List.set_append_right _ _ (by rw [hlen]; omega), hlen, Nat.sub_self]
    simp [setMany]
  have y3 : ∀ t u (a b : AV) e, acells (Y t u a b ++ e) 2 (.pc H.length 0 0) = some [a, b] := fun t u a b e => by
    refine pc_lds (H := Y t u a b ++ e) (p := H.length) (ver := 0) (ty := tyG) (sz := 1) (cells := [a, b]) ?_ (by simp)
    refine getAppB ?_ e
    rw [hY1, List.getElem?_append_right (by rw [hlen]; omega), hlen, Nat.sub_self]; rfl
  have hYi : ∀ t u a b e, (Y t u a b ++ e)[i]? = some ⟨ver, tyLL, 1, els.map ilS⟩ := fun t u a b e => by
    refine getAppB ?_ e
    rw [hY1, List.getElem?_append_right (by rw [hlen]; omega), hlen]
    rw [List.getElem?_append_right (by simp; omega)] at hib2 ⊢
    exact hib2
  have fin : ∀ (t' : Nat) (u' : Int) (k : Int) (w : AV) (els' : List (List Int)) (e : List Blk), Froz (Y t' u' (I k) w ++ e) H.length w (ilSS els') → 0 ≤ k → k ≤ 33 → els'.length ≤ 721 → (∀ x ∈ els', x.length ≤ 64) → t' ≤ t + 300 →
      GR H (fun r H' => ∃ (n : Int) (els : List (List Int)) (u' : Int) (t' : Nat), r = .agg [I n, ilSS els] ∧ 0 ≤ n ∧ n ≤ 33 ∧ els.length ≤ 721 ∧ (∀ x ∈ els, x.length ≤ 64) ∧ t' ≤ t + 300 ∧ H' = H.set p (srcB code t' u')) (.agg [I k, w]) (Y t' u' (I k) w ++ e) := by
    intro t' u' k w els' e hf k0 k1 q1 q2 q3
    rw [hY1, List.append_assoc] at hf ⊢
    exact GR.frozH (H0 := H) (H1 := H.set p (srcB code t' u')) (r' := .agg [I k, ilSS els']) (hlen _ _) (hBG _ _) (froz_agg2 (froz_I' _) hf) ⟨k, els', u', t', rfl, k0, k1, q1, q2, q3, rfl⟩
  have fwhole : ∀ t' u' (k : Int) e, Froz (Y t' u' (I k) (.nm i ver 0 els.length) ++ e) H.length (.nm i ver 0 els.length) (ilSS els) := fun t' u' k e => froz_rowS (by omega) (hYi _ _ _ _ _)
  refine (pick_ok _ p code ns t1 u1 20 (hXp _ _ _) hc (by omega)).mono ?_
  rintro r H1 ⟨x1, u2, t2, rfl, a1, b1, ht2, rfl⟩
  rw [hXset]
  have hYl : ∀ a b, (Y t2 u2 a b).length = L0 := fun a b => by rw [hY1]; simp; omega
  repeat (first | (with_reducible first | refine SW.seq ?_ | refine SW.block ?_ | refine SW.rowC ?_ | refine SW.skip ?_ | refine SW.exit ?_ | intro _ | refine And.intro (by omega) ?_) | simp (config := { maxSteps := 1000000 }) (disch := (first | omega | (simp only [go_sem]; try omega))) only [go_sem, Nat.reduceAdd, Nat.reduceEqDiff, Nat.reduceLeDiff, Nat.reduceMul, Nat.reduceLT, reduceIte, Int.reduceToNat, w64_id, cast_succ, hXl, s2, s0, s1, g1, g2, g3, hvi, y2])
  (first | refine SW.condD rfl (fun h => ?_) (fun h => ?_) | refine SW.condN rfl (fun h => ?_) (fun h => ?_) | refine SW.condNB rfl (fun h => ?_) (fun h => ?_) | refine SW.condB rfl (fun h => ?_) (fun h => ?_))
  · repeat (first | (with_reducible first | refine SW.seq ?_ | refine SW.block ?_ | refine SW.rowC ?_ | refine SW.skip ?_ | refine SW.exit ?_ | intro _ | refine And.intro (by omega) ?_) | simp (config := { maxSteps := 1000000 }) (disch := (first | omega | (simp only [go_sem]; try omega))) only [go_sem, Nat.reduceAdd, Nat.reduceEqDiff, Nat.reduceLeDiff, Nat.reduceMul, Nat.reduceLT, reduceIte, Int.reduceToNat, w64_id, cast_succ, hXl, s2, s0, s1, g1, g2, g3, hvi, y2])
    have ham : ∀ t' u', aview ((X t2 u2 ++ [(⟨0, tyG, 1, [I n, .nm i ver 0 els.length]⟩ : Blk), ⟨0, 2, 1, [I 0, I 1, I 33]⟩]).set p (srcB code t' u')) (.nm (L0 + 1) 0 0 3) = some ([(0 : Int), 1, 33].length, [(0 : Int), 1, 33].map I) := fun t' u' => by
      rw [hXset]
      refine view_nm (ty := 2) ?_ rfl
      rw [List.getElem?_append_right (by rw [hXl]; omega), hXl, Nat.add_sub_cancel_left]; rfl
    refine (among_ok _ p code ns t2 u2 _ [0, 1, 33] (hXp _ _ _) hc (by omega) ham (by simp)).mono ?_
    rintro r H1 ⟨x6, u6, t6, rfl, hx6, ht6, rfl⟩
    rw [hXset]
    repeat (first | (with_reducible first | refine SW.seq ?_ | refine SW.block ?_ | refine SW.rowC ?_ | refine SW.skip ?_ | refine SW.exit ?_ | intro _ | refine And.intro (by omega) ?_) | simp (config := { maxSteps := 1000000 }) (disch := (first | omega | (simp only [go_sem]; try omega))) only [go_sem, Nat.reduceAdd, Nat.reduceEqDiff, Nat.reduceLeDiff, Nat.reduceMul, Nat.reduceLT, reduceIte, Int.reduceToNat, w64_id, cast_succ, hXl, s2, s0, s1, g1, g2, g3, hvi, y2])
    refine SW.ret ?_
    refine FunPost.cell (y3 _ _ _ _ _) ?_
    exact fin _ _ _ _ els _ (fwhole _ _ _ _) (by simp at hx6; omega) (by simp at hx6; omega) (by omega) e3 (by omega)
  · have hsz : ∀ t u e, ((X t u ++ e)[i]?).map Blk.sz = some 1 := fun t u e => by rw [hXi]; rfl
    repeat (first | (with_reducible first | refine SW.seq ?_ | refine SW.block ?_ | refine SW.rowC ?_ | refine SW.skip ?_ | refine SW.exit ?_ | intro _ | refine And.intro (by omega) ?_) | simp (config := { maxSteps := 1000000 }) (disch := (first | omega | (simp only [go_sem]; try omega))) only [go_sem, Nat.reduceAdd, Nat.reduceEqDiff, Nat.reduceLeDiff, Nat.reduceMul, Nat.reduceLT, reduceIte, Int.reduceToNat, w64_id, cast_succ, hXl, s2, s0, s1, g1, g2, g3, hvi, y2])
    (first | refine SW.condD rfl (fun h => ?_) (fun h => ?_) | refine SW.condN rfl (fun h => ?_) (fun h => ?_) | refine SW.condNB rfl (fun h => ?_) (fun h => ?_) | refine SW.condB rfl (fun h => ?_) (fun h => ?_))
    · by_cases hl1 : els.length = 1
      · have hnn : (els.length : Int) = 1 := by omega
        repeat (first | (with_reducible first | refine SW.seq ?_ | refine SW.block ?_ | refine SW.rowC ?_ | refine SW.skip ?_ | refine SW.exit ?_ | intro _ | refine And.intro (by omega) ?_) | simp (config := { maxSteps := 1000000 }) (disch := (first | omega | (simp only [go_sem]; try omega))) only [go_sem, Nat.reduceAdd, Nat.reduceEqDiff, Nat.reduceLeDiff, Nat.reduceMul, Nat.reduceLT, reduceIte, Int.reduceToNat, w64_id, cast_succ, hXl, s2, s0, s1, g1, g2, g3, hvi, y2, Option.map_some, Option.map_none, hnn, slcNE (hsz _ _ _)])
        refine SW.ret ?_
        refine FunPost.cell (y3 _ _ _ _ _) ?_
        exact fin _ _ _ _ [] _ (froz_ilSS _) (by omega) (by omega) (by simp) (by simp) (by omega)
      · repeat (first | (with_reducible first | refine SW.seq ?_ | refine SW.block ?_ | refine SW.rowC ?_ | refine SW.skip ?_ | refine SW.exit ?_ | intro _ | refine And.intro (by omega) ?_) | simp (config := { maxSteps := 1000000 }) (disch := (first | omega | (simp only [go_sem]; try omega))) only [go_sem, Nat.reduceAdd, Nat.reduceEqDiff, Nat.reduceLeDiff, Nat.reduceMul, Nat.reduceLT, reduceIte, Int.reduceToNat, w64_id, cast_succ, hXl, s2, s0, s1, g1, g2, g3, hvi, y2, Option.map_some, Option.map_none, slcN1 (hsz _ _ _)])
        refine SW.ret ?_
        refine FunPost.cell (y3 _ _ _ _ _) ?_
        exact fin _ _ _ _ (els.drop 1) _ (froz_off (by omega) (hYi _ _ _ _ _) (List.take_of_length_le (by simp)) (by simp)) (by omega) (by omega) (by simp; omega) (fun x hx => e3 x (List.mem_of_mem_drop hx)) (by omega)
    · repeat (first | (with_reducible first | refine SW.seq ?_ | refine SW.block ?_ | refine SW.rowC ?_ | refine SW.skip ?_ | refine SW.exit ?_ | intro _ | refine And.intro (by omega) ?_) | simp (config := { maxSteps := 1000000 }) (disch := (first | omega | (simp only [go_sem]; try omega))) only [go_sem, Nat.reduceAdd, Nat.reduceEqDiff, Nat.reduceLeDiff, Nat.reduceMul, Nat.reduceLT, reduceIte, Int.reduceToNat, w64_id, cast_succ, hXl, s2, s0, s1, g1, g2, g3, hvi, y2])
      (first | refine SW.condD rfl (fun h => ?_) (fun h => ?_) | refine SW.condN rfl (fun h => ?_) (fun h => ?_) | refine SW.condNB rfl (fun h => ?_) (fun h => ?_) | refine SW.condB rfl (fun h => ?_) (fun h => ?_))
      · repeat (first | (with_reducible first | refine SW.seq ?_ | refine SW.block ?_ | refine SW.rowC ?_ | refine SW.skip ?_ | refine SW.exit ?_ | intro _ | refine And.intro (by omega) ?_) | simp (config := { maxSteps := 1000000 }) (disch := (first | omega | (simp only [go_sem]; try omega))) only [go_sem, Nat.reduceAdd, Nat.reduceEqDiff, Nat.reduceLeDiff, Nat.reduceMul, Nat.reduceLT, reduceIte, Int.reduceToNat, w64_id, cast_succ, hXl, s2, s0, s1, g1, g2, g3, hvi, y2])
        have ham2 : aview (X t2 u2 ++ [(⟨0, tyG, 1, [I n, .nm i ver 0 els.length]⟩ : Blk), ⟨0, tyLL, 1, [ilS (els.getD 0 [])]⟩]) (.nm (L0 + 1) 0 0 1) = some (1, [ilS (els.getD 0 [])]) := by
          refine view_nm (ty := tyLL) ?_ rfl
          rw [List.getElem?_append_right (by rw [hXl]; omega), hXl, Nat.add_sub_cancel_left]; rfl
        have htk : (els.map ilS).take els.length = els.map ilS := List.take_of_length_le (by simp)
        repeat (first | (with_reducible first | refine SW.seq ?_ | refine SW.block ?_ | refine SW.rowC ?_ | refine SW.skip ?_ | refine SW.exit ?_ | intro _ | refine And.intro (by omega) ?_) | simp (config := { maxSteps := 1000000 }) (disch := (first | omega | (simp only [go_sem]; try omega))) only [go_sem, Nat.reduceAdd, Nat.reduceEqDiff, Nat.reduceLeDiff, Nat.reduceMul, Nat.reduceLT, reduceIte, Int.reduceToNat, w64_id, cast_succ, hXl, s2, s0, s1, g1, g2, g3, hvi, y2, ham2, hXi, htk])
        have hiX : i < (X t2 u2).length := by
          have := (List.getElem?_eq_some_iff.1 (hXi t2 u2 [])).1
          rwa [List.append_nil] at this
        have hXl2 := hXl t2 u2
        have hW : ∀ e B, (X t2 u2 ++ e).set i B = (X t2 u2).set i B ++ e := fun e B => List.set_append_left _ _ hiX
        rw [hW]
        generalize hB' : (⟨ver + 1, tyLL, 1, List.map ilS (els ++ [els.getD 0 []])⟩ : Blk) = B'
        have hWl : ((X t2 u2).set i B').length = L0 := by rw [List.length_set, hXl]
        have hwg : ∀ (a b : AV) e, ((X t2 u2).set i B' ++ ((⟨0, tyG, 1, [a, b]⟩ : Blk) :: e))[L0]? = some ⟨0, tyG, 1, [a, b]⟩ := fun a b e => by
          rw [List.getElem?_append_right (by rw [hWl]; omega), hWl, Nat.sub_self]; rfl
        have w1 : ∀ (a b y : AV) e, astore ((X t2 u2).set i B' ++ ((⟨0, tyG, 1, [a, b]⟩ : Blk) :: e)) [y] (.pc L0 0 1) = some ((X t2 u2).set i B' ++ ((⟨0, tyG, 1, [a, y]⟩ : Blk) :: e)) := fun a b y e => by
          rw [pc_st (hwg a b e) (by simp), List.set_append_right _ _ (by rw [hWl]; omega), hWl, Nat.sub_self]; rfl
        have w2 := fun a b e => pc_lds (off := 0) (n := 2) (hwg a b e) (by simp)
        have w3 := fun a b e o => pc_alive (off := o) (hwg a b e)
        have w0 : ∀ e, ((X t2 u2).set i B' ++ e)[H.length]? = some ⟨0, tyG, 1, [I 0, nilS]⟩ := fun e => by
          rw [← hW, List.getElem?_set_ne (by omega)]; exact hX0 _ _ _
        have hXY : ∀ a b, (X t2 u2).set H.length ⟨0, tyG, 1, [a, b]⟩ = Y t2 u2 a b := fun a b => by
          rw [← hX1, hY1, List.set_append_right _ _ (by rw [hlen]; omega), hlen, Nat.sub_self]; rfl
        have w4 : ∀ (a b : AV) e, astore ((X t2 u2).set i B' ++ e) [a, b] (.pc H.length 0 0) = some ((Y t2 u2 a b).set i B' ++ e) := fun a b e => by
          rw [pc_st (w0 e) (by simp), List.set_append_left _ _ (by rw [hWl]; omega), List.set_comm _ _ (by omega)]
          rw [show setMany [I 0, nilS] 0 [a, b] = [a, b] from rfl, hXY]
        have hYset : ∀ a b, (Y t2 u2 a b).set i B' = H.set p (srcB code t2 u2) ++ ([(⟨0, tyG, 1, [a, b]⟩ : Blk)] ++ ext).set (i - H.length) B' := fun a b => by
          rw [hY1, List.set_append_right _ _ (by rw [hlen]; omega), hlen]
        repeat (first | (with_reducible first | refine SW.seq ?_ | refine SW.block ?_ | refine SW.rowC ?_ | refine SW.skip ?_ | refine SW.exit ?_ | intro _ | refine And.intro (by omega) ?_) | simp (config := { maxSteps := 1000000 }) (disch := (first | omega | (simp only [go_sem]; try omega))) only [go_sem, Nat.reduceAdd, Nat.reduceEqDiff, Nat.reduceLeDiff, Nat.reduceMul, Nat.reduceLT, reduceIte, Int.reduceToNat, w64_id, cast_succ, hXl, w1, w2, w3, w4])
        refine SW.ret ?_
        refine FunPost.cell (cs := [I n, .nm i (ver + 1) 0 (els.length + 1)]) ?_ ?_
        · refine pc_lds (p := H.length) (ver := 0) (ty := tyG) (sz := 1) (off := 0) (n := 2) (cells := [I n, .nm i (ver + 1) 0 (els.length + 1)]) ?_ (by simp)
          rw [List.getElem?_append_left (by rw [List.length_set, hYl]; omega), List.getElem?_set_ne (by omega), ← hXY]
          exact List.getElem?_set_self (by rw [hXl]; omega)
        · rw [hYset, List.append_assoc]
          refine GR.frozH (H0 := H) (H1 := H.set p (srcB code t2 u2)) (r' := .agg [I n, ilSS (els ++ [els.getD 0 []])]) (hlen _ _) (hBG _ _) (froz_agg2 (froz_I' _) (froz_off (off := 0) (xs := els ++ [els.getD 0 []]) (ver := ver + 1) (ty := tyLL) (by omega) ?_ (by rw [List.drop_zero]; exact List.take_of_length_le (by simp)) (by simp))) ⟨n, els ++ [els.getD 0 []], u2, t2, rfl, by omega, by omega, by simp; omega, fun x hx => ?_, by omega, rfl⟩
          · rw [← List.append_assoc, ← hYset, List.getElem?_append_left (by rw [List.length_set, hYl]; omega), hB']
            exact List.getElem?_set_self (by rw [hYl]; omega)
          · rcases List.mem_append.1 hx with hx | hx
            · exact e3 x hx
            · rw [List.mem_singleton.1 hx]; exact e3 _ (by rw [List.getD_eq_getElem?_getD, List.getElem?_eq_getElem (by omega)]; exact List.getElem_mem _)
      · repeat (first | (with_reducible first | refine SW.seq ?_ | refine SW.block ?_ | refine SW.rowC ?_ | refine SW.skip ?_ | refine SW.exit ?_ | intro _ | refine And.intro (by omega) ?_) | simp (config := { maxSteps := 1000000 }) (disch := (first | omega | (simp only [go_sem]; try omega))) only [go_sem, Nat.reduceAdd, Nat.reduceEqDiff, Nat.reduceLeDiff, Nat.reduceMul, Nat.reduceLT, reduceIte, Int.reduceToNat, w64_id, cast_succ, hXl, s2, s0, s1, g1, g2, g3, hvi, y2])
        (first | refine SW.condD rfl (fun h => ?_) (fun h => ?_) | refine SW.condN rfl (fun h => ?_) (fun h => ?_) | refine SW.condNB rfl (fun h => ?_) (fun h => ?_) | refine SW.condB rfl (fun h => ?_) (fun h => ?_))
        · repeat (first | (with_reducible first | refine SW.seq ?_ | refine SW.block ?_ | refine SW.rowC ?_ | refine SW.skip ?_ | refine SW.exit ?_ | intro _ | refine And.intro (by omega) ?_) | simp (config := { maxSteps := 1000000 }) (disch := (first | omega | (simp only [go_sem]; try omega))) only [go_sem, Nat.reduceAdd, Nat.reduceEqDiff, Nat.reduceLeDiff, Nat.reduceMul, Nat.reduceLT, reduceIte, Int.reduceToNat, w64_id, cast_succ, hXl, s2, s0, s1, g1, g2, g3, hvi, y2])
          have hn1 : ((els.length : Int) - 1).toNat = els.length - 1 := by omega
          have hv3 : ∀ e, aview (X t2 u2 ++ e) (.nm i ver 0 (els.length - 1)) = some (els.length - 1, (els.take (els.length - 1)).map ilS) := fun e => by
            rw [view_nmT (hXi _ _ _), List.map_take]
          have h3a : ∀ (a : AV) b, (X t2 u2 ++ [(⟨0, tyG, 1, [I n, a]⟩ : Blk), b])[L0 + 1]? = some b := fun a b => by
            rw [List.getElem?_append_right (by rw [hXl]; omega), hXl, Nat.add_sub_cancel_left]; rfl
          have h3b : ∀ (a : AV) b c, (X t2 u2 ++ [(⟨0, tyG, 1, [I n, a]⟩ : Blk), b]).set (L0 + 1) c = X t2 u2 ++ [(⟨0, tyG, 1, [I n, a]⟩ : Blk), c] := fun a b c => by
            rw [List.set_append_right _ _ (by rw [hXl]; omega), hXl, Nat.add_sub_cancel_left]; rfl
          have htk0 : (els.take (els.length - 1)).length = els.length - 1 := by simp
          (first | refine SW.condD rfl (fun h => ?_) (fun h => ?_) | refine SW.condN rfl (fun h => ?_) (fun h => ?_) | refine SW.condNB rfl (fun h => ?_) (fun h => ?_) | refine SW.condB rfl (fun h => ?_) (fun h => ?_))
          · repeat (first | (with_reducible first | refine SW.seq ?_ | refine SW.block ?_ | refine SW.rowC ?_ | refine SW.skip ?_ | refine SW.exit ?_ | intro _ | refine And.intro (by omega) ?_) | simp (config := { maxSteps := 1000000 }) (disch := (first | omega | (simp only [go_sem]; try omega))) only [go_sem, Nat.reduceAdd, Nat.reduceEqDiff, Nat.reduceLeDiff, Nat.reduceMul, Nat.reduceLT, reduceIte, Int.reduceToNat, w64_id, cast_succ, hXl, s2, s0, s1, g1, g2, g3, hvi, y2, Option.map_some, Option.map_none, slcN0 (hsz _ _ _), hn1, hv3, h3a, h3b, htk0])
            refine SW.ret ?_
            refine FunPost.cell (y3 _ _ _ _ _) ?_
            refine fin _ _ _ _ (els.take (els.length - 1)) _ (froz_off (off := 0) (xs := els.take (els.length - 1)) (ver := 1) (ty := tyLL) (by omega) ?_ (by rw [List.drop_zero]; exact List.take_of_length_le (by omega)) htk0) (by omega) (by omega) (by omega) (fun x hx => e3 x (List.mem_of_mem_take hx)) (by omega)
            rw [List.getElem?_append_right (by rw [hYl]; omega), hYl, Nat.add_sub_cancel_left]; rfl
          · repeat (first | (with_reducible first | refine SW.seq ?_ | refine SW.block ?_ | refine SW.rowC ?_ | refine SW.skip ?_ | refine SW.exit ?_ | intro _ | refine And.intro (by omega) ?_) | simp (config := { maxSteps := 1000000 }) (disch := (first | omega | (simp only [go_sem]; try omega))) only [go_sem, Nat.reduceAdd, Nat.reduceEqDiff, Nat.reduceLeDiff, Nat.reduceMul, Nat.reduceLT, reduceIte, Int.reduceToNat, w64_id, cast_succ, hXl, s2, s0, s1, g1, g2, g3, hvi, y2])
            refine SW.ret ?_
            refine FunPost.cell (y3 _ _ _ _ _) ?_
            exact fin _ _ _ _ els _ (fwhole _ _ _ _) (by omega) (by omega) (by omega) e3 (by omega)
        · repeat (first | (with_reducible first | refine SW.seq ?_ | refine SW.block ?_ | refine SW.rowC ?_ | refine SW.skip ?_ | refine SW.exit ?_ | intro _ | refine And.intro (by omega) ?_) | simp (config := { maxSteps := 1000000 }) (disch := (first | omega | (simp only [go_sem]; try omega))) only [go_sem, Nat.reduceAdd, Nat.reduceEqDiff, Nat.reduceLeDiff, Nat.reduceMul, Nat.reduceLT, reduceIte, Int.reduceToNat, w64_id, cast_succ, hXl, s2, s0, s1, g1, g2, g3, hvi, y2])
          refine SW.ret ?_
          refine FunPost.cell (y3 _ _ _ _ _) ?_
          exact fin _ _ _ _ els _ (fwhole _ _ _ _) (by omega) (by omega) (by omega) e3 (by omega)
end Go.Proofs.YthogadbnddmkdaaGreat
namespace Go.Proofs.YthogadbnddmkdaaGreat
open Go.Av
abbrev f_spec_l25Draw : Nat := 58
def c_spec_l25Draw : SC :=
 .seq (.reg [
     ⟨(some 2), .alloc 44 [(.int .i64 0), (.slice none 0 0)], none⟩] [0, 2])
 (.seq (.seq (.reg [
     ⟨(some 8), .mv (.tmp 0), none⟩,
     ⟨(some 9), .call 73 [(.tmp 8), (.const (.int .i64 6))], none⟩] [0, 2, 9])
 (.block 0 (.seq (.reg [
      ⟨(some 11), .bin .eql (.tmp 9) (.const (.int .i64 0)), none⟩,
      ⟨(some 10), .mv (.tmp 11), none⟩] [0, 2, 9, 10])
  (.cond (.tmp 10)
   (.seq (.reg [
       ⟨(some 12), .mv (.tmp 0), none⟩,
       ⟨(some 13), .call 73 [(.tmp 12), (.const (.int .i64 11))], none⟩,
       ⟨(some 14), .bin .add (.tmp 13) (.const (.int .i64 1)), none⟩,
       ⟨(some 15), .bslice 2 1 1 [(.int .i64 0)] [(0, (.const (.int .i64 1)))], none⟩,
       ⟨(some 16), .call 105 [(.tmp 14), (.tmp 15)], none⟩,
       ⟨none, .store 2 (.tmp 2) (.tmp 16), none⟩] [2])
   (.ret))
   (.seq (.reg [
       ⟨(some 18), .bin .eql (.tmp 9) (.const (.int .i64 1)), none⟩,
       ⟨(some 17), .mv (.tmp 18), none⟩] [0, 2, 9, 17])
   (.cond (.tmp 17)
    (.seq (.reg [
        ⟨(some 20), .mv (.tmp 0), none⟩,
        ⟨(some 21), .bslice 2 1 4 [(.int .i64 0), (.int .i64 0), (.int .i64 0), (.int .i64 0)] [(0, (.const (.int .i64 1))), (1, (.const (.int .i64 2))), (2, (.const (.int .i64 3))), (3, (.const (.int .i64 6)))], none⟩,
        ⟨(some 22), .call 76 [(.tmp 20), (.tmp 21)], none⟩,
        ⟨(some 23), .call 106 [(.const (.int .i64 7)), (.tmp 22)], none⟩,
        ⟨(some 19), .mv (.tmp 23), none⟩,
        ⟨(some 24), .ext (.tmp 19) 0, none⟩,
        ⟨(some 25), .ext (.tmp 19) 1, none⟩,
        ⟨(some 3), .alloc 44 [(.int .i64 0), (.slice none 0 0)], none⟩,
        ⟨none, .store 2 (.tmp 3) (.tmp 24), none⟩,
        ⟨(some 4), .mv (.tmp 25), none⟩] [2, 3])
    (.seq (.reg [
        ⟨(some 26), .load 2 true (.tmp 3), none⟩,
        ⟨none, .store 2 (.tmp 2) (.tmp 26), none⟩] [2])
    (.ret)))
    (.seq (.reg [
        ⟨(some 28), .bin .eql (.tmp 9) (.const (.int .i64 2)), none⟩,
        ⟨(some 27), .mv (.tmp 28), none⟩] [0, 2, 9, 27])
    (.cond (.tmp 27)
     (.seq (.reg [
         ⟨(some 29), .mv (.tmp 0), none⟩,
         ⟨(some 30), .bslice 2 1 3 [(.int .i64 0), (.int .i64 0), (.int .i64 0)] [(0, (.const (.int .i64 5))), (1, (.const (.int .i64 11))), (2, (.const (.int .i64 13)))], none⟩,
         ⟨(some 31), .call 76 [(.tmp 29), (.tmp 30)], none⟩,
         ⟨(some 5), .mv (.tmp 31), none⟩] [0, 2, 5])
     (.seq (.reg [
         ⟨(some 33), .mv (.tmp 5), none⟩,
         ⟨(some 34), .mv (.tmp 0), none⟩,
         ⟨(some 35), .bslice 2 1 3 [(.int .i64 0), (.int .i64 0), (.int .i64 0)] [(0, (.const (.int .i64 1))), (1, (.const (.int .i64 2))), (2, (.const (.int .i64 4)))], none⟩,
         ⟨(some 36), .call 76 [(.tmp 34), (.tmp 35)], none⟩,
         ⟨(some 37), .call 106 [(.tmp 33), (.tmp 36)], none⟩,
         ⟨(some 32), .mv (.tmp 37), none⟩,
         ⟨(some 38), .ext (.tmp 32) 0, none⟩,
         ⟨(some 39), .ext (.tmp 32) 1, none⟩,
         ⟨(some 6), .alloc 44 [(.int .i64 0), (.slice none 0 0)], none⟩,
         ⟨none, .store 2 (.tmp 6) (.tmp 38), none⟩,
         ⟨(some 7), .mv (.tmp 39), none⟩] [2, 5, 6])
     (.seq (.seq (.reg [
         ⟨(some 40), .faddr 0 (.tmp 6), none⟩,
         ⟨(some 41), .load 1 false (.tmp 40), none⟩,
         ⟨(some 42), .bin .eql (.tmp 41) (.const (.int .i64 0)), none⟩] [2, 5, 6, 42])
     (.cond (.tmp 42)
      (.seq (.reg [
          ⟨(some 43), .mv (.tmp 5), none⟩,
          ⟨(some 44), .bslice 2 1 1 [(.int .i64 0)] [(0, (.const (.int .i64 1)))], none⟩,
          ⟨(some 45), .call 105 [(.tmp 43), (.tmp 44)], none⟩,
          ⟨none, .store 2 (.tmp 2) (.tmp 45), none⟩] [2])
      (.ret))
      (.skip)))
     (.seq (.reg [
         ⟨(some 46), .load 2 true (.tmp 6), none⟩,
         ⟨none, .store 2 (.tmp 2) (.tmp 46), none⟩] [2])
     (.ret)))))
     (.seq (.reg [
         ⟨(some 48), .bin .eql (.tmp 9) (.const (.int .i64 3)), none⟩,
         ⟨(some 47), .mv (.tmp 48), none⟩] [0, 2, 47])
     (.cond (.tmp 47)
      (.seq (.reg [
          ⟨(some 49), .mv (.tmp 0), none⟩,
          ⟨(some 50), .call 107 [(.tmp 49)], none⟩,
          ⟨none, .store 2 (.tmp 2) (.tmp 50), none⟩] [2])
      (.ret))
      (.skip)))))))))))
 (.seq (.reg [
     ⟨(some 51), .mv (.tmp 0), none⟩,
     ⟨(some 52), .call 108 [(.tmp 51)], none⟩,
     ⟨none, .store 2 (.tmp 2) (.tmp 52), none⟩] [2])
 (.ret)))
theorem s_spec_l25Draw : stripF Tryz.prog 58 [[0, 2], [0, 2, 9], [0, 2, 9, 10], [2], [0, 2, 9, 17], [2, 3], [2], [0, 2, 9, 27], [0, 2, 5], [2, 5, 6], [2, 5, 6, 42], [2], [2], [0, 2, 47], [2], [2]] = some (c_spec_l25Draw, [.cell 2 2], 53) := by kernel_rfl
theorem frobD (p e : Nat) (hp : primeS p = true) (h2 : 2 ≤ p) (h32 : p ≤ 32) (h1 : 1 ≤ e) (he : e ≤ p - 1) (hpe : p * e ≤ 720) (H : List Blk) :
    ACalls Tryz.prog f_spec_FrobeniusGroup [I p, I e] H (fun r H' => H' = H ∧ ((∃ els : List (List Int), r = .tup [.agg [I p, ilSS els], I 0] ∧ els.length ≤ 40000 ∧ ∀ x ∈ els, x.length ≤ 40000) ∨ r = .tup [.agg [I 0, nilS], I 2])) := by
  by_cases a3 : (p - 1) % e = 0
  · refine (specFrob_ok H p e h2 h32 hp h1 he a3 hpe).mono ?_
    rintro r H' ⟨rfl, rfl⟩
    have hfl := frobS_len p e p
    refine ⟨rfl, .inl ⟨_, rfl, ?_, fun x hx => ?_⟩⟩
    · have i1 := sortU_len (cf := cmpL) (affAll p (frobS p e p))
      have i2 := affAll_len p (frobS p e p)
      have i3 : (frobS p e p).length * p ≤ 32 * 32 := Nat.mul_le_mul (by omega) h32
      rw [i2] at i1
      omega
    · have := total_geV hx
      have := aff_small p (frobS p e p) (by omega) (by omega)
      omega
  · have hip := hp
    have d1 : decide ((32 : Int) < (p : Int)) = false := decide_eq_false (by omega)
    have e1 : ((p : Int) - 1) = ((p - 1 : Nat) : Int) := by omega
    have d3 : (decide ((1 : Int) ≤ (e : Int)) && decide ((e : Int) ≤ ((p - 1 : Nat) : Int))) = true := by simp; omega
    have hz : ¬ (e : Int) = 0 := by omega
    have d5 : decide ((((p - 1) % e : Nat) : Int) = 0) = false := decide_eq_false (by omega)
    refine ACalls.introB s_spec_FrobeniusGroup (by simp) ?_; intro hB hA; unfold c_spec_FrobeniusGroup; simp (config := { maxSteps := 1000000 }) (disch := (first | omega | (simp only [go_sem]; try omega))) only [go_sem, Nat.reduceAdd, Nat.reduceEqDiff, Nat.reduceLeDiff, Nat.reduceMul, Nat.reduceLT, reduceIte, Int.reduceToNat, w64_id, cast_succ]
    repeat (first | (with_reducible first | refine SW.seq ?_ | refine SW.block ?_ | refine SW.rowC ?_ | refine SW.skip ?_ | refine SW.exit ?_ | refine PFn.use (specIsPrime_fn _) ?_ | refine PFn.useq (specIsPrime_fn _) ?_ | refine PFn.use (l00In_fn _ _ _) ?_ | refine PFn.useq (l00In_fn _ _ _) ?_ | intro _ | refine And.intro (by omega) ?_) | simp (config := { maxSteps := 1000000 }) (disch := (first | omega | (simp only [go_sem]; try omega))) only [go_sem, Nat.reduceAdd, Nat.reduceEqDiff, Nat.reduceLeDiff, Nat.reduceMul, Nat.reduceLT, reduceIte, Int.reduceToNat, w64_id, cast_succ, hip, d1, e1, d3, tmodN, d5])
    refine SW.condT rfl ?_
    repeat (first | (with_reducible first | refine SW.seq ?_ | refine SW.block ?_ | refine SW.rowC ?_ | refine SW.skip ?_ | refine SW.exit ?_ | intro _ | refine And.intro (by omega) ?_) | simp (config := { maxSteps := 1000000 }) (disch := (first | omega | (simp only [go_sem]; try omega))) only [go_sem, Nat.reduceAdd, Nat.reduceEqDiff, Nat.reduceLeDiff, Nat.reduceMul, Nat.reduceLT, reduceIte, Int.reduceToNat, w64_id, cast_succ])
    refine SW.ret ?_
    refine FunPost.cell_tmp (cs := [I 0, nilS]) (by simp (config := { maxSteps := 1000000 }) (disch := (first | omega | (simp only [go_sem]; try omega))) only [go_sem, Nat.reduceAdd, Nat.reduceEqDiff, Nat.reduceLeDiff, Nat.reduceMul, Nat.reduceLT, reduceIte, Int.reduceToNat, w64_id, cast_succ]) (GR.drop (ext := [_]) ?_ ?_)
    · (try simp (config := { maxSteps := 1000000 }) (disch := (first | omega | (simp only [go_sem]; try omega))) only [go_sem, Nat.reduceAdd, Nat.reduceEqDiff, Nat.reduceLeDiff, Nat.reduceMul, Nat.reduceLT, reduceIte, Int.reduceToNat, w64_id, cast_succ])
      (try (simp only [go_sem, Nat.reduceAdd, Nat.reduceEqDiff, reduceIte, go_sem, and_self, and_true, true_and, implies_true, List.take_succ_cons, List.take_zero, and_true, true_and]; try omega))
    · exact ⟨rfl, .inr rfl⟩
def drawG (H : List Blk) (p : Nat) (code : AV) (t : Nat) (r : AV) (H' : List Blk) : Prop :=
  ∃ (n : Int) (els : List (List Int)) (u' : Int) (t' : Nat), r = .agg [I n, ilSS els] ∧ 0 ≤ n ∧ n ≤ 33 ∧ els.length ≤ 40000 ∧ (∀ x ∈ els, x.length ≤ 40000) ∧ t' ≤ t + 400 ∧ H' = H.set p (srcB code t' u')
theorem l25Draw_ok (H : List Blk) (p : Nat) (code : AV) (ns : List Int) (t : Nat) (u : Int) (hp : H[p]? = some (srcB code t u)) (hc : CodeOk code ns) (hcb : ∀ k, Bel k code) (ht : t ≤ 600000000) :
    ACalls Tryz.prog f_spec_l25Draw [.pc p 0 0] H (drawG H p code t) := by
  have hlt := (List.getElem?_eq_some_iff.1 hp).1
  refine ACalls.introB s_spec_l25Draw (by simp) ?_; intro hB hA; unfold c_spec_l25Draw; simp (config := { maxSteps := 1000000 }) (disch := (first | omega | (simp only [go_sem]; try omega))) only [go_sem, Nat.reduceAdd, Nat.reduceEqDiff, Nat.reduceLeDiff, Nat.reduceMul, Nat.reduceLT, reduceIte, Int.reduceToNat, w64_id, cast_succ]
  have hBG := fun t u => HB_set hB (p := p) hcb t u
  have hset : ∀ t u (ext : List Blk), (H ++ ext).set p (srcB code t u) = H.set p (srcB code t u) ++ ext := fun t u ext => List.set_append_left _ _ hlt
  have hlen : ∀ t u, (H.set p (srcB code t u)).length = H.length := fun t u => List.length_set
  have hset2 : ∀ t u t' u' (ext : List Blk), (H.set p (srcB code t u) ++ ext).set p (srcB code t' u') = H.set p (srcB code t' u') ++ ext := fun t u t' u' ext => by
    rw [List.set_append_left _ _ (by rw [hlen]; exact hlt), List.set_set]
  have hpx : ∀ t u (ext : List Blk), (H.set p (srcB code t u) ++ ext)[p]? = some (srcB code t u) := fun t u ext => by
    rw [List.getElem?_append_left (by rw [hlen]; exact hlt)]; exact List.getElem?_set_self hlt
  have hz : ∀ t u (a b : AV) e, (H.set p (srcB code t u) ++ ((⟨0, tyG, 1, [a, b]⟩ : Blk) :: e))[H.length]? = some ⟨0, tyG, 1, [a, b]⟩ := fun t u a b e => by
    rw [List.getElem?_append_right (by rw [hlen]; omega), hlen, Nat.sub_self]; rfl
  have z2 : ∀ t u (a b x y : AV) e, astore (H.set p (srcB code t u) ++ ((⟨0, tyG, 1, [a, b]⟩ : Blk) :: e)) [x, y] (.pc H.length 0 0) = some (H.set p (srcB code t u) ++ ((⟨0, tyG, 1, [x, y]⟩ : Blk) :: e)) := fun t u a b x y e => by
    rw [pc_st (hz t u a b e) (by simp), List.set_append_right _ _ (by rw [hlen]; omega), hlen, Nat.sub_self]; rfl
  have z3 := fun t u a b e => pc_lds (off := 0) (n := 2) (hz t u a b e) (by simp)
  have hzk : ∀ t u (L : List Blk) (k : Nat) (b : Blk), L[k]? = some b → (H.set p (srcB code t u) ++ L)[H.length + k]? = some b := fun t u L k b h => by
    rw [List.getElem?_append_right (by rw [hlen]; omega), hlen, Nat.add_sub_cancel_left]; exact h
  have hzs : ∀ t u (L : List Blk) (k : Nat) (b : Blk), (H.set p (srcB code t u) ++ L).set (H.length + k) b = H.set p (srcB code t u) ++ L.set k b := fun t u L k b => by
    rw [List.set_append_right _ _ (by rw [hlen]; omega), hlen, Nat.add_sub_cancel_left]
  have q2s : ∀ t u (b0 b1 : Blk) (a b x y : AV), astore (H.set p (srcB code t u) ++ [b0, b1, ⟨0, tyG, 1, [a, b]⟩]) [x, y] (.pc (H.length + 2) 0 0) = some (H.set p (srcB code t u) ++ [b0, b1, ⟨0, tyG, 1, [x, y]⟩]) := fun t u b0 b1 a b x y => by
    rw [pc_st (hzk t u [b0, b1, ⟨0, tyG, 1, [a, b]⟩] 2 _ rfl) (by simp), hzs]; rfl
  have q2l := fun t u b0 b1 a b => pc_lds (off := 0) (n := 2) (hzk t u [b0, b1, ⟨0, tyG, 1, [a, b]⟩] 2 _ rfl) (by simp)
  have q2c := fun t u b0 b1 a b o => pc_ld (off := o) (hzk t u [b0, b1, ⟨0, tyG, 1, [a, b]⟩] 2 _ rfl)
  have q2a := fun t u b0 b1 a b o => pc_alive (off := o) (hzk t u [b0, b1, ⟨0, tyG, 1, [a, b]⟩] 2 _ rfl)
  have q3s : ∀ t u (b0 b1 b2 : Blk) (a b x y : AV), astore (H.set p (srcB code t u) ++ [b0, b1, b2, ⟨0, tyG, 1, [a, b]⟩]) [x, y] (.pc (H.length + 3) 0 0) = some (H.set p (srcB code t u) ++ [b0, b1, b2, ⟨0, tyG, 1, [x, y]⟩]) := fun t u b0 b1 b2 a b x y => by
    rw [pc_st (hzk t u [b0, b1, b2, ⟨0, tyG, 1, [a, b]⟩] 3 _ rfl) (by simp), hzs]; rfl
  have q3l := fun t u b0 b1 b2 a b => pc_lds (off := 0) (n := 2) (hzk t u [b0, b1, b2, ⟨0, tyG, 1, [a, b]⟩] 3 _ rfl) (by simp)
  have q3c := fun t u b0 b1 b2 a b o => pc_ld (off := o) (hzk t u [b0, b1, b2, ⟨0, tyG, 1, [a, b]⟩] 3 _ rfl)
  have q3a := fun t u b0 b1 b2 a b o => pc_alive (off := o) (hzk t u [b0, b1, b2, ⟨0, tyG, 1, [a, b]⟩] 3 _ rfl)
  have fin : ∀ (n : Int) (els : List (List Int)) (u' : Int) (t' : Nat) (e : List Blk), 0 ≤ n → n ≤ 33 → els.length ≤ 40000 → (∀ x ∈ els, x.length ≤ 40000) → t' ≤ t + 400 →
      FunPost [.cell 2 2] H (drawG H p code t) .ret [(2, .pc H.length 0 0)] (H.set p (srcB code t' u') ++ ((⟨0, tyG, 1, [I n, ilSS els]⟩ : Blk) :: e)) := fun n els u' t' e q1 q2 q3 q4 q5 => by
    refine FunPost.cell (z3 t' u' (I n) (ilSS els) e) ?_
    exact GR.frozH (H0 := H) (H1 := H.set p (srcB code t' u')) (r' := .agg [I n, ilSS els]) (hlen _ _) (hBG _ _) (froz_agg2 (froz_I' _) (froz_ilSS _)) ⟨n, els, u', t', rfl, q1, q2, q3, q4, q5, rfl⟩
  have fin2 : ∀ (n : Int) (w : AV) (els : List (List Int)) (u' : Int) (t' : Nat) (e : List Blk), Froz (H.set p (srcB code t' u') ++ ((⟨0, tyG, 1, [I n, w]⟩ : Blk) :: e)) H.length w (ilSS els) → 0 ≤ n → n ≤ 33 → els.length ≤ 40000 → (∀ x ∈ els, x.length ≤ 40000) → t' ≤ t + 400 →
      FunPost [.cell 2 2] H (drawG H p code t) .ret [(2, .pc H.length 0 0)] (H.set p (srcB code t' u') ++ ((⟨0, tyG, 1, [I n, w]⟩ : Blk) :: e)) := fun n w els u' t' e hf q1 q2 q3 q4 q5 => by
    refine FunPost.cell (z3 t' u' (I n) w e) ?_
    exact GR.frozH (H0 := H) (H1 := H.set p (srcB code t' u')) (r' := .agg [I n, ilSS els]) (hlen _ _) (hBG _ _) (froz_agg2 (froz_I' _) hf) ⟨n, els, u', t', rfl, q1, q2, q3, q4, q5, rfl⟩
  have am : ∀ t u (l : List Int) (e : List Blk), 1 ≤ l.length ∧ l.length ≤ 1000 → t ≤ 900000000 → ACalls Tryz.prog f_spec_l00Src_among [.pc p 0 0, .nm (H.length + e.length) 0 0 l.length] (H.set p (srcB code t u) ++ (e ++ [⟨0, 2, 1, l.map I⟩])) (fun r H' => ∃ (x u' : Int) (t' : Nat), r = I x ∧ x ∈ l ∧ t' ≤ t + 2 ∧ H' = H.set p (srcB code t' u') ++ (e ++ [⟨0, 2, 1, l.map I⟩])) := fun t u l e h1 h2 => among_new H p code ns t u l hlt hc h2 h1 e
  have one : ∀ t u (n : Nat) (e : List Blk) (i : Nat), 1 ≤ n → n ≤ 32 → (H.set p (srcB code t u) ++ e)[i]? = some ⟨0, 2, 1, [I 1]⟩ → ACalls Tryz.prog f_spec_l25Affine [I n, .nm i 0 0 1] (H.set p (srcB code t u) ++ e) (fun r H' => ∃ els : List (List Int), r = .agg [I n, ilSS els] ∧ els.length ≤ 40000 ∧ (∀ x ∈ els, x.length ≤ 40000) ∧ H' = H.set p (srcB code t u) ++ e) := fun t u n e i n1 n32 hi => by
    refine (l25Affine_ok _ n [1] (.nm i 0 0 1) n1 n32 (by simp) (by simp) (view_nm (ty := 2) hi rfl)).mono ?_
    rintro r H' ⟨rfl, rfl⟩
    refine ⟨_, rfl, ?_, fun x hx => ?_, rfl⟩
    · have i1 := sortU_len (cf := cmpL) (affAll n [1])
      have i2 := affAll_len n [1]
      simp at i2
      omega
    · have := total_geV hx
      have := aff_small n [1] n32 (by simp)
      omega
  repeat (first | (with_reducible first | refine SW.seq ?_ | refine SW.block ?_ | refine SW.rowC ?_ | refine SW.skip ?_ | refine SW.exit ?_ | intro _ | refine And.intro (by omega) ?_) | simp (config := { maxSteps := 1000000 }) (disch := (first | omega | (simp only [go_sem]; try omega))) only [go_sem, Nat.reduceAdd, Nat.reduceEqDiff, Nat.reduceLeDiff, Nat.reduceMul, Nat.reduceLT, reduceIte, Int.reduceToNat, w64_id, cast_succ])
  refine (pick_ok _ p code ns t u 6 (by rw [List.getElem?_append_left hlt]; exact hp) hc (by omega)).mono ?_
  rintro r H1 ⟨x1, u1, t1, rfl, a1, b1, ht1, rfl⟩
  rw [hset]
  repeat (first | (with_reducible first | refine SW.seq ?_ | refine SW.block ?_ | refine SW.rowC ?_ | refine SW.skip ?_ | refine SW.exit ?_ | intro _ | refine And.intro (by omega) ?_) | simp (config := { maxSteps := 1000000 }) (disch := (first | omega | (simp only [go_sem]; try omega))) only [go_sem, Nat.reduceAdd, Nat.reduceEqDiff, Nat.reduceLeDiff, Nat.reduceMul, Nat.reduceLT, reduceIte, Int.reduceToNat, w64_id, cast_succ, hlen, z2])
  (first | refine SW.condD rfl (fun h => ?_) (fun h => ?_) | refine SW.condN rfl (fun h => ?_) (fun h => ?_) | refine SW.condNB rfl (fun h => ?_) (fun h => ?_) | refine SW.condB rfl (fun h => ?_) (fun h => ?_))
  · repeat (first | (with_reducible first | refine SW.seq ?_ | refine SW.block ?_ | refine SW.rowC ?_ | refine SW.skip ?_ | refine SW.exit ?_ | intro _ | refine And.intro (by omega) ?_) | simp (config := { maxSteps := 1000000 }) (disch := (first | omega | (simp only [go_sem]; try omega))) only [go_sem, Nat.reduceAdd, Nat.reduceEqDiff, Nat.reduceLeDiff, Nat.reduceMul, Nat.reduceLT, reduceIte, Int.reduceToNat, w64_id, cast_succ, hlen, z2])
    refine (pick_ok _ p code ns t1 u1 11 (hpx _ _ _) hc (by omega)).mono ?_
    rintro r H1 ⟨x2, u2, t2, rfl, a2, b2, ht2, rfl⟩
    rw [hset2]
    obtain ⟨x2, rfl⟩ := Int.eq_ofNat_of_zero_le a2
    have e2 : ((x2 : Int) + 1) = ((x2 + 1 : Nat) : Int) := by omega
    repeat (first | (with_reducible first | refine SW.seq ?_ | refine SW.block ?_ | refine SW.rowC ?_ | refine SW.skip ?_ | refine SW.exit ?_ | intro _ | refine And.intro (by omega) ?_) | simp (config := { maxSteps := 1000000 }) (disch := (first | omega | (simp only [go_sem]; try omega))) only [go_sem, Nat.reduceAdd, Nat.reduceEqDiff, Nat.reduceLeDiff, Nat.reduceMul, Nat.reduceLT, reduceIte, Int.reduceToNat, w64_id, cast_succ, hlen, z2, e2])
    refine (one t2 u2 (x2 + 1) _ _ (by omega) (by omega) (by rw [List.getElem?_append_right (by rw [hlen]; omega), hlen, Nat.add_sub_cancel_left]; rfl)).mono ?_
    rintro r H1 ⟨els, rfl, q1, q2, rfl⟩
    repeat (first | (with_reducible first | refine SW.seq ?_ | refine SW.block ?_ | refine SW.rowC ?_ | refine SW.skip ?_ | refine SW.exit ?_ | intro _ | refine And.intro (by omega) ?_) | simp (config := { maxSteps := 1000000 }) (disch := (first | omega | (simp only [go_sem]; try omega))) only [go_sem, Nat.reduceAdd, Nat.reduceEqDiff, Nat.reduceLeDiff, Nat.reduceMul, Nat.reduceLT, reduceIte, Int.reduceToNat, w64_id, cast_succ, hlen, z2])
    exact SW.ret (fin _ els u2 t2 _ (by omega) (by omega) q1 q2 (by omega))
  · repeat (first | (with_reducible first | refine SW.seq ?_ | refine SW.block ?_ | refine SW.rowC ?_ | refine SW.skip ?_ | refine SW.exit ?_ | intro _ | refine And.intro (by omega) ?_) | simp (config := { maxSteps := 1000000 }) (disch := (first | omega | (simp only [go_sem]; try omega))) only [go_sem, Nat.reduceAdd, Nat.reduceEqDiff, Nat.reduceLeDiff, Nat.reduceMul, Nat.reduceLT, reduceIte, Int.reduceToNat, w64_id, cast_succ, hlen, z2])
    (first | refine SW.condD rfl (fun h => ?_) (fun h => ?_) | refine SW.condN rfl (fun h => ?_) (fun h => ?_) | refine SW.condNB rfl (fun h => ?_) (fun h => ?_) | refine SW.condB rfl (fun h => ?_) (fun h => ?_))
    · repeat (first | (with_reducible first | refine SW.seq ?_ | refine SW.block ?_ | refine SW.rowC ?_ | refine SW.skip ?_ | refine SW.exit ?_ | intro _ | refine And.intro (by omega) ?_) | simp (config := { maxSteps := 1000000 }) (disch := (first | omega | (simp only [go_sem]; try omega))) only [go_sem, Nat.reduceAdd, Nat.reduceEqDiff, Nat.reduceLeDiff, Nat.reduceMul, Nat.reduceLT, reduceIte, Int.reduceToNat, w64_id, cast_succ, hlen, z2])
      refine (am t1 u1 [1, 2, 3, 6] [⟨0, tyG, 1, [I 0, nilS]⟩] (by simp) (by omega)).mono ?_
      rintro r H1 ⟨x2, u2, t2, rfl, hx2, ht2, rfl⟩
      obtain ⟨e, rfl⟩ : ∃ q : Nat, x2 = q := ⟨x2.toNat, by simp at hx2; omega⟩
      simp at hx2
      repeat (first | (with_reducible first | refine SW.seq ?_ | refine SW.block ?_ | refine SW.rowC ?_ | refine SW.skip ?_ | refine SW.exit ?_ | intro _ | refine And.intro (by omega) ?_) | simp (config := { maxSteps := 1000000 }) (disch := (first | omega | (simp only [go_sem]; try omega))) only [go_sem, Nat.reduceAdd, Nat.reduceEqDiff, Nat.reduceLeDiff, Nat.reduceMul, Nat.reduceLT, reduceIte, Int.reduceToNat, w64_id, cast_succ, hlen, z2])
      refine (frobD 7 e (by decide) (by omega) (by omega) (by omega) (by omega) (by omega) _).mono ?_
      rintro r H1 ⟨rfl, ⟨els, rfl, q1, q2⟩ | rfl⟩
      · repeat (first | (with_reducible first | refine SW.seq ?_ | refine SW.block ?_ | refine SW.rowC ?_ | refine SW.skip ?_ | refine SW.exit ?_ | intro _ | refine And.intro (by omega) ?_) | simp (config := { maxSteps := 1000000 }) (disch := (first | omega | (simp only [go_sem]; try omega))) only [go_sem, Nat.reduceAdd, Nat.reduceEqDiff, Nat.reduceLeDiff, Nat.reduceMul, Nat.reduceLT, reduceIte, Int.reduceToNat, w64_id, cast_succ, hlen, z2, q2s, q2l, q2c, q2a])
        exact SW.ret (fin _ els u2 t2 _ (by omega) (by omega) q1 q2 (by omega))
      · repeat (first | (with_reducible first | refine SW.seq ?_ | refine SW.block ?_ | refine SW.rowC ?_ | refine SW.skip ?_ | refine SW.exit ?_ | intro _ | refine And.intro (by omega) ?_) | simp (config := { maxSteps := 1000000 }) (disch := (first | omega | (simp only [go_sem]; try omega))) only [go_sem, Nat.reduceAdd, Nat.reduceEqDiff, Nat.reduceLeDiff, Nat.reduceMul, Nat.reduceLT, reduceIte, Int.reduceToNat, w64_id, cast_succ, hlen, z2, q2s, q2l, q2c, q2a])
        exact SW.ret (fin2 _ nilS [] u2 t2 _ .nil (by omega) (by omega) (by simp) (by simp) (by omega))
    · repeat (first | (with_reducible first | refine SW.seq ?_ | refine SW.block ?_ | refine SW.rowC ?_ | refine SW.skip ?_ | refine SW.exit ?_ | intro _ | refine And.intro (by omega) ?_) | simp (config := { maxSteps := 1000000 }) (disch := (first | omega | (simp only [go_sem]; try omega))) only [go_sem, Nat.reduceAdd, Nat.reduceEqDiff, Nat.reduceLeDiff, Nat.reduceMul, Nat.reduceLT, reduceIte, Int.reduceToNat, w64_id, cast_succ, hlen, z2])
      (first | refine SW.condD rfl (fun h => ?_) (fun h => ?_) | refine SW.condN rfl (fun h => ?_) (fun h => ?_) | refine SW.condNB rfl (fun h => ?_) (fun h => ?_) | refine SW.condB rfl (fun h => ?_) (fun h => ?_))
      · repeat (first | (with_reducible first | refine SW.seq ?_ | refine SW.block ?_ | refine SW.rowC ?_ | refine SW.skip ?_ | refine SW.exit ?_ | intro _ | refine And.intro (by omega) ?_) | simp (config := { maxSteps := 1000000 }) (disch := (first | omega | (simp only [go_sem]; try omega))) only [go_sem, Nat.reduceAdd, Nat.reduceEqDiff, Nat.reduceLeDiff, Nat.reduceMul, Nat.reduceLT, reduceIte, Int.reduceToNat, w64_id, cast_succ, hlen, z2])
        refine (am t1 u1 [5, 11, 13] [⟨0, tyG, 1, [I 0, nilS]⟩] (by simp) (by omega)).mono ?_
        rintro r H1 ⟨x2, u2, t2, rfl, hx2, ht2, rfl⟩
        obtain ⟨q, rfl⟩ : ∃ q : Nat, x2 = q := ⟨x2.toNat, by simp at hx2; omega⟩
        simp at hx2
        have hq : q = 5 ∨ q = 11 ∨ q = 13 := by omega
        repeat (first | (with_reducible first | refine SW.seq ?_ | refine SW.block ?_ | refine SW.rowC ?_ | refine SW.skip ?_ | refine SW.exit ?_ | intro _ | refine And.intro (by omega) ?_) | simp (config := { maxSteps := 1000000 }) (disch := (first | omega | (simp only [go_sem]; try omega))) only [go_sem, Nat.reduceAdd, Nat.reduceEqDiff, Nat.reduceLeDiff, Nat.reduceMul, Nat.reduceLT, reduceIte, Int.reduceToNat, w64_id, cast_succ, hlen, z2])
        refine (am t2 u2 [1, 2, 4] [⟨0, tyG, 1, [I 0, nilS]⟩, ⟨0, 2, 1, [I 5, I 11, I 13]⟩] (by simp) (by omega)).mono ?_
        rintro r H1 ⟨x3, u3, t3, rfl, hx3, ht3, rfl⟩
        obtain ⟨e, rfl⟩ : ∃ q : Nat, x3 = q := ⟨x3.toNat, by simp at hx3; omega⟩
        simp at hx3
        have hpe : q * e ≤ 13 * 4 := Nat.mul_le_mul (by omega) (by omega)
        repeat (first | (with_reducible first | refine SW.seq ?_ | refine SW.block ?_ | refine SW.rowC ?_ | refine SW.skip ?_ | refine SW.exit ?_ | intro _ | refine And.intro (by omega) ?_) | simp (config := { maxSteps := 1000000 }) (disch := (first | omega | (simp only [go_sem]; try omega))) only [go_sem, Nat.reduceAdd, Nat.reduceEqDiff, Nat.reduceLeDiff, Nat.reduceMul, Nat.reduceLT, reduceIte, Int.reduceToNat, w64_id, cast_succ, hlen, z2])
        refine (frobD q e (by rcases hq with rfl | rfl | rfl <;> decide) (by omega) (by omega) (by omega) (by omega) (by omega) _).mono ?_
        rintro r H1 ⟨rfl, ⟨els, rfl, q1, q2⟩ | rfl⟩
        · have dq : decide ((q : Int) = 0) = false := decide_eq_false (by omega)
          repeat (first | (with_reducible first | refine SW.seq ?_ | refine SW.block ?_ | refine SW.rowC ?_ | refine SW.skip ?_ | refine SW.exit ?_ | intro _ | refine And.intro (by omega) ?_) | simp (config := { maxSteps := 1000000 }) (disch := (first | omega | (simp only [go_sem]; try omega))) only [go_sem, Nat.reduceAdd, Nat.reduceEqDiff, Nat.reduceLeDiff, Nat.reduceMul, Nat.reduceLT, reduceIte, Int.reduceToNat, w64_id, cast_succ, hlen, z2, dq, q3s, q3l, q3c, q3a])
          refine SW.condF rfl ?_
          repeat (first | (with_reducible first | refine SW.seq ?_ | refine SW.block ?_ | refine SW.rowC ?_ | refine SW.skip ?_ | refine SW.exit ?_ | intro _ | refine And.intro (by omega) ?_) | simp (config := { maxSteps := 1000000 }) (disch := (first | omega | (simp only [go_sem]; try omega))) only [go_sem, Nat.reduceAdd, Nat.reduceEqDiff, Nat.reduceLeDiff, Nat.reduceMul, Nat.reduceLT, reduceIte, Int.reduceToNat, w64_id, cast_succ, hlen, z2, dq, q3s, q3l, q3c, q3a])
          exact SW.ret (fin _ els u3 t3 _ (by omega) (by omega) q1 q2 (by omega))
        · have dq : decide ((0 : Int) = 0) = true := rfl
          repeat (first | (with_reducible first | refine SW.seq ?_ | refine SW.block ?_ | refine SW.rowC ?_ | refine SW.skip ?_ | refine SW.exit ?_ | intro _ | refine And.intro (by omega) ?_) | simp (config := { maxSteps := 1000000 }) (disch := (first | omega | (simp only [go_sem]; try omega))) only [go_sem, Nat.reduceAdd, Nat.reduceEqDiff, Nat.reduceLeDiff, Nat.reduceMul, Nat.reduceLT, reduceIte, Int.reduceToNat, w64_id, cast_succ, hlen, z2, dq, q3s, q3l, q3c, q3a])
          refine SW.condT rfl ?_
          repeat (first | (with_reducible first | refine SW.seq ?_ | refine SW.block ?_ | refine SW.rowC ?_ | refine SW.skip ?_ | refine SW.exit ?_ | intro _ | refine And.intro (by omega) ?_) | simp (config := { maxSteps := 1000000 }) (disch := (first | omega | (simp only [go_sem]; try omega))) only [go_sem, Nat.reduceAdd, Nat.reduceEqDiff, Nat.reduceLeDiff, Nat.reduceMul, Nat.reduceLT, reduceIte, Int.reduceToNat, w64_id, cast_succ, hlen, z2, dq, q3s, q3l, q3c, q3a])
          refine (one t3 u3 q _ _ (by omega) (by omega) (hzk _ _ _ 4 _ rfl)).mono ?_
          rintro r H1 ⟨els, rfl, q1, q2, rfl⟩
          repeat (first | (with_reducible first | refine SW.seq ?_ | refine SW.block ?_ | refine SW.rowC ?_ | refine SW.skip ?_ | refine SW.exit ?_ | intro _ | refine And.intro (by omega) ?_) | simp (config := { maxSteps := 1000000 }) (disch := (first | omega | (simp only [go_sem]; try omega))) only [go_sem, Nat.reduceAdd, Nat.reduceEqDiff, Nat.reduceLeDiff, Nat.reduceMul, Nat.reduceLT, reduceIte, Int.reduceToNat, w64_id, cast_succ, hlen, z2, dq, q3s, q3l, q3c, q3a])
          exact SW.ret (fin _ els u3 t3 _ (by omega) (by omega) q1 q2 (by omega))
      · repeat (first | (with_reducible first | refine SW.seq ?_ | refine SW.block ?_ | refine SW.rowC ?_ | refine SW.skip ?_ | refine SW.exit ?_ | intro _ | refine And.intro (by omega) ?_) | simp (config := { maxSteps := 1000000 }) (disch := (first | omega | (simp only [go_sem]; try omega))) only [go_sem, Nat.reduceAdd, Nat.reduceEqDiff, Nat.reduceLeDiff, Nat.reduceMul, Nat.reduceLT, reduceIte, Int.reduceToNat, w64_id, cast_succ, hlen, z2])
        (first | refine SW.condD rfl (fun h => ?_) (fun h => ?_) | refine SW.condN rfl (fun h => ?_) (fun h => ?_) | refine SW.condNB rfl (fun h => ?_) (fun h => ?_) | refine SW.condB rfl (fun h => ?_) (fun h => ?_))
        · repeat (first | (with_reducible first | refine SW.seq ?_ | refine SW.block ?_ | refine SW.rowC ?_ | refine SW.skip ?_ | refine SW.exit ?_ | intro _ | refine And.intro (by omega) ?_) | simp (config := { maxSteps := 1000000 }) (disch := (first | omega | (simp only [go_sem]; try omega))) only [go_sem, Nat.reduceAdd, Nat.reduceEqDiff, Nat.reduceLeDiff, Nat.reduceMul, Nat.reduceLT, reduceIte, Int.reduceToNat, w64_id, cast_succ, hlen, z2])
          refine (l05Bent_ok _ p code ns t1 u1 (hpx _ _ _) hc hcb (by omega)).mono ?_
          rintro r H1 ⟨n, els, u2, t2, rfl, q1, q2, q3, q4, q5, rfl⟩
          rw [hset2]
          repeat (first | (with_reducible first | refine SW.seq ?_ | refine SW.block ?_ | refine SW.rowC ?_ | refine SW.skip ?_ | refine SW.exit ?_ | intro _ | refine And.intro (by omega) ?_) | simp (config := { maxSteps := 1000000 }) (disch := (first | omega | (simp only [go_sem]; try omega))) only [go_sem, Nat.reduceAdd, Nat.reduceEqDiff, Nat.reduceLeDiff, Nat.reduceMul, Nat.reduceLT, reduceIte, Int.reduceToNat, w64_id, cast_succ, hlen, z2])
          exact SW.ret (fin _ els u2 t2 _ (by omega) (by omega) (by omega) (fun x hx => by have := q4 x hx; omega) (by omega))
        · repeat (first | (with_reducible first | refine SW.seq ?_ | refine SW.block ?_ | refine SW.rowC ?_ | refine SW.skip ?_ | refine SW.exit ?_ | intro _ | refine And.intro (by omega) ?_) | simp (config := { maxSteps := 1000000 }) (disch := (first | omega | (simp only [go_sem]; try omega))) only [go_sem, Nat.reduceAdd, Nat.reduceEqDiff, Nat.reduceLeDiff, Nat.reduceMul, Nat.reduceLT, reduceIte, Int.reduceToNat, w64_id, cast_succ, hlen, z2])
          refine (l05Draw_ok _ p code ns t1 u1 (hpx _ _ _) hc hcb (by omega)).mono ?_
          rintro r H1 ⟨n, els, u2, t2, i, ver, ext, rfl, q1, q2, q3, q4, q5, q6, rfl, q7, q8⟩
          rw [hset2, List.append_assoc] at q8 ⊢
          have q7' : H.length + 1 ≤ i := by simpa using q7
          repeat (first | (with_reducible first | refine SW.seq ?_ | refine SW.block ?_ | refine SW.rowC ?_ | refine SW.skip ?_ | refine SW.exit ?_ | intro _ | refine And.intro (by omega) ?_) | simp (config := { maxSteps := 1000000 }) (disch := (first | omega | (simp only [go_sem]; try omega))) only [go_sem, Nat.reduceAdd, Nat.reduceEqDiff, Nat.reduceLeDiff, Nat.reduceMul, Nat.reduceLT, reduceIte, Int.reduceToNat, w64_id, cast_succ, hlen, z2])
          refine SW.ret (fin2 _ _ els u2 t2 _ (froz_rowS (ver := ver) (ty := tyLL) (by omega) ?_) (by omega) (by omega) (by omega) (fun x hx => by have := q5 x hx; omega) (by omega))
          rw [List.getElem?_append_right (by rw [hlen]; omega), hlen] at q8 ⊢
          rw [List.singleton_append] at q8
          obtain ⟨j, hj⟩ : ∃ j, i - H.length = j + 1 := ⟨i - H.length - 1, by omega⟩
          rw [hj] at q8 ⊢
          exact q8
end Go.Proofs.YthogadbnddmkdaaGreat
namespace Go.Proofs.YthogadbnddmkdaaGreat
open Go.Av
abbrev f_spec_DrawSubsetOrbits : Nat := 20
def c_spec_DrawSubsetOrbits : SC :=
 .seq (.reg [
     ⟨(some 2), .alloc 44 [(.int .i64 0), (.slice none 0 0)], none⟩,
     ⟨(some 3), .mv (.const (.int .i64 0)), none⟩] [0, 2])
 (.seq (.reg [
     ⟨(some 6), .mv (.tmp 0), none⟩,
     ⟨(some 7), .call 32 [(.tmp 6)], none⟩,
     ⟨(some 4), .mv (.tmp 7), none⟩] [2, 4])
 (.seq (.reg [
     ⟨(some 8), .mv (.tmp 4), none⟩,
     ⟨(some 9), .call 58 [(.tmp 8)], none⟩,
     ⟨(some 5), .alloc 44 [(.int .i64 0), (.slice none 0 0)], none⟩,
     ⟨none, .store 2 (.tmp 5) (.tmp 9), none⟩] [2, 4, 5])
 (.seq (.mix (.one ⟨(some 11), .mv (.tmp 4), none⟩
  (.both (.one ⟨(some 10), .load 2 true (.tmp 5), none⟩
   (.one ⟨(some 12), .call 59 [(.tmp 11), (.tmp 5)], none⟩
   (.one ⟨none, .store 2 (.tmp 2) (.tmp 10), none⟩
   (.one ⟨(some 3), .mv (.tmp 12), none⟩
   (.done)))))
  (.one ⟨(some 12), .call 59 [(.tmp 11), (.tmp 5)], none⟩
   (.one ⟨(some 10), .load 2 true (.tmp 5), none⟩
   (.one ⟨none, .store 2 (.tmp 2) (.tmp 10), none⟩
   (.one ⟨(some 3), .mv (.tmp 12), none⟩
   (.done))))))) [2, 3])
 (.ret))))
theorem s_spec_DrawSubsetOrbits : stripF Tryz.prog 20 [[0, 2], [2, 4], [2, 4, 5], [2, 3, 1000002]] = some (c_spec_DrawSubsetOrbits, [.cell 2 2, .tmp 3], 13) := by kernel_rfl
abbrev f_spec_l25DrawSize : Nat := 59
def c_spec_l25DrawSize : SC :=
 .seq (.reg [
     ⟨(some 4), .mv (.const (.int .i64 0)), none⟩] [0, 1])
 (.seq (.seq (.reg [
     ⟨(some 5), .mv (.tmp 0), none⟩,
     ⟨(some 6), .call 109 [(.tmp 5), (.const (.int .i64 8))], none⟩] [0, 1, 6])
 (.cond (.tmp 6)
  (.seq (.reg [
      ⟨(some 7), .mv (.tmp 0), none⟩,
      ⟨(some 8), .mv (.tmp 1), none⟩,
      ⟨(some 9), .nilc (.tmp 8), none⟩,
      ⟨(some 10), .faddr 0 (.tmp 9), none⟩,
      ⟨(some 11), .load 1 false (.tmp 10), none⟩,
      ⟨(some 12), .call 74 [(.tmp 11), (.const (.int .i64 0))], none⟩,
      ⟨(some 13), .bin .add (.tmp 12) (.const (.int .i64 3)), none⟩,
      ⟨(some 14), .call 73 [(.tmp 7), (.tmp 13)], none⟩,
      ⟨(some 15), .bin .sub (.tmp 14) (.const (.int .i64 1)), none⟩,
      ⟨(some 4), .mv (.tmp 15), none⟩] [4])
  (.ret))
  (.skip)))
 (.seq (.reg [
     ⟨(some 16), .mv (.tmp 0), none⟩,
     ⟨(some 17), .call 73 [(.tmp 16), (.const (.int .i64 4))], none⟩,
     ⟨(some 4), .mv (.tmp 17), none⟩] [4])
 (.ret)))
theorem s_spec_l25DrawSize : stripF Tryz.prog 59 [[0, 1], [0, 1, 6], [4], [4]] = some (c_spec_l25DrawSize, [.tmp 4], 18) := by kernel_rfl
abbrev f_spec_l00Max : Nat := 74
def c_spec_l00Max : SC :=
 .seq (.reg [
     ⟨(some 4), .mv (.const (.int .i64 0)), none⟩] [0, 1])
 (.seq (.seq (.reg [
     ⟨(some 5), .mv (.tmp 0), none⟩,
     ⟨(some 6), .mv (.tmp 1), none⟩,
     ⟨(some 7), .bin .gtr (.tmp 5) (.tmp 6), none⟩] [0, 1, 7])
 (.cond (.tmp 7)
  (.seq (.reg [
      ⟨(some 8), .mv (.tmp 0), none⟩,
      ⟨(some 4), .mv (.tmp 8), none⟩] [4])
  (.ret))
  (.skip)))
 (.seq (.reg [
     ⟨(some 9), .mv (.tmp 1), none⟩,
     ⟨(some 4), .mv (.tmp 9), none⟩] [4])
 (.ret)))
theorem s_spec_l00Max : stripF Tryz.prog 74 [[0, 1], [0, 1, 7], [4], [4]] = some (c_spec_l00Max, [.tmp 4], 10) := by kernel_rfl
theorem l00Max_fn (a b : Int) : PFn Tryz.prog f_spec_l00Max [I a, I b] (I (if b < a then a else b)) := by
  intro H; refine ACalls.introB s_spec_l00Max (by simp) ?_; intro hB hA; unfold c_spec_l00Max; simp (config := { maxSteps := 1000000 }) (disch := (first | omega | (simp only [go_sem]; try omega))) only [go_sem, Nat.reduceAdd, Nat.reduceEqDiff, Nat.reduceLeDiff, Nat.reduceMul, Nat.reduceLT, reduceIte, Int.reduceToNat, w64_id, cast_succ]
  repeat (first | (with_reducible first | refine SW.seq ?_ | refine SW.block ?_ | refine SW.rowC ?_ | refine SW.skip ?_ | refine SW.exit ?_ | intro _ | refine And.intro (by omega) ?_) | simp (config := { maxSteps := 1000000 }) (disch := (first | omega | (simp only [go_sem]; try omega))) only [go_sem, Nat.reduceAdd, Nat.reduceEqDiff, Nat.reduceLeDiff, Nat.reduceMul, Nat.reduceLT, reduceIte, Int.reduceToNat, w64_id, cast_succ])
  (first | refine SW.condD rfl (fun h => ?_) (fun h => ?_) | refine SW.condN rfl (fun h => ?_) (fun h => ?_) | refine SW.condNB rfl (fun h => ?_) (fun h => ?_) | refine SW.condB rfl (fun h => ?_) (fun h => ?_))
  · repeat (first | (with_reducible first | refine SW.seq ?_ | refine SW.block ?_ | refine SW.rowC ?_ | refine SW.skip ?_ | refine SW.exit ?_ | intro _ | refine And.intro (by omega) ?_) | simp (config := { maxSteps := 1000000 }) (disch := (first | omega | (simp only [go_sem]; try omega))) only [go_sem, Nat.reduceAdd, Nat.reduceEqDiff, Nat.reduceLeDiff, Nat.reduceMul, Nat.reduceLT, reduceIte, Int.reduceToNat, w64_id, cast_succ])
    rw [if_pos (by omega)]
    refine SW.ret ?_; (try simp only [go_sem]); (first | refine FunPost.one ?_ | refine FunPost.two ?_ | refine FunPost.three ?_); (try simp (config := { maxSteps := 1000000 }) (disch := (first | omega | (simp only [go_sem]; try omega))) only [go_sem, Nat.reduceAdd, Nat.reduceEqDiff, Nat.reduceLeDiff, Nat.reduceMul, Nat.reduceLT, reduceIte, Int.reduceToNat, w64_id, cast_succ]); (first | (with_reducible refine GR.drop ?_ ?_; (simp only [go_sem, and_self, and_true, true_and, implies_true, List.take_succ_cons, List.take_zero])) | refine GR.of ?_); refine ⟨?_, rfl⟩; (try with_reducible rfl)
  · repeat (first | (with_reducible first | refine SW.seq ?_ | refine SW.block ?_ | refine SW.rowC ?_ | refine SW.skip ?_ | refine SW.exit ?_ | intro _ | refine And.intro (by omega) ?_) | simp (config := { maxSteps := 1000000 }) (disch := (first | omega | (simp only [go_sem]; try omega))) only [go_sem, Nat.reduceAdd, Nat.reduceEqDiff, Nat.reduceLeDiff, Nat.reduceMul, Nat.reduceLT, reduceIte, Int.reduceToNat, w64_id, cast_succ])
    rw [if_neg (by omega)]
    refine SW.ret ?_; (try simp only [go_sem]); (first | refine FunPost.one ?_ | refine FunPost.two ?_ | refine FunPost.three ?_); (try simp (config := { maxSteps := 1000000 }) (disch := (first | omega | (simp only [go_sem]; try omega))) only [go_sem, Nat.reduceAdd, Nat.reduceEqDiff, Nat.reduceLeDiff, Nat.reduceMul, Nat.reduceLT, reduceIte, Int.reduceToNat, w64_id, cast_succ]); (first | (with_reducible refine GR.drop ?_ ?_; (simp only [go_sem, and_self, and_true, true_and, implies_true, List.take_succ_cons, List.take_zero])) | refine GR.of ?_); refine ⟨?_, rfl⟩; (try with_reducible rfl)
theorem l25DrawSize_ok (H : List Blk) (p q : Nat) (code : AV) (ns : List Int) (t : Nat) (u : Int) (n : Int) (w : AV) (hp : H[p]? = some (srcB code t u)) (hq : H[q]? = some ⟨0, tyG, 1, [I n, w]⟩) (hpq : p ≠ q) (hc : CodeOk code ns) (hcb : ∀ k, Bel k code) (ht : t ≤ 600000000) (hn : n ≤ 33) :
    ACalls Tryz.prog f_spec_l25DrawSize [.pc p 0 0, .pc q 0 0] H (fun r H' => ∃ (k u' : Int) (t' : Nat), r = I k ∧ -1 ≤ k ∧ k ≤ 36 ∧ t' ≤ t + 10 ∧ H' = H.set p (srcB code t' u')) := by
  have hlt := (List.getElem?_eq_some_iff.1 hp).1
  have hq2 : ∀ b, (H.set p b)[q]? = some ⟨0, tyG, 1, [I n, w]⟩ := fun b => by rw [List.getElem?_set_ne hpq]; exact hq
  refine ACalls.introB s_spec_l25DrawSize (by simp) ?_; intro hB hA; unfold c_spec_l25DrawSize; simp (config := { maxSteps := 1000000 }) (disch := (first | omega | (simp only [go_sem]; try omega))) only [go_sem, Nat.reduceAdd, Nat.reduceEqDiff, Nat.reduceLeDiff, Nat.reduceMul, Nat.reduceLT, reduceIte, Int.reduceToNat, w64_id, cast_succ]
  repeat (first | (with_reducible first | refine SW.seq ?_ | refine SW.block ?_ | refine SW.rowC ?_ | refine SW.skip ?_ | refine SW.exit ?_ | intro _ | refine And.intro (by omega) ?_) | simp (config := { maxSteps := 1000000 }) (disch := (first | omega | (simp only [go_sem]; try omega))) only [go_sem, Nat.reduceAdd, Nat.reduceEqDiff, Nat.reduceLeDiff, Nat.reduceMul, Nat.reduceLT, reduceIte, Int.reduceToNat, w64_id, cast_succ])
  refine (one_ok _ p code ns t u 8 hp hc (by omega)).mono ?_
  rintro r H1 ⟨b, u1, t1, rfl, ht1, rfl⟩
  have g1 := fun o => pc_ld (off := o) (hq2 (srcB code t1 u1))
  have g3 := fun o => pc_alive (off := o) (hq2 (srcB code t1 u1))
  repeat (first | (with_reducible first | refine SW.seq ?_ | refine SW.block ?_ | refine SW.rowC ?_ | refine SW.skip ?_ | refine SW.exit ?_ | intro _ | refine And.intro (by omega) ?_) | simp (config := { maxSteps := 1000000 }) (disch := (first | omega | (simp only [go_sem]; try omega))) only [go_sem, Nat.reduceAdd, Nat.reduceEqDiff, Nat.reduceLeDiff, Nat.reduceMul, Nat.reduceLT, reduceIte, Int.reduceToNat, w64_id, cast_succ, g1, g3])
  cases b
  · refine SW.condF rfl ?_
    repeat (first | (with_reducible first | refine SW.seq ?_ | refine SW.block ?_ | refine SW.rowC ?_ | refine SW.skip ?_ | refine SW.exit ?_ | intro _ | refine And.intro (by omega) ?_) | simp (config := { maxSteps := 1000000 }) (disch := (first | omega | (simp only [go_sem]; try omega))) only [go_sem, Nat.reduceAdd, Nat.reduceEqDiff, Nat.reduceLeDiff, Nat.reduceMul, Nat.reduceLT, reduceIte, Int.reduceToNat, w64_id, cast_succ, g1, g3])
    refine (pick_ok _ p code ns t1 u1 4 (List.getElem?_set_self hlt) hc (by omega)).mono ?_
    rintro r H1 ⟨x, u2, t2, rfl, a1, b1, ht2, rfl⟩
    rw [List.set_set]
    repeat (first | (with_reducible first | refine SW.seq ?_ | refine SW.block ?_ | refine SW.rowC ?_ | refine SW.skip ?_ | refine SW.exit ?_ | intro _ | refine And.intro (by omega) ?_) | simp (config := { maxSteps := 1000000 }) (disch := (first | omega | (simp only [go_sem]; try omega))) only [go_sem, Nat.reduceAdd, Nat.reduceEqDiff, Nat.reduceLeDiff, Nat.reduceMul, Nat.reduceLT, reduceIte, Int.reduceToNat, w64_id, cast_succ])
    refine SW.ret ?_; (try simp only [go_sem]); (first | refine FunPost.one ?_ | refine FunPost.two ?_ | refine FunPost.three ?_); (try simp (config := { maxSteps := 1000000 }) (disch := (first | omega | (simp only [go_sem]; try omega))) only [go_sem, Nat.reduceAdd, Nat.reduceEqDiff, Nat.reduceLeDiff, Nat.reduceMul, Nat.reduceLT, reduceIte, Int.reduceToNat, w64_id, cast_succ])
    exact GR.of ⟨x, u2, t2, rfl, by omega, by omega, by omega, rfl⟩
  · refine SW.condT rfl ?_
    repeat (first | (with_reducible first | refine SW.seq ?_ | refine SW.block ?_ | refine SW.rowC ?_ | refine SW.skip ?_ | refine SW.exit ?_ | refine PFn.use (l00Max_fn n 0) ?_ | refine PFn.useq (l00Max_fn n 0) ?_ | intro _ | refine And.intro (by omega) ?_) | simp (config := { maxSteps := 1000000 }) (disch := (first | omega | (simp only [go_sem]; try omega))) only [go_sem, Nat.reduceAdd, Nat.reduceEqDiff, Nat.reduceLeDiff, Nat.reduceMul, Nat.reduceLT, reduceIte, Int.reduceToNat, w64_id, cast_succ, g1, g3])
    have hmx : (if 0 < n then n else 0) ≤ 33 ∧ 0 ≤ (if 0 < n then n else 0) := by split <;> omega
    generalize (if 0 < n then n else 0) = mx at *
    refine (pick_ok _ p code ns t1 u1 (mx + 3) (List.getElem?_set_self hlt) hc (by omega)).mono ?_
    rintro r H1 ⟨x, u2, t2, rfl, a1, b1, ht2, rfl⟩
    rw [List.set_set]
    repeat (first | (with_reducible first | refine SW.seq ?_ | refine SW.block ?_ | refine SW.rowC ?_ | refine SW.skip ?_ | refine SW.exit ?_ | intro _ | refine And.intro (by omega) ?_) | simp (config := { maxSteps := 1000000 }) (disch := (first | omega | (simp only [go_sem]; try omega))) only [go_sem, Nat.reduceAdd, Nat.reduceEqDiff, Nat.reduceLeDiff, Nat.reduceMul, Nat.reduceLT, reduceIte, Int.reduceToNat, w64_id, cast_succ])
    refine SW.ret ?_; (try simp only [go_sem]); (first | refine FunPost.one ?_ | refine FunPost.two ?_ | refine FunPost.three ?_); (try simp (config := { maxSteps := 1000000 }) (disch := (first | omega | (simp only [go_sem]; try omega))) only [go_sem, Nat.reduceAdd, Nat.reduceEqDiff, Nat.reduceLeDiff, Nat.reduceMul, Nat.reduceLT, reduceIte, Int.reduceToNat, w64_id, cast_succ])
    exact GR.of ⟨_, u2, t2, rfl, by omega, by omega, by omega, rfl⟩
theorem DrawSubsetOrbits_ok (H : List Blk) (ns : List Int) (hz : ∀ z ∈ ns, 0 ≤ z ∧ z < 256) (hl : ns.length ≤ 2000000) :
    ACalls Tryz.prog f_spec_DrawSubsetOrbits [ilY ns] H (fun r H' => H' = H ∧ ∃ (n : Int) (els : List (List Int)) (k : Int), r = .tup [.agg [I n, ilSS els], I k] ∧ els.length ≤ 40000 ∧ (∀ x ∈ els, x.length ≤ 40000)) := by
  have hbn := fun k => Bel_ilY k ns
  refine ACalls.introB s_spec_DrawSubsetOrbits (by simp) ?_; intro hB hA; unfold c_spec_DrawSubsetOrbits; simp (config := { maxSteps := 1000000 }) (disch := (first | omega | (simp only [go_sem]; try omega))) only [go_sem, Nat.reduceAdd, Nat.reduceEqDiff, Nat.reduceLeDiff, Nat.reduceMul, Nat.reduceLT, reduceIte, Int.reduceToNat, w64_id, cast_succ]
  repeat (first | (with_reducible first | refine SW.seq ?_ | refine SW.block ?_ | refine SW.rowC ?_ | refine SW.skip ?_ | refine SW.exit ?_ | intro _ | refine And.intro (by omega) ?_) | simp (config := { maxSteps := 1000000 }) (disch := (first | omega | (simp only [go_sem]; try omega))) only [go_sem, Nat.reduceAdd, Nat.reduceEqDiff, Nat.reduceLeDiff, Nat.reduceMul, Nat.reduceLT, reduceIte, Int.reduceToNat, w64_id, cast_succ])
  refine (l00From_ok _ ns).mono ?_
  rintro r H1 ⟨rfl, rfl⟩
  repeat (first | (with_reducible first | refine SW.seq ?_ | refine SW.block ?_ | refine SW.rowC ?_ | refine SW.skip ?_ | refine SW.exit ?_ | intro _ | refine And.intro (by omega) ?_) | simp (config := { maxSteps := 1000000 }) (disch := (first | omega | (simp only [go_sem]; try omega))) only [go_sem, Nat.reduceAdd, Nat.reduceEqDiff, Nat.reduceLeDiff, Nat.reduceMul, Nat.reduceLT, reduceIte, Int.reduceToNat, w64_id, cast_succ])
  refine (l25Draw_ok (H ++ [(⟨0, tyG, 1, [I 0, nilS]⟩ : Blk), srcB (ilY ns) 0 0]) (H.length + 1) (ilY ns) ns 0 0 (by simp) (codeOk_ilY hz hl) hbn (by omega)).mono ?_
  rintro r H1 ⟨n, els, u1, t1, rfl, n0, n33, q1, q2, ht1, rfl⟩
  have hs1 : ∀ b t u, (H ++ [(b : Blk), srcB (ilY ns) 0 0]).set (H.length + 1) (srcB (ilY ns) t u) = H ++ [b, srcB (ilY ns) t u] := fun b t u => by
    rw [List.set_append_right _ _ (by omega), Nat.add_sub_cancel_left]; rfl
  rw [hs1]
  repeat (first | (with_reducible first | refine SW.seq ?_ | refine SW.block ?_ | refine SW.rowC ?_ | refine SW.skip ?_ | refine SW.exit ?_ | intro _ | refine And.intro (by omega) ?_) | simp (config := { maxSteps := 1000000 }) (disch := (first | omega | (simp only [go_sem]; try omega))) only [go_sem, Nat.reduceAdd, Nat.reduceEqDiff, Nat.reduceLeDiff, Nat.reduceMul, Nat.reduceLT, reduceIte, Int.reduceToNat, w64_id, cast_succ])
  have dz : ∀ (b : Blk) (t : Nat) (u : Int) (K : AV → List Blk → Prop), t ≤ 500000 → (∀ (k u' : Int) (t' : Nat), -1 ≤ k → k ≤ 36 → t' ≤ t + 10 → K (I k) (H ++ [b, srcB (ilY ns) t' u', ⟨0, tyG, 1, [I n, ilSS els]⟩])) →
      ACalls Tryz.prog f_spec_l25DrawSize [.pc (H.length + 1) 0 0, .pc (H.length + 2) 0 0] (H ++ [b, srcB (ilY ns) t u, ⟨0, tyG, 1, [I n, ilSS els]⟩]) K := fun b t u K ht hK => by
    refine (l25DrawSize_ok _ (H.length + 1) (H.length + 2) (ilY ns) ns t u n (ilSS els) (by rw [List.getElem?_append_right (by omega), Nat.add_sub_cancel_left]; rfl) (by rw [List.getElem?_append_right (by omega), Nat.add_sub_cancel_left]; rfl) (by omega) (codeOk_ilY hz hl) hbn (by omega) (by omega)).mono ?_
    rintro r H1 ⟨k, u', t', rfl, k0, k1, ht', rfl⟩
    rw [List.set_append_right _ _ (by omega), Nat.add_sub_cancel_left]
    exact hK k u' t' k0 k1 ht'
  refine SW.mixR (fun E' H' => ∃ (k u' : Int) (t' : Nat), keep [2, 3] E' = [(2, .pc H.length 0 0), (3, I k)] ∧ H' = H ++ [⟨0, tyG, 1, [I n, ilSS els]⟩, srcB (ilY ns) t' u', ⟨0, tyG, 1, [I n, ilSS els]⟩]) ?_ ?_
  · simp (config := { maxSteps := 1000000 }) (disch := (first | omega | (simp only [go_sem]; try omega))) only [go_sem, Nat.reduceAdd, Nat.reduceEqDiff, Nat.reduceLeDiff, Nat.reduceMul, Nat.reduceLT, reduceIte, Int.reduceToNat, w64_id, cast_succ]
    refine ⟨?_, ?_⟩
    all_goals refine dz _ _ _ _ (by omega) ?_
    all_goals intro k u' t' k0 k1 ht'
    all_goals simp (config := { maxSteps := 1000000 }) (disch := (first | omega | (simp only [go_sem]; try omega))) only [go_sem, Nat.reduceAdd, Nat.reduceEqDiff, Nat.reduceLeDiff, Nat.reduceMul, Nat.reduceLT, reduceIte, Int.reduceToNat, w64_id, cast_succ]
    all_goals exact ⟨k, u', t', rfl, rfl⟩
  rintro E2 H2 ⟨k, u', t', hk, rfl⟩
  rw [hk]
  repeat (first | (with_reducible first | refine SW.seq ?_ | refine SW.block ?_ | refine SW.rowC ?_ | refine SW.skip ?_ | refine SW.exit ?_ | intro _ | refine And.intro (by omega) ?_) | simp (config := { maxSteps := 1000000 }) (disch := (first | omega | (simp only [go_sem]; try omega))) only [go_sem, Nat.reduceAdd, Nat.reduceEqDiff, Nat.reduceLeDiff, Nat.reduceMul, Nat.reduceLT, reduceIte, Int.reduceToNat, w64_id, cast_succ])
  refine SW.ret ?_
  refine FunPost.cell_tmp (cs := [I n, ilSS els]) (by simp (config := { maxSteps := 1000000 }) (disch := (first | omega | (simp only [go_sem]; try omega))) only [go_sem, Nat.reduceAdd, Nat.reduceEqDiff, Nat.reduceLeDiff, Nat.reduceMul, Nat.reduceLT, reduceIte, Int.reduceToNat, w64_id, cast_succ]) ?_
  exact GR.froz (r' := .tup [.agg [I n, ilSS els], I k]) (froz_tup2 (froz_agg2 (froz_I' _) (froz_ilSS _)) (froz_I' _)) ⟨rfl, n, els, k, rfl, q1, q2⟩
end Go.Proofs.YthogadbnddmkdaaGreat
