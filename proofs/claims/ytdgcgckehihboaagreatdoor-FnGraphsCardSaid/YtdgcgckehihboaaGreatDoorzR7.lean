/- Graphs of tables: the reference. -/
import Derived.Test.YtdgcgckehihboaaGreatDoorProg
import Derived.KernelRfl
import Derived.Test.YtdgcgckehihboaaGreatDoorzR6
import Derived.Test.YtdgcgckehihboaaGreatDoorzOW
import Derived.Test.YtdgcgckehihboaaGreatDoorzQO
set_option linter.unusedSimpArgs false
set_option linter.unusedVariables false
set_option linter.unusedSectionVars false
set_option maxHeartbeats 4000000
set_option maxRecDepth 100000
namespace Go.Proofs.YtdgcgckehihboaaGreatDoor
variable [Go.Av.DoorC]
open Go.Av
abbrev f_spec_l21Of : Nat := 61
def c_spec_l21Of : SC :=
 .seq (.reg [
     ⟨(some 4), .alloc 27 [(.slice none 0 0), (.slice none 0 0)], none⟩] [0, 1, 4])
 (.seq (.reg [
     ⟨(some 8), .mv (.tmp 0), none⟩,
     ⟨(some 9), .call 78 [(.tmp 8)], none⟩,
     ⟨(some 10), .bslice 49 2 0 [] [], none⟩,
     ⟨(some 11), .build [(.slice none 0 0), (.slice none 0 0)] [(0, 1, (.tmp 9)), (1, 1, (.tmp 10))], none⟩,
     ⟨(some 5), .alloc 27 [(.slice none 0 0), (.slice none 0 0)], none⟩,
     ⟨none, .store 2 (.tmp 5) (.tmp 11), none⟩] [0, 1, 4, 5])
 (.seq (.seq (.reg [
     ⟨(some 6), .mv (.const (.int .i64 0)), none⟩] [0, 1, 4, 5, 6])
 (.block 0 (.loop [0, 1, 4, 5, 6]
   (.seq (.seq (.reg [
       ⟨(some 12), .mv (.tmp 6), none⟩,
       ⟨(some 13), .mv (.tmp 0), none⟩,
       ⟨(some 14), .len (.tmp 13), none⟩,
       ⟨(some 15), .bin .lss (.tmp 12) (.tmp 14), none⟩] [0, 1, 4, 5, 6, 15])
   (.cond (.tmp 15)
    (.skip)
    (.exit 0)))
   (.seq (.block 1 (.seq (.reg [
        ⟨(some 18), .mv (.tmp 6), none⟩,
        ⟨(some 19), .bin .add (.tmp 18) (.const (.int .i64 1)), none⟩,
        ⟨(some 7), .mv (.tmp 19), none⟩] [0, 1, 4, 5, 6, 7])
    (.block 2 (.loop [0, 1, 4, 5, 6, 7]
      (.seq (.seq (.reg [
          ⟨(some 20), .mv (.tmp 7), none⟩,
          ⟨(some 21), .mv (.tmp 0), none⟩,
          ⟨(some 22), .len (.tmp 21), none⟩,
          ⟨(some 23), .bin .lss (.tmp 20) (.tmp 22), none⟩] [0, 1, 4, 5, 6, 7, 23])
      (.cond (.tmp 23)
       (.skip)
       (.exit 2)))
      (.seq (.block 3 (.seq (.reg [
           ⟨(some 26), .mv (.tmp 1), none⟩,
           ⟨(some 27), .mv (.tmp 6), none⟩,
           ⟨(some 28), .iaddr 1 (.tmp 26) (.tmp 27), none⟩,
           ⟨(some 29), .load 1 false (.tmp 28), none⟩,
           ⟨(some 30), .mv (.tmp 7), none⟩,
           ⟨(some 31), .iaddr 1 (.tmp 29) (.tmp 30), none⟩,
           ⟨(some 32), .load 1 false (.tmp 31), none⟩] [0, 1, 4, 5, 6, 7, 32])
       (.cond (.tmp 32)
        (.reg [
            ⟨(some 33), .faddr 1 (.tmp 5), none⟩,
            ⟨(some 34), .load 1 false (.tmp 33), none⟩,
            ⟨(some 35), .mv (.tmp 6), none⟩,
            ⟨(some 36), .mv (.tmp 7), none⟩,
            ⟨(some 37), .build [(.int .i64 0), (.int .i64 0)] [(0, 1, (.tmp 35)), (1, 1, (.tmp 36))], none⟩,
            ⟨(some 38), .bslice 49 2 1 [(.int .i64 0), (.int .i64 0)] [(0, (.tmp 37))], none⟩,
            ⟨(some 39), .app 49 2 16 (.tmp 34) (.tmp 38), none⟩,
            ⟨(some 40), .faddr 1 (.tmp 5), none⟩,
            ⟨none, .store 1 (.tmp 40) (.tmp 39), none⟩] [0, 1, 4, 5, 6, 7])
        (.skip))))
      (.reg [
          ⟨(some 24), .mv (.tmp 7), none⟩,
          ⟨(some 25), .bin .add (.tmp 24) (.const (.int .i64 1)), none⟩,
          ⟨(some 7), .mv (.tmp 25), none⟩] [0, 1, 4, 5, 6, 7])))))))
   (.reg [
       ⟨(some 16), .mv (.tmp 6), none⟩,
       ⟨(some 17), .bin .add (.tmp 16) (.const (.int .i64 1)), none⟩,
       ⟨(some 6), .mv (.tmp 17), none⟩] [0, 1, 4, 5, 6]))))))
 (.seq (.reg [
     ⟨(some 41), .load 2 true (.tmp 5), none⟩,
     ⟨none, .store 2 (.tmp 4) (.tmp 41), none⟩] [4])
 (.ret))))
theorem s_spec_l21Of : stripF Tryz.prog 61 [[0, 1, 4], [0, 1, 4, 5], [0, 1, 4, 5, 6], [0, 1, 4, 5, 6], [0, 1, 4, 5, 6, 15], [0, 1, 4, 5, 6, 7], [0, 1, 4, 5, 6, 7], [0, 1, 4, 5, 6, 7, 23], [0, 1, 4, 5, 6, 7, 32], [0, 1, 4, 5, 6, 7], [0, 1, 4, 5, 6, 7], [0, 1, 4, 5, 6], [4]] = some (c_spec_l21Of, [.cell 4 2], 42) := by kernel_rfl
def edR (f : Nat → Nat → Bool) (a b : Nat) : List (Int × Int) := ((List.range' (a + 1) (b - (a + 1))).filter (f a)).map fun (b : Nat) => ((a : Int), (b : Int))
def edT (n : Nat) (f : Nat → Nat → Bool) (a : Nat) : List (Int × Int) := (List.range a).flatMap fun a => edR f a n
theorem edT_succ (n : Nat) (f : Nat → Nat → Bool) (a : Nat) : edT n f (a + 1) = edT n f a ++ edR f a n := by unfold edT; rw [List.range_succ, List.flatMap_append]; simp
theorem edR_succ {f : Nat → Nat → Bool} {a b : Nat} (h : a + 1 ≤ b) : edR f a (b + 1) = edR f a b ++ if f a b = true then [((a : Int), (b : Int))] else [] := by
  unfold edR
  rw [show b + 1 - (a + 1) = (b - (a + 1)) + 1 by omega, List.range'_concat, List.filter_append, List.map_append]
  congr 1
  rw [show a + 1 + 1 * (b - (a + 1)) = b by omega, List.filter_cons]
  split <;> simp
theorem edR_len (f : Nat → Nat → Bool) (a b : Nat) : (edR f a b).length ≤ b := by
  unfold edR
  rw [List.length_map]
  have := List.length_filter_le (f a) (List.range' (a + 1) (b - (a + 1)))
  rw [List.length_range'] at this
  omega
theorem edT_len (n : Nat) (f : Nat → Nat → Bool) : ∀ a, (edT n f a).length ≤ a * n
  | 0 => by simp [edT]
  | a + 1 => by
    rw [edT_succ, List.length_append, Nat.add_mul]
    have := edT_len n f a
    have := edR_len f a n
    omega
theorem appRowXz {X : List Blk} {t ver n ty sz bytes : Nat} {cells cs : List AV} {K : AV → List Blk → Prop} (hX : X[t]? = some ⟨ver, ty, sz, cells⟩) (hl : cells.length = n * sz) (hn : (n + 1) * bytes ≤ 140737488355328) (hn2 : n + 1 ≤ 140737488355328) (hcl : cs.length = sz) (hc : ∀ c ∈ cs, c.cell1 = true) (hk : ∀ Z : List Blk, Z.length = X.length → Z[t]? = some ⟨ver + 1, ty, sz, cells ++ cs⟩ → (∀ j, j ≠ t → Z[j]? = X[j]?) → K (.nm t (ver + 1) 0 (n + 1)) Z) :
    AppX ty sz bytes X (.nm t ver 0 n) K (some (1, cs)) := by
  have htl : cells.take (n * sz) = cells := List.take_of_length_le (by omega)
  simp only [AppX, hX]
  refine ⟨by omega, hc, trivial, trivial, trivial, by omega, hn, hn2, ?_⟩
  rw [htl]
  exact hk _ List.length_set (List.getElem?_set_self (List.getElem?_eq_some_iff.1 hX).1) fun j hj => List.getElem?_set_ne (Ne.symm hj)
structure OfH (H X : List Blk) (n : Nat) (cols : List Int) (L : List (Int × Int)) : Prop where
  m0 : X[H.length]? = some ⟨0, tyGr, 1, [nilS, nilS]⟩
  m1 : X[H.length + 1]? = some ⟨1, 2, 1, cols.map I⟩
  m2 : X[H.length + 2]? = some ⟨L.length, tyE, 2, flatE L⟩
  m3 : X[H.length + 3]? = some ⟨0, tyGr, 1, [.nm (H.length + 1) 1 0 n, .nm (H.length + 2) L.length 0 L.length]⟩
  fr : ∀ j, j < H.length → X[j]? = H[j]?
theorem l21Of_own (H : List Blk) (cv : AV) (t ver : Nat) (rs : List Nat) (n : Nat) (cols : List Int) (f : Nat → Nat → Bool) (hc : RdS H cv cols) (hcl : cols.length = n) (hn : n ≤ 1000) (hgv : GrV Bv tyBB 4 H t ver 0 n rs (tabB n f)) :
    ACalls Tryz.prog f_spec_l21Of [cv, .nm t ver 0 n] H (fun r H' => ∃ ext v2, H' = H ++ ext ∧ r = .agg [.nm (H.length + 1) 1 0 n, .nm (H.length + 2) v2 0 (edT n f n).length] ∧ H'[H.length + 1]? = some ⟨1, 2, 1, cols.map I⟩ ∧ H'[H.length + 2]? = some ⟨v2, tyE, 2, flatE (edT n f n)⟩) := by
  have hcv : ∀ ext, aview (H ++ ext) cv = some (n, cols.map I) := fun ext => hcl ▸ aview_append hc ext
  refine ACalls.introB s_spec_l21Of (by simp) ?_; intro hB hA; unfold c_spec_l21Of; simp (config := { maxSteps := 1000000 }) (disch := (first | omega | (simp only [go_sem]; try omega))) only [go_sem, Nat.reduceAdd, Nat.reduceEqDiff, Nat.reduceLeDiff, Nat.reduceMul, Nat.reduceLT, reduceIte, Int.reduceToNat, w64_id, cast_succ]
  repeat (first | (with_reducible first | refine SW.seq ?_ | refine SW.block ?_ | refine SW.rowC ?_ | refine SW.skip ?_ | refine SW.exit ?_ | intro _ | refine And.intro (by omega) ?_) | simp (config := { maxSteps := 1000000 }) (disch := (first | omega | (simp only [go_sem]; try omega))) only [go_sem, Nat.reduceAdd, Nat.reduceEqDiff, Nat.reduceLeDiff, Nat.reduceMul, Nat.reduceLT, reduceIte, Int.reduceToNat, w64_id, cast_succ])
  refine (l00Own_ok _ cv cols (aview_append hc _) (by omega)).mono ?_
  rintro r H1 ⟨rfl, rfl⟩
  repeat (first | (with_reducible first | refine SW.seq ?_ | refine SW.block ?_ | refine SW.rowC ?_ | refine SW.skip ?_ | refine SW.exit ?_ | intro _ | refine And.intro (by omega) ?_) | simp (config := { maxSteps := 1000000 }) (disch := (first | omega | (simp only [go_sem]; try omega))) only [go_sem, Nat.reduceAdd, Nat.reduceEqDiff, Nat.reduceLeDiff, Nat.reduceMul, Nat.reduceLT, reduceIte, Int.reduceToNat, w64_id, cast_succ])
  rw [hcl]
  have hgX : ∀ X : List Blk, (∀ j, j < H.length → X[j]? = H[j]?) → GrV Bv tyBB 4 X t ver 0 n rs (tabB n f) := fun X hX => hgv.same fun j b _ hb => by
    rw [hX j (List.getElem?_eq_some_iff.1 hb).1]; exact hb
  refine SW.loopE (fun E0 H0 m E' X => ∃ (a : Nat), a ≤ n ∧ m = n - a ∧ E' = aput E0 6 (I a) ∧ OfH H X n cols (edT n f a)) n
    ⟨0, by omega, by omega, rfl, by simp, by simp, by simp [edT, flatE], by simp [edT], fun j hj => by rw [List.getElem?_append_left hj]⟩ ?_
  rintro m E' X ⟨a, ha, rfl, rfl, hX⟩
  have hcX : aview X cv = some (n, cols.map I) := by
    have hl := (List.getElem?_eq_some_iff.1 hX.m3).1
    obtain ⟨ext, rfl⟩ := ext_ofR (H := H) (by omega) hX.fr
    exact hcv ext
  simp (config := { maxSteps := 1000000 }) (disch := (first | omega | (simp only [go_sem]; try omega))) only [go_sem, Nat.reduceAdd, Nat.reduceEqDiff, Nat.reduceLeDiff, Nat.reduceMul, Nat.reduceLT, reduceIte, Int.reduceToNat, w64_id, cast_succ]
  repeat (first | (with_reducible first | refine SW.seq ?_ | refine SW.block ?_ | refine SW.rowC ?_ | refine SW.skip ?_ | refine SW.exit ?_ | intro _ | refine And.intro (by omega) ?_) | simp (config := { maxSteps := 1000000 }) (disch := (first | omega | (simp only [go_sem]; try omega))) only [go_sem, Nat.reduceAdd, Nat.reduceEqDiff, Nat.reduceLeDiff, Nat.reduceMul, Nat.reduceLT, reduceIte, Int.reduceToNat, w64_id, cast_succ, hcX])
  (first | refine SW.condD rfl (fun h2 => ?_) (fun h2 => ?_) | refine SW.condN rfl (fun h2 => ?_) (fun h2 => ?_) | refine SW.condNB rfl (fun h2 => ?_) (fun h2 => ?_) | refine SW.condB rfl (fun h2 => ?_) (fun h2 => ?_))
  · have han : a < n := by omega
    repeat (first | (with_reducible first | refine SW.seq ?_ | refine SW.block ?_ | refine SW.rowC ?_ | refine SW.skip ?_ | refine SW.exit ?_ | intro _ | refine And.intro (by omega) ?_) | simp (config := { maxSteps := 1000000 }) (disch := (first | omega | (simp only [go_sem]; try omega))) only [go_sem, Nat.reduceAdd, Nat.reduceEqDiff, Nat.reduceLeDiff, Nat.reduceMul, Nat.reduceLT, reduceIte, Int.reduceToNat, w64_id, cast_succ])
    refine SW.loopE (fun E0 H0 m E' Y => ∃ (b : Nat), a + 1 ≤ b ∧ b ≤ n ∧ m = n - b ∧ E' = aput E0 7 (I b) ∧ OfH H Y n cols (edT n f a ++ edR f a b)) (n - (a + 1))
      ⟨a + 1, by omega, by omega, rfl, by simp [go_sem], by simpa [edR] using hX⟩ ?_
    rintro m E' Y ⟨b, hb1, hb, rfl, rfl, hY⟩
    have hcY : aview Y cv = some (n, cols.map I) := by
      have hl := (List.getElem?_eq_some_iff.1 hY.m3).1
      obtain ⟨ext, rfl⟩ := ext_ofR (H := H) (by omega) hY.fr
      exact hcv ext
    have hsn := edR_succ (f := f) hb1
    have hLl : (edT n f a ++ edR f a b).length ≤ 2000000 := by
      have h1 := edT_len n f a
      have h2 := edR_len f a b
      have h3 : a * n ≤ 1000 * 1000 := Nat.mul_le_mul (by omega) (by omega)
      rw [List.length_append]; omega
    simp (config := { maxSteps := 1000000 }) (disch := (first | omega | (simp only [go_sem]; try omega))) only [go_sem, Nat.reduceAdd, Nat.reduceEqDiff, Nat.reduceLeDiff, Nat.reduceMul, Nat.reduceLT, reduceIte, Int.reduceToNat, w64_id, cast_succ]
    repeat (first | (with_reducible first | refine SW.seq ?_ | refine SW.block ?_ | refine SW.rowC ?_ | refine SW.skip ?_ | refine SW.exit ?_ | intro _ | refine And.intro (by omega) ?_) | simp (config := { maxSteps := 1000000 }) (disch := (first | omega | (simp only [go_sem]; try omega))) only [go_sem, Nat.reduceAdd, Nat.reduceEqDiff, Nat.reduceLeDiff, Nat.reduceMul, Nat.reduceLT, reduceIte, Int.reduceToNat, w64_id, cast_succ, hcY])
    (first | refine SW.condD rfl (fun h3 => ?_) (fun h3 => ?_) | refine SW.condN rfl (fun h3 => ?_) (fun h3 => ?_) | refine SW.condNB rfl (fun h3 => ?_) (fun h3 => ?_) | refine SW.condB rfl (fun h3 => ?_) (fun h3 => ?_))
    · have hbn : b < n := by omega
      have hgY := hgX Y hY.fr
      obtain ⟨ra, hra⟩ := hgY.get han
      have v1 := hgY.view
      have c1 := GrV.cell (rv := 0) (n := n) hra
      have r1 := hgY.row han hra
      have g1 : (((tabB n f).getD a []).map Bv)[b]? = some (Bv (f a b)) := by
        rw [List.getElem?_map, tabB_get _ han hbn]; rfl
      cases hf : f a b
      · rw [hf] at g1
        repeat (first | (with_reducible first | refine SW.seq ?_ | refine SW.block ?_ | refine SW.rowC ?_ | refine SW.skip ?_ | refine SW.exit ?_ | intro _ | refine And.intro (by omega) ?_) | simp (config := { maxSteps := 1000000 }) (disch := (first | omega | (simp only [go_sem]; try omega))) only [go_sem, Nat.reduceAdd, Nat.reduceEqDiff, Nat.reduceLeDiff, Nat.reduceMul, Nat.reduceLT, reduceIte, Int.reduceToNat, w64_id, cast_succ, v1, c1, r1, g1])
        refine SW.condF rfl ?_
        repeat (first | (with_reducible first | refine SW.seq ?_ | refine SW.block ?_ | refine SW.rowC ?_ | refine SW.skip ?_ | refine SW.exit ?_ | intro _ | refine And.intro (by omega) ?_) | simp (config := { maxSteps := 1000000 }) (disch := (first | omega | (simp only [go_sem]; try omega))) only [go_sem, Nat.reduceAdd, Nat.reduceEqDiff, Nat.reduceLeDiff, Nat.reduceMul, Nat.reduceLT, reduceIte, Int.reduceToNat, w64_id, cast_succ])
        refine SLoop.next (n - (b + 1)) (by omega) ⟨b + 1, by omega, by omega, rfl, by simp [go_sem], ?_⟩
        rw [hsn, hf, if_neg (by simp), List.append_nil]
        exact hY
      · rw [hf] at g1 hsn
        rw [if_pos rfl] at hsn
        have hsn2 : edT n f a ++ edR f a (b + 1) = (edT n f a ++ edR f a b) ++ [((a : Int), (b : Int))] := by rw [hsn, List.append_assoc]
        generalize hL : edT n f a ++ edR f a b = L at *
        have ha3 := fun o => pc_alive (off := o) hY.m3
        have hl3 := fun o => pc_ld (off := o) hY.m3
        repeat (first | (with_reducible first | refine SW.seq ?_ | refine SW.block ?_ | refine SW.rowC ?_ | refine SW.skip ?_ | refine SW.exit ?_ | intro _ | refine And.intro (by omega) ?_) | simp (config := { maxSteps := 1000000 }) (disch := (first | omega | (simp only [go_sem]; try omega))) only [go_sem, Nat.reduceAdd, Nat.reduceEqDiff, Nat.reduceLeDiff, Nat.reduceMul, Nat.reduceLT, reduceIte, Int.reduceToNat, w64_id, cast_succ, v1, c1, r1, g1])
        refine SW.condT rfl ?_
        repeat (first | (with_reducible first | refine SW.seq ?_ | refine SW.block ?_ | refine SW.rowC ?_ | refine SW.skip ?_ | refine SW.exit ?_ | intro _ | refine And.intro (by omega) ?_) | simp (config := { maxSteps := 1000000 }) (disch := (first | omega | (simp only [go_sem]; try omega))) only [go_sem, Nat.reduceAdd, Nat.reduceEqDiff, Nat.reduceLeDiff, Nat.reduceMul, Nat.reduceLT, reduceIte, Int.reduceToNat, w64_id, cast_succ, ha3, hl3])
        have k2 := get_appU hY.m2 [⟨0, tyE, 2, [I (a : Int), I (b : Int)]⟩]
        have hlm := (List.getElem?_eq_some_iff.1 hY.m3).1
        refine appRowXz k2 (by rw [flatE_length]) (by omega) (by omega) rfl (by simp [AV.cell1]; exact ⟨rfl, rfl⟩) ?_
        intro Z hZl k2' hZf
        have hYl : (Y ++ [(⟨0, tyE, 2, [I (a : Int), I (b : Int)]⟩ : Blk)]).length = Y.length + 1 := by simp
        have hfr : ∀ j, j ≠ H.length + 2 → j < Y.length → Z[j]? = Y[j]? := fun j hj hl => by
          rw [hZf j hj, List.getElem?_append_left hl]
        have z0 := (hfr H.length (by omega) (by omega)).trans hY.m0
        have z1 := (hfr (H.length + 1) (by omega) (by omega)).trans hY.m1
        have z3 := (hfr (H.length + 3) (by omega) (by omega)).trans hY.m3
        have z3l := (List.getElem?_eq_some_iff.1 z3).1
        have w1 : astore Z [.nm (H.length + 2) (L.length + 1) 0 (L.length + 1)] (.pc (H.length + 3) 0 1) = some (Z.set (H.length + 3) ⟨0, tyGr, 1, [.nm (H.length + 1) 1 0 n, .nm (H.length + 2) (L.length + 1) 0 (L.length + 1)]⟩) := by rw [pc_st z3 (by simp)]; rfl
        have za3 := fun o => pc_alive (off := o) z3
        repeat (first | (with_reducible first | refine SW.seq ?_ | refine SW.block ?_ | refine SW.rowC ?_ | refine SW.skip ?_ | refine SW.exit ?_ | intro _ | refine And.intro (by omega) ?_) | simp (config := { maxSteps := 1000000 }) (disch := (first | omega | (simp only [go_sem]; try omega))) only [go_sem, Nat.reduceAdd, Nat.reduceEqDiff, Nat.reduceLeDiff, Nat.reduceMul, Nat.reduceLT, reduceIte, Int.reduceToNat, w64_id, cast_succ, za3, w1])
        refine SLoop.next (n - (b + 1)) (by omega) ⟨b + 1, by omega, by omega, rfl, by simp [go_sem], ?_⟩
        rw [hsn2]
        refine ⟨by rw [List.getElem?_set_ne (by omega)]; exact z0, by rw [List.getElem?_set_ne (by omega)]; exact z1, ?_, ?_, fun j hj => ?_⟩
        · rw [List.getElem?_set_ne (by omega), k2', flatE_snoc, List.length_append]; rfl
        · rw [List.getElem?_set_self z3l, List.length_append]; rfl
        · rw [List.getElem?_set_ne (by omega), hfr j (by omega) (by omega)]; exact hY.fr j hj
    · have : b = n := by omega
      subst this
      repeat (first | (with_reducible first | refine SW.seq ?_ | refine SW.block ?_ | refine SW.rowC ?_ | refine SW.skip ?_ | refine SW.exit ?_ | intro _ | refine And.intro (by omega) ?_) | simp (config := { maxSteps := 1000000 }) (disch := (first | omega | (simp only [go_sem]; try omega))) only [go_sem, Nat.reduceAdd, Nat.reduceEqDiff, Nat.reduceLeDiff, Nat.reduceMul, Nat.reduceLT, reduceIte, Int.reduceToNat, w64_id, cast_succ])
      refine SLoop.next (b - (a + 1)) (by omega) ⟨a + 1, by omega, rfl, by simp [go_sem], ?_⟩
      rw [edT_succ]
      exact hY
  · have : a = n := by omega
    subst this
    repeat (first | (with_reducible first | refine SW.seq ?_ | refine SW.block ?_ | refine SW.rowC ?_ | refine SW.skip ?_ | refine SW.exit ?_ | intro _ | refine And.intro (by omega) ?_) | simp (config := { maxSteps := 1000000 }) (disch := (first | omega | (simp only [go_sem]; try omega))) only [go_sem, Nat.reduceAdd, Nat.reduceEqDiff, Nat.reduceLeDiff, Nat.reduceMul, Nat.reduceLT, reduceIte, Int.reduceToNat, w64_id, cast_succ])
    have hls := fun l (hl : 0 + l ≤ 2) => pc_lds (off := 0) (n := l) hX.m3 (by simpa using hl)
    have ha0 := fun o => pc_alive (off := o) hX.m0
    have w0 : astore X [.nm (H.length + 1) 1 0 a, .nm (H.length + 2) (edT a f a).length 0 (edT a f a).length] (.pc H.length 0 0) = some (X.set H.length ⟨0, tyGr, 1, [.nm (H.length + 1) 1 0 a, .nm (H.length + 2) (edT a f a).length 0 (edT a f a).length]⟩) := by rw [pc_st hX.m0 (by simp)]; rfl
    have ha3 := fun o => pc_alive (off := o) hX.m3
    repeat (first | (with_reducible first | refine SW.seq ?_ | refine SW.block ?_ | refine SW.rowC ?_ | refine SW.skip ?_ | refine SW.exit ?_ | intro _ | refine And.intro (by omega) ?_) | simp (config := { maxSteps := 1000000 }) (disch := (first | omega | (simp only [go_sem]; try omega))) only [go_sem, Nat.reduceAdd, Nat.reduceEqDiff, Nat.reduceLeDiff, Nat.reduceMul, Nat.reduceLT, reduceIte, Int.reduceToNat, w64_id, cast_succ, hls, ha0, ha3, w0])
    have hlm := (List.getElem?_eq_some_iff.1 hX.m3).1
    have q0 : (X.set H.length (⟨0, tyGr, 1, [.nm (H.length + 1) 1 0 a, .nm (H.length + 2) (edT a f a).length 0 (edT a f a).length]⟩ : Blk))[H.length]? = some ⟨0, tyGr, 1, [.nm (H.length + 1) 1 0 a, .nm (H.length + 2) (edT a f a).length 0 (edT a f a).length]⟩ := List.getElem?_set_self (by omega)
    have q1 : (X.set H.length (⟨0, tyGr, 1, [.nm (H.length + 1) 1 0 a, .nm (H.length + 2) (edT a f a).length 0 (edT a f a).length]⟩ : Blk))[H.length + 1]? = some ⟨1, 2, 1, cols.map I⟩ := by rw [List.getElem?_set_ne (by omega)]; exact hX.m1
    have q2 : (X.set H.length (⟨0, tyGr, 1, [.nm (H.length + 1) 1 0 a, .nm (H.length + 2) (edT a f a).length 0 (edT a f a).length]⟩ : Blk))[H.length + 2]? = some ⟨(edT a f a).length, tyE, 2, flatE (edT a f a)⟩ := by rw [List.getElem?_set_ne (by omega)]; exact hX.m2
    obtain ⟨ext, he⟩ := ext_ofR (H := H) (H1 := X.set H.length (⟨0, tyGr, 1, [.nm (H.length + 1) 1 0 a, .nm (H.length + 2) (edT a f a).length 0 (edT a f a).length]⟩ : Blk)) (by rw [List.length_set]; omega) (fun j hj => by rw [List.getElem?_set_ne (by omega)]; exact hX.fr j hj)
    rw [he] at q0 q1 q2 ⊢
    refine SW.ret (FunPost.cell (cs := [.nm (H.length + 1) 1 0 a, .nm (H.length + 2) (edT a f a).length 0 (edT a f a).length]) ?_ (GR.of ⟨ext, _, rfl, rfl, q1, q2⟩))
    rw [show aget [(4, AV.pc H.length 0 0)] 4 = AV.pc H.length 0 0 from rfl]
    exact pc_lds (off := 0) (n := 2) q0 (by simp)
end Go.Proofs.YtdgcgckehihboaaGreatDoor
