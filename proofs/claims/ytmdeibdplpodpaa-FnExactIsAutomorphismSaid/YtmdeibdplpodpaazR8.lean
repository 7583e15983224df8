/- Relabeled graphs: the reference. -/
import Derived.Test.YtmdeibdplpodpaaProg
import Derived.KernelRfl
import Derived.Test.YtmdeibdplpodpaazR7
set_option linter.unusedSimpArgs false
set_option linter.unusedVariables false
set_option maxHeartbeats 4000000
set_option maxRecDepth 100000
namespace Go.Proofs.Ytmdeibdplpodpaa
open Go.Av
abbrev f_spec_l21Relabel : Nat := 28
def c_spec_l21Relabel : SC :=
 .seq (.reg [
     ⟨(some 2), .box 30 (.tmp 0), none⟩,
     ⟨(some 4), .alloc 30 [(.slice none 0 0), (.slice none 0 0)], none⟩] [1, 2, 4])
 (.seq (.reg [
     ⟨(some 10), .mv (.tmp 1), none⟩,
     ⟨(some 11), .len (.tmp 10), none⟩,
     ⟨(some 12), .mslice 2 8 (.int .i64 0) (.tmp 11) (.tmp 11), none⟩,
     ⟨(some 5), .mv (.tmp 12), none⟩] [1, 2, 4, 5])
 (.seq (.seq (.reg [
     ⟨(some 6), .mv (.const (.int .i64 0)), none⟩] [1, 2, 4, 5, 6])
 (.block 0 (.loop [1, 2, 4, 5, 6]
   (.seq (.seq (.reg [
       ⟨(some 13), .mv (.tmp 6), none⟩,
       ⟨(some 14), .mv (.tmp 1), none⟩,
       ⟨(some 15), .len (.tmp 14), none⟩,
       ⟨(some 16), .bin .lss (.tmp 13) (.tmp 15), none⟩] [1, 2, 4, 5, 6, 16])
   (.cond (.tmp 16)
    (.skip)
    (.exit 0)))
   (.seq (.block 1 (.reg [
        ⟨(some 19), .mv (.tmp 5), none⟩,
        ⟨(some 20), .mv (.tmp 1), none⟩,
        ⟨(some 21), .mv (.tmp 6), none⟩,
        ⟨(some 22), .iaddr 1 (.tmp 20) (.tmp 21), none⟩,
        ⟨(some 23), .load 1 false (.tmp 22), none⟩,
        ⟨(some 24), .faddr 0 (.tmp 2), none⟩,
        ⟨(some 25), .load 1 false (.tmp 24), none⟩,
        ⟨(some 26), .mv (.tmp 6), none⟩,
        ⟨(some 27), .iaddr 1 (.tmp 25) (.tmp 26), none⟩,
        ⟨(some 28), .load 1 false (.tmp 27), none⟩,
        ⟨(some 29), .iaddr 1 (.tmp 19) (.tmp 23), none⟩,
        ⟨none, .store 1 (.tmp 29) (.tmp 28), none⟩] [1, 2, 4, 5, 6]))
   (.reg [
       ⟨(some 17), .mv (.tmp 6), none⟩,
       ⟨(some 18), .bin .add (.tmp 17) (.const (.int .i64 1)), none⟩,
       ⟨(some 6), .mv (.tmp 18), none⟩] [1, 2, 4, 5, 6]))))))
 (.seq (.reg [
     ⟨(some 30), .mv (.tmp 5), none⟩,
     ⟨(some 31), .build [(.slice none 0 0), (.slice none 0 0)] [(0, 1, (.tmp 30))], none⟩,
     ⟨(some 32), .call 56 [(.tmp 31)], none⟩,
     ⟨(some 7), .mv (.tmp 32), none⟩] [1, 2, 4, 5, 7])
 (.seq (.seq (.reg [
     ⟨(some 8), .mv (.const (.int .i64 0)), none⟩] [1, 2, 4, 5, 7, 8])
 (.block 2 (.loop [1, 2, 4, 5, 7, 8]
   (.seq (.seq (.reg [
       ⟨(some 33), .mv (.tmp 8), none⟩,
       ⟨(some 34), .faddr 1 (.tmp 2), none⟩,
       ⟨(some 35), .load 1 false (.tmp 34), none⟩,
       ⟨(some 36), .len (.tmp 35), none⟩,
       ⟨(some 37), .bin .lss (.tmp 33) (.tmp 36), none⟩] [1, 2, 4, 5, 7, 8, 37])
   (.cond (.tmp 37)
    (.skip)
    (.exit 2)))
   (.seq (.block 3 (.seq (.reg [
        ⟨(some 40), .faddr 1 (.tmp 2), none⟩,
        ⟨(some 41), .load 1 false (.tmp 40), none⟩,
        ⟨(some 42), .mv (.tmp 8), none⟩,
        ⟨(some 43), .iaddr 2 (.tmp 41) (.tmp 42), none⟩,
        ⟨(some 44), .load 2 true (.tmp 43), none⟩,
        ⟨(some 9), .alloc 61 [(.int .i64 0), (.int .i64 0)], none⟩,
        ⟨none, .store 2 (.tmp 9) (.tmp 44), none⟩] [1, 2, 4, 5, 7, 8, 9])
    (.seq (.reg [
        ⟨(some 45), .mv (.tmp 7), none⟩,
        ⟨(some 46), .mv (.tmp 1), none⟩,
        ⟨(some 47), .faddr 0 (.tmp 9), none⟩,
        ⟨(some 48), .load 1 false (.tmp 47), none⟩,
        ⟨(some 49), .iaddr 1 (.tmp 46) (.tmp 48), none⟩,
        ⟨(some 50), .load 1 false (.tmp 49), none⟩,
        ⟨(some 51), .iaddr 1 (.tmp 45) (.tmp 50), none⟩,
        ⟨(some 52), .load 1 false (.tmp 51), none⟩,
        ⟨(some 53), .mv (.tmp 1), none⟩,
        ⟨(some 54), .faddr 1 (.tmp 9), none⟩,
        ⟨(some 55), .load 1 false (.tmp 54), none⟩,
        ⟨(some 56), .iaddr 1 (.tmp 53) (.tmp 55), none⟩,
        ⟨(some 57), .load 1 false (.tmp 56), none⟩,
        ⟨(some 58), .iaddr 1 (.tmp 52) (.tmp 57), none⟩,
        ⟨none, .store 1 (.tmp 58) (.const (.bool true)), none⟩] [1, 2, 4, 5, 7, 8, 9])
    (.reg [
        ⟨(some 59), .mv (.tmp 7), none⟩,
        ⟨(some 60), .mv (.tmp 1), none⟩,
        ⟨(some 61), .faddr 1 (.tmp 9), none⟩,
        ⟨(some 62), .load 1 false (.tmp 61), none⟩,
        ⟨(some 63), .iaddr 1 (.tmp 60) (.tmp 62), none⟩,
        ⟨(some 64), .load 1 false (.tmp 63), none⟩,
        ⟨(some 65), .iaddr 1 (.tmp 59) (.tmp 64), none⟩,
        ⟨(some 66), .load 1 false (.tmp 65), none⟩,
        ⟨(some 67), .mv (.tmp 1), none⟩,
        ⟨(some 68), .faddr 0 (.tmp 9), none⟩,
        ⟨(some 69), .load 1 false (.tmp 68), none⟩,
        ⟨(some 70), .iaddr 1 (.tmp 67) (.tmp 69), none⟩,
        ⟨(some 71), .load 1 false (.tmp 70), none⟩,
        ⟨(some 72), .iaddr 1 (.tmp 66) (.tmp 71), none⟩,
        ⟨none, .store 1 (.tmp 72) (.const (.bool true)), none⟩] [1, 2, 4, 5, 7, 8]))))
   (.reg [
       ⟨(some 38), .mv (.tmp 8), none⟩,
       ⟨(some 39), .bin .add (.tmp 38) (.const (.int .i64 1)), none⟩,
       ⟨(some 8), .mv (.tmp 39), none⟩] [1, 2, 4, 5, 7, 8]))))))
 (.seq (.reg [
     ⟨(some 73), .mv (.tmp 5), none⟩,
     ⟨(some 74), .mv (.tmp 7), none⟩,
     ⟨(some 75), .call 57 [(.tmp 73), (.tmp 74)], none⟩,
     ⟨none, .store 2 (.tmp 4) (.tmp 75), none⟩] [4])
 (.ret))))))
theorem s_spec_l21Relabel : stripF Try.prog 28 [[1, 2, 4], [1, 2, 4, 5], [1, 2, 4, 5, 6], [1, 2, 4, 5, 6], [1, 2, 4, 5, 6, 16], [1, 2, 4, 5, 6], [1, 2, 4, 5, 6], [1, 2, 4, 5, 7], [1, 2, 4, 5, 7, 8], [1, 2, 4, 5, 7, 8], [1, 2, 4, 5, 7, 8, 37], [1, 2, 4, 5, 7, 8, 9], [1, 2, 4, 5, 7, 8, 9], [1, 2, 4, 5, 7, 8], [1, 2, 4, 5, 7, 8], [4]] = some (c_spec_l21Relabel, [.cell 4 2], 76) := by kernel_rfl
theorem relE_nat {p : List Int} {n a b : Nat} (hp : ∀ v, v < n → ∃ k : Nat, p.getD v 0 = k ∧ k < n) (ha : a < n) (hb : b < n) : ∃ x y : Nat, relE p ((a : Int), (b : Int)) = ((x : Int), (y : Int)) ∧ x < n ∧ y < n ∧ p.getD a 0 = x ∧ p.getD b 0 = y := by
  obtain ⟨x, hx, hx2⟩ := hp a ha
  obtain ⟨y, hy, hy2⟩ := hp b hb
  refine ⟨x, y, ?_, hx2, hy2, hx, hy⟩
  unfold relE
  rw [Int.toNat_natCast, Int.toNat_natCast, hx, hy]
theorem l21Relabel_fn (cols p : List Int) (es : List (Int × Int)) (hg : grB cols es = true) (hp : ordB cols.length p = true) : PFn Try.prog f_spec_l21Relabel [.agg [ilS cols, ilE es], ilS p] (.agg [ilS (relC cols p cols.length), ilE (edT cols.length (adjF (es.map (relE p))) cols.length)]) := by
  intro H
  unfold ordB at hp
  rw [decide_eq_true_eq] at hp
  obtain ⟨hpl, hpr, hpn⟩ := hp
  have hgf : cols.length ≤ 64 ∧ es.length ≤ 512 ∧ ∀ e ∈ es, 0 ≤ e.1 ∧ e.1 < e.2 ∧ e.2 < cols.length := by
    unfold grB edsB colsB edB at hg
    simp only [Bool.and_eq_true, decide_eq_true_eq, List.all_eq_true] at hg
    exact ⟨hg.2.1.1, hg.2.2, fun e he => hg.1.1 e he⟩
  have hcn : ∀ v, v < cols.length → ∃ k : Nat, p.getD v 0 = k ∧ k < cols.length := fun v hv => by
    have := hpr (p.getD v 0) (by rw [getD_get (by omega)]; exact List.getElem_mem _)
    obtain ⟨k, hk⟩ := Int.eq_ofNat_of_zero_le this.1
    exact ⟨k, hk, by omega⟩
  generalize hnn : cols.length = n at *
  refine ACalls.introB s_spec_l21Relabel (by simp) ?_; intro hB hA; unfold c_spec_l21Relabel; simp (config := { maxSteps := 1000000 }) (disch := (first | omega | (simp only [go_sem]; try omega))) only [go_sem, Nat.reduceAdd, Nat.reduceEqDiff, Nat.reduceLeDiff, Nat.reduceMul, Nat.reduceLT, reduceIte, Int.reduceToNat, w64_id, cast_succ]
  repeat (first | (with_reducible first | refine SW.seq ?_ | refine SW.block ?_ | refine SW.rowC ?_ | refine SW.skip ?_ | refine SW.exit ?_ | intro _ | refine And.intro (by omega) ?_) | simp (config := { maxSteps := 1000000 }) (disch := (first | omega | (simp only [go_sem]; try omega))) only [go_sem, Nat.reduceAdd, Nat.reduceEqDiff, Nat.reduceLeDiff, Nat.reduceMul, Nat.reduceLT, reduceIte, Int.reduceToNat, w64_id, cast_succ, hpl])
  refine SW.loopE (fun E0 H0 m E' H' => ∃ (i : Nat), i ≤ n ∧ m = n - i ∧ E' = aput E0 6 (I i) ∧ H' = H ++ [⟨0, tyGr, 1, [ilS cols, ilE es]⟩, ⟨0, tyGr, 1, [nilS, nilS]⟩, ⟨0, 2, 1, (relC cols p i).map I⟩]) n
    ⟨0, by omega, by omega, rfl, by simp [relC, hnn]⟩ ?_
  rintro m E' H' ⟨i, hi, rfl, rfl, rfl⟩
  have hsn := relC_succ cols p i
  have hrl := relC_len cols p i
  rw [hnn] at hrl
  generalize hR : relC cols p i = R at *
  simp (config := { maxSteps := 1000000 }) (disch := (first | omega | (simp only [go_sem]; try omega))) only [go_sem, Nat.reduceAdd, Nat.reduceEqDiff, Nat.reduceLeDiff, Nat.reduceMul, Nat.reduceLT, reduceIte, Int.reduceToNat, w64_id, cast_succ]
  repeat (first | (with_reducible first | refine SW.seq ?_ | refine SW.block ?_ | refine SW.rowC ?_ | refine SW.skip ?_ | refine SW.exit ?_ | intro _ | refine And.intro (by omega) ?_) | simp (config := { maxSteps := 1000000 }) (disch := (first | omega | (simp only [go_sem]; try omega))) only [go_sem, Nat.reduceAdd, Nat.reduceEqDiff, Nat.reduceLeDiff, Nat.reduceMul, Nat.reduceLT, reduceIte, Int.reduceToNat, w64_id, cast_succ, hpl])
  (first | refine SW.condD rfl (fun h2 => ?_) (fun h2 => ?_) | refine SW.condN rfl (fun h2 => ?_) (fun h2 => ?_) | refine SW.condNB rfl (fun h2 => ?_) (fun h2 => ?_) | refine SW.condB rfl (fun h2 => ?_) (fun h2 => ?_))
  · have hin : i < n := by omega
    obtain ⟨k, hk, hkn⟩ := hcn i hin
    rw [hk, Int.toNat_natCast] at hsn
    have hil : i < p.length := by omega
    have hil2 : i < cols.length := by omega
    repeat (first | (with_reducible first | refine SW.seq ?_ | refine SW.block ?_ | refine SW.rowC ?_ | refine SW.skip ?_ | refine SW.exit ?_ | intro _ | refine And.intro (by omega) ?_) | simp (config := { maxSteps := 1000000 }) (disch := (first | omega | (simp only [go_sem]; try omega))) only [go_sem, Nat.reduceAdd, Nat.reduceEqDiff, Nat.reduceLeDiff, Nat.reduceMul, Nat.reduceLT, reduceIte, Int.reduceToNat, w64_id, cast_succ, hk, hrl])
    refine SLoop.next (n - (i + 1)) (by omega) ⟨i + 1, by omega, rfl, by simp [go_sem], by rw [hsn]⟩
  · have : i = n := by omega
    subst this
    repeat (first | (with_reducible first | refine SW.seq ?_ | refine SW.block ?_ | refine SW.rowC ?_ | refine SW.skip ?_ | refine SW.exit ?_ | intro _ | refine And.intro (by omega) ?_) | simp (config := { maxSteps := 1000000 }) (disch := (first | omega | (simp only [go_sem]; try omega))) only [go_sem, Nat.reduceAdd, Nat.reduceEqDiff, Nat.reduceLeDiff, Nat.reduceMul, Nat.reduceLT, reduceIte, Int.reduceToNat, w64_id, cast_succ])
    have hrd : RdS (H ++ [⟨0, tyGr, 1, [ilS cols, ilE es]⟩, ⟨0, tyGr, 1, [nilS, nilS]⟩, ⟨0, 2, 1, R.map I⟩]) (.nm (H.length + 2) 0 0 i) R := by
      have := view_nm (H := H ++ [⟨0, tyGr, 1, [ilS cols, ilE es]⟩, ⟨0, tyGr, 1, [nilS, nilS]⟩, ⟨0, 2, 1, R.map I⟩]) (r := H.length + 2) (ver := 0) (ty := 2) (cells := R.map I) (n := i) (by rw [List.getElem?_append_right (by omega), Nat.add_sub_cancel_left]; rfl) (by rw [List.length_map, hrl])
      unfold RdS
      rw [hrl]; exact this
    have htab := l21Table_ok _ (.nm (H.length + 2) 0 0 i) nilS R [] ⟨rfl, rfl⟩ ⟨rfl, rfl⟩ hrd rfl (by omega) (by simp) (by simp)
    rw [hrl] at htab
    refine htab.mono ?_
    rintro r X ⟨ext, t, ver, rs, rfl, rfl, hgv, hrn, ht, htb, hrb⟩
    simp only [List.length_append, List.length_cons, List.length_nil] at htb hrb
    repeat (first | (with_reducible first | refine SW.seq ?_ | refine SW.block ?_ | refine SW.rowC ?_ | refine SW.skip ?_ | refine SW.exit ?_ | intro _ | refine And.intro (by omega) ?_) | simp (config := { maxSteps := 1000000 }) (disch := (first | omega | (simp only [go_sem]; try omega))) only [go_sem, Nat.reduceAdd, Nat.reduceEqDiff, Nat.reduceLeDiff, Nat.reduceMul, Nat.reduceLT, reduceIte, Int.reduceToNat, w64_id, cast_succ])
    rw [List.append_assoc] at hgv
    simp only [List.cons_append, List.nil_append] at hgv
    refine SW.loopE (fun E0 H0 m E' Y => ∃ (pre post : List (Int × Int)), es = pre ++ post ∧ m = post.length ∧ E' = aput E0 8 (I pre.length) ∧ Y[H.length]? = some ⟨0, tyGr, 1, [ilS cols, ilE es]⟩ ∧ Y[H.length + 1]? = some ⟨0, tyGr, 1, [nilS, nilS]⟩ ∧ Y[H.length + 2]? = some ⟨0, 2, 1, R.map I⟩ ∧ GrV Bv tyBB 4 Y t ver 0 i rs (tabB i (adjF (pre.map (relE p)))) ∧ ∀ j, j < H.length → Y[j]? = H[j]?) es.length
      ⟨[], es, rfl, rfl, rfl, by simp, by simp, by simp, hgv, fun j hj => by rw [List.getElem?_append_left hj]⟩ ?_
    clear hgv
    rintro m E' Y ⟨pre, post, hq, rfl, rfl, m0, m1, m2, hgv, hfY⟩
    have ha0 := fun o => pc_alive (off := o) m0
    have hl0 := fun o => pc_ld (off := o) m0
    have hYl := (List.getElem?_eq_some_iff.1 m2).1
    simp (config := { maxSteps := 1000000 }) (disch := (first | omega | (simp only [go_sem]; try omega))) only [go_sem, Nat.reduceAdd, Nat.reduceEqDiff, Nat.reduceLeDiff, Nat.reduceMul, Nat.reduceLT, reduceIte, Int.reduceToNat, w64_id, cast_succ]
    repeat (first | (with_reducible first | refine SW.seq ?_ | refine SW.block ?_ | refine SW.rowC ?_ | refine SW.skip ?_ | refine SW.exit ?_ | intro _ | refine And.intro (by omega) ?_) | simp (config := { maxSteps := 1000000 }) (disch := (first | omega | (simp only [go_sem]; try omega))) only [go_sem, Nat.reduceAdd, Nat.reduceEqDiff, Nat.reduceLeDiff, Nat.reduceMul, Nat.reduceLT, reduceIte, Int.reduceToNat, w64_id, cast_succ, ha0, hl0])
    (first | refine SW.condD rfl (fun h3 => ?_) (fun h3 => ?_) | refine SW.condN rfl (fun h3 => ?_) (fun h3 => ?_) | refine SW.condNB rfl (fun h3 => ?_) (fun h3 => ?_) | refine SW.condB rfl (fun h3 => ?_) (fun h3 => ?_))
    · obtain ⟨x, post, rfl, hg, -⟩ := consOf (d := (0, 0)) hq (by omega)
      have hx := hgf.2.2 x (by rw [hq]; simp)
      have l1 : ∀ H, acells H 2 (.el (ilE es) (pre.length * 2)) = some [I x.1, I x.2] := fun H => by
        have := (rd_ilE H es).ld (j := pre.length) (by omega)
        rwa [hg] at this
      obtain ⟨xa, xb⟩ := x
      simp only at hx l1
      obtain ⟨xa, rfl⟩ := Int.eq_ofNat_of_zero_le hx.1
      obtain ⟨xb, rfl⟩ := Int.eq_ofNat_of_zero_le (show 0 ≤ xb by omega)
      obtain ⟨ya, yb, hrel, g1, g2, hpa, hpb⟩ := relE_nat (n := i) hcn (a := xa) (b := xb) (by omega) (by omega)
      have q1 : xa < p.length := by omega
      have q2 : xb < p.length := by omega
      obtain ⟨ra, hra⟩ := hgv.get g1
      obtain ⟨rb, hrb2⟩ := hgv.get g2
      have hram := List.mem_of_getElem? hra
      have hrbm := List.mem_of_getElem? hrb2
      have hraY := (List.getElem?_eq_some_iff.1 (hgv.rows _ _ hra)).1
      have hrbY := (List.getElem?_eq_some_iff.1 (hgv.rows _ _ hrb2)).1
      have hra0 := hrb ra hram
      have hrb0 := hrb rb hrbm
      have hgv1 : GrV Bv tyBB 4 (Y ++ [⟨0, tyE, 1, [I (xa : Int), I (xb : Int)]⟩]) t ver 0 i rs (tabB i (adjF (pre.map (relE p)))) := hgv.same fun j b _ hb => get_appU hb _
      have ev1 := hgv1.view
      have ec1 := GrV.cell (rv := 0) (n := i) hra
      have er1 := hgv1.row g1 hra
      have es1 := hgv1.store g1 g2 hra true
      have hgv2 := hgv1.set hrn ht g1 hra true (y := yb)
      have me : (Y ++ [(⟨0, tyE, 1, [I (xa : Int), I (xb : Int)]⟩ : Blk)])[Y.length]? = some ⟨0, tyE, 1, [I (xa : Int), I (xb : Int)]⟩ := by rw [List.getElem?_append_right (Nat.le_refl _), Nat.sub_self]; rfl
      have hYl1 : (Y ++ [(⟨0, tyE, 1, [I (xa : Int), I (xb : Int)]⟩ : Blk)]).length = Y.length + 1 := by simp
      repeat (first | (with_reducible first | refine SW.seq ?_ | refine SW.block ?_ | refine SW.rowC ?_ | refine SW.skip ?_ | refine SW.exit ?_ | intro _ | refine And.intro (by omega) ?_) | simp (config := { maxSteps := 1000000 }) (disch := (first | omega | (simp only [go_sem]; try omega))) only [go_sem, Nat.reduceAdd, Nat.reduceEqDiff, Nat.reduceLeDiff, Nat.reduceMul, Nat.reduceLT, reduceIte, Int.reduceToNat, w64_id, cast_succ, ha0, hl0, l1, ev1, ec1, er1, es1, hpa, hpb])
      generalize hY1 : Y ++ [(⟨0, tyE, 1, [I (xa : Int), I (xb : Int)]⟩ : Blk)] = Y1 at *
      have hfA : ∀ j, j < Y.length → j ≠ ra → (Y1.set ra ⟨0, 4, 1, (((tabB i (adjF (pre.map (relE p)))).getD ya []).set yb true).map Bv⟩)[j]? = Y[j]? := fun j hj hne => by
        rw [List.getElem?_set_ne (Ne.symm hne), ← hY1, List.getElem?_append_left hj]
      have me2 : (Y1.set ra ⟨0, 4, 1, (((tabB i (adjF (pre.map (relE p)))).getD ya []).set yb true).map Bv⟩)[Y.length]? = some ⟨0, tyE, 1, [I (xa : Int), I (xb : Int)]⟩ := by rw [List.getElem?_set_ne (by omega)]; exact me
      have ev2 := hgv2.view
      have ec2 := GrV.cell (rv := 0) (n := i) hrb2
      have er2 := hgv2.row g2 hrb2
      have es2 := hgv2.store g2 g1 hrb2 true
      have hgv3 := hgv2.set hrn ht g2 hrb2 true (y := ya)
      have pa2 := fun o => pc_alive (off := o) me2
      have pl2 := fun o => pc_ld (off := o) me2
      repeat (first | (with_reducible first | refine SW.seq ?_ | refine SW.block ?_ | refine SW.rowC ?_ | refine SW.skip ?_ | refine SW.exit ?_ | intro _ | refine And.intro (by omega) ?_) | simp (config := { maxSteps := 1000000 }) (disch := (first | omega | (simp only [go_sem]; try omega))) only [go_sem, Nat.reduceAdd, Nat.reduceEqDiff, Nat.reduceLeDiff, Nat.reduceMul, Nat.reduceLT, reduceIte, Int.reduceToNat, w64_id, cast_succ, pa2, pl2, ev2, ec2, er2, es2, hpa, hpb])
      have hfin := tabB_adj (n := i) (pre := pre.map (relE p)) g1 g2
      unfold setB at hfin
      rw [hfin] at hgv3
      refine SLoop.next post.length (by simp) ⟨pre ++ [((xa : Int), (xb : Int))], post, by simp [hq], rfl, by simp [go_sem], ?_, ?_, ?_, ?_, fun j hj => ?_⟩
      · rw [List.getElem?_set_ne (by omega), hfA _ (by omega) (by omega)]; exact m0
      · rw [List.getElem?_set_ne (by omega), hfA _ (by omega) (by omega)]; exact m1
      · rw [List.getElem?_set_ne (by omega), hfA _ (by omega) (by omega)]; exact m2
      · rw [List.map_append, show [((xa : Int), (xb : Int))].map (relE p) = [relE p ((xa : Int), (xb : Int))] from rfl, hrel]
        exact hgv3
      · rw [List.getElem?_set_ne (by omega), hfA _ (by omega) (by omega)]; exact hfY j hj
    · obtain ⟨rfl, rfl⟩ := nilOf hq (by omega)
      repeat (first | (with_reducible first | refine SW.seq ?_ | refine SW.block ?_ | refine SW.rowC ?_ | refine SW.skip ?_ | refine SW.exit ?_ | intro _ | refine And.intro (by omega) ?_) | simp (config := { maxSteps := 1000000 }) (disch := (first | omega | (simp only [go_sem]; try omega))) only [go_sem, Nat.reduceAdd, Nat.reduceEqDiff, Nat.reduceLeDiff, Nat.reduceMul, Nat.reduceLT, reduceIte, Int.reduceToNat, w64_id, cast_succ])
      have hrdY : RdS Y (.nm (H.length + 2) 0 0 i) R := by
        have := view_nm (n := i) m2 (by rw [List.length_map, hrl])
        unfold RdS
        rw [hrl]; exact this
      refine (l21Of_ok Y (.nm (H.length + 2) 0 0 i) t ver rs i R (adjF (pre.map (relE p))) hrdY hrl (by omega) hgv).mono ?_
      rintro r Y ⟨rfl, rfl⟩
      have hce : (ilE (edT i (adjF (pre.map (relE p))) i)).cell1 = true := rfl
      have w1 : astore Y [ilS R, ilE (edT i (adjF (pre.map (relE p))) i)] (.pc (H.length + 1) 0 0) = some (Y.set (H.length + 1) ⟨0, tyGr, 1, [ilS R, ilE (edT i (adjF (pre.map (relE p))) i)]⟩) := by rw [pc_st m1 (by simp)]; rfl
      repeat (first | (with_reducible first | refine SW.seq ?_ | refine SW.block ?_ | refine SW.rowC ?_ | refine SW.skip ?_ | refine SW.exit ?_ | intro _ | refine And.intro (by omega) ?_) | simp (config := { maxSteps := 1000000 }) (disch := (first | omega | (simp only [go_sem]; try omega))) only [go_sem, Nat.reduceAdd, Nat.reduceEqDiff, Nat.reduceLeDiff, Nat.reduceMul, Nat.reduceLT, reduceIte, Int.reduceToNat, w64_id, cast_succ, w1, hce])
      have hl1 := (List.getElem?_eq_some_iff.1 m1).1
      have q0 : (Y.set (H.length + 1) (⟨0, tyGr, 1, [ilS R, ilE (edT i (adjF (pre.map (relE p))) i)]⟩ : Blk))[H.length + 1]? = some ⟨0, tyGr, 1, [ilS R, ilE (edT i (adjF (pre.map (relE p))) i)]⟩ := List.getElem?_set_self hl1
      obtain ⟨ext, he⟩ := ext_ofR (H := H) (H1 := Y.set (H.length + 1) (⟨0, tyGr, 1, [ilS R, ilE (edT i (adjF (pre.map (relE p))) i)]⟩ : Blk)) (by rw [List.length_set]; omega) (fun j hj => by rw [List.getElem?_set_ne (by omega)]; exact hfY j hj)
      rw [he] at q0 ⊢
      refine SW.ret (FunPost.cell (cs := [ilS R, ilE (edT i (adjF (pre.map (relE p))) i)]) ?_ (GR.froz (r' := .agg [ilS R, ilE (edT i (adjF (pre.map (relE p))) i)]) (froz_agg2 (froz_ilS _) (.old _ (Bel_ilE _ _))) ⟨by rw [hR], rfl⟩))
      rw [show aget [(4, AV.pc (H.length + 1) 0 0)] 4 = AV.pc (H.length + 1) 0 0 from rfl]
      exact pc_lds (off := 0) (n := 2) q0 (by simp)
end Go.Proofs.Ytmdeibdplpodpaa
