/- Graphs read: the law. -/
import Derived.Test.YtdgcgckehihboaaDoorProg
import Derived.KernelRfl
import Derived.Test.YtdgcgckehihboaaDoorZH
import Derived.Test.YtdgcgckehihboaaDoorZD
import Derived.Test.YtdgcgckehihboaaDoorE5
set_option linter.unusedSimpArgs false
set_option linter.unusedVariables false
set_option maxHeartbeats 4000000
set_option maxRecDepth 100000
namespace Go.Proofs.YtdgcgckehihboaaDoor
open Go.Av

/-! The abstract code of functions, printed by program and tied to the program by the kernel. -/
/-- loop.example/g00920/laws.FnExactReadGraph -/
abbrev f_laws_FnExactReadGraph : Nat := 3
def c_laws_FnExactReadGraph : SC :=
 .seq (.reg [
     ⟨(some 2), .mv (.const (.bool false)), none⟩] [0])
 (.seq (.seq (.reg [
     ⟨(some 11), .mv (.tmp 0), none⟩,
     ⟨(some 12), .sop .len [(.tmp 11)], none⟩,
     ⟨(some 13), .bin .gtr (.tmp 12) (.const (.int .i64 1048576)), none⟩] [0, 13])
 (.cond (.tmp 13)
  (.seq (.reg [
      ⟨(some 2), .mv (.const (.bool true)), none⟩] [2])
  (.ret))
  (.skip)))
 (.seq (.reg [
     ⟨(some 15), .mv (.tmp 0), none⟩,
     ⟨(some 16), .call 4 [(.tmp 15)], none⟩,
     ⟨(some 14), .mv (.tmp 16), none⟩,
     ⟨(some 17), .ext (.tmp 14) 0, none⟩,
     ⟨(some 18), .ext (.tmp 14) 1, none⟩,
     ⟨(some 3), .alloc 25 [(.slice none 0 0), (.slice none 0 0)], none⟩,
     ⟨none, .store 2 (.tmp 3) (.tmp 17), none⟩,
     ⟨(some 4), .mv (.tmp 18), none⟩] [0, 3, 4])
 (.seq (.reg [
     ⟨(some 20), .mv (.tmp 0), none⟩,
     ⟨(some 21), .call 5 [(.tmp 20)], none⟩,
     ⟨(some 19), .mv (.tmp 21), none⟩,
     ⟨(some 22), .ext (.tmp 19) 0, none⟩,
     ⟨(some 23), .ext (.tmp 19) 1, none⟩,
     ⟨(some 5), .alloc 25 [(.slice none 0 0), (.slice none 0 0)], none⟩,
     ⟨none, .store 2 (.tmp 5) (.tmp 22), none⟩,
     ⟨(some 6), .mv (.tmp 23), none⟩] [0, 3, 4, 5, 6])
 (.seq (.seq (.reg [
     ⟨(some 24), .load 2 true (.tmp 5), none⟩,
     ⟨(some 25), .load 2 true (.tmp 3), none⟩,
     ⟨(some 26), .call 6 [(.tmp 24), (.tmp 25)], none⟩,
     ⟨(some 27), .un .not (.tmp 26), none⟩,
     ⟨(some 28), .mv (.tmp 27), none⟩,
     ⟨(some 29), .mv (.tmp 6), (some (28, false))⟩,
     ⟨(some 30), .mv (.tmp 4), (some (28, false))⟩,
     ⟨(some 31), .binb true (.tmp 29) (.tmp 30), (some (28, false))⟩,
     ⟨(some 32), .pick (.tmp 28) (.const (.bool true)) (.tmp 31), none⟩] [0, 3, 4, 5, 32])
 (.cond (.tmp 32)
  (.seq (.reg [
      ⟨(some 2), .mv (.const (.bool false)), none⟩] [2])
  (.ret))
  (.skip)))
 (.seq (.reg [
     ⟨(some 7), .mv (.const (.int .i64 1)), none⟩] [0, 3, 4, 5, 7])
 (.seq (.reg [
     ⟨(some 33), .load 2 true (.tmp 5), none⟩,
     ⟨(some 34), .mv (.tmp 7), none⟩,
     ⟨(some 35), .call 7 [(.tmp 33), (.tmp 34)], none⟩,
     ⟨(some 7), .mv (.tmp 35), none⟩] [0, 3, 4, 5, 7])
 (.seq (.reg [
     ⟨(some 8), .mv (.const (.int .i64 1)), none⟩] [0, 3, 4, 5, 7, 8])
 (.seq (.reg [
     ⟨(some 36), .load 2 true (.tmp 5), none⟩,
     ⟨(some 37), .mv (.tmp 8), none⟩,
     ⟨(some 38), .call 8 [(.tmp 36), (.tmp 37)], none⟩,
     ⟨(some 8), .mv (.tmp 38), none⟩] [0, 3, 4, 5, 7, 8])
 (.seq (.seq (.reg [
     ⟨(some 39), .mv (.tmp 8), none⟩,
     ⟨(some 40), .bin .lss (.tmp 39) (.const (.int .i64 0)), none⟩] [0, 3, 4, 5, 7, 8, 40])
 (.cond (.tmp 40)
  (.seq (.reg [
      ⟨(some 2), .mv (.const (.bool false)), none⟩] [2])
  (.ret))
  (.skip)))
 (.seq (.seq (.reg [
     ⟨(some 41), .mv (.tmp 8), none⟩,
     ⟨(some 42), .mv (.tmp 7), none⟩,
     ⟨(some 43), .bin .neq (.tmp 41) (.tmp 42), none⟩] [0, 3, 4, 5, 7, 43])
 (.cond (.tmp 43)
  (.seq (.reg [
      ⟨(some 2), .mv (.const (.bool false)), none⟩] [2])
  (.ret))
  (.skip)))
 (.seq (.reg [
     ⟨(some 45), .mv (.tmp 0), none⟩,
     ⟨(some 46), .call 5 [(.tmp 45)], none⟩,
     ⟨(some 44), .mv (.tmp 46), none⟩,
     ⟨(some 47), .ext (.tmp 44) 0, none⟩,
     ⟨(some 48), .ext (.tmp 44) 1, none⟩,
     ⟨(some 9), .alloc 25 [(.slice none 0 0), (.slice none 0 0)], none⟩,
     ⟨none, .store 2 (.tmp 9) (.tmp 47), none⟩,
     ⟨(some 10), .mv (.tmp 48), none⟩] [3, 4, 5, 7, 9, 10])
 (.seq (.seq (.reg [
     ⟨(some 49), .load 2 true (.tmp 9), none⟩,
     ⟨(some 50), .load 2 true (.tmp 3), none⟩,
     ⟨(some 51), .call 6 [(.tmp 49), (.tmp 50)], none⟩,
     ⟨(some 52), .un .not (.tmp 51), none⟩,
     ⟨(some 53), .mv (.tmp 52), none⟩,
     ⟨(some 54), .mv (.tmp 10), (some (53, false))⟩,
     ⟨(some 55), .mv (.tmp 4), (some (53, false))⟩,
     ⟨(some 56), .binb true (.tmp 54) (.tmp 55), (some (53, false))⟩,
     ⟨(some 57), .pick (.tmp 53) (.const (.bool true)) (.tmp 56), none⟩] [5, 7, 57])
 (.cond (.tmp 57)
  (.seq (.reg [
      ⟨(some 2), .mv (.const (.bool false)), none⟩] [2])
  (.ret))
  (.skip)))
 (.seq (.reg [
     ⟨(some 8), .mv (.const (.int .i64 1)), none⟩] [5, 7, 8])
 (.seq (.reg [
     ⟨(some 58), .load 2 true (.tmp 5), none⟩,
     ⟨(some 59), .mv (.tmp 8), none⟩,
     ⟨(some 60), .call 8 [(.tmp 58), (.tmp 59)], none⟩,
     ⟨(some 8), .mv (.tmp 60), none⟩] [7, 8])
 (.seq (.seq (.reg [
     ⟨(some 61), .mv (.tmp 8), none⟩,
     ⟨(some 62), .bin .lss (.tmp 61) (.const (.int .i64 0)), none⟩] [7, 8, 62])
 (.cond (.tmp 62)
  (.seq (.reg [
      ⟨(some 2), .mv (.const (.bool false)), none⟩] [2])
  (.ret))
  (.skip)))
 (.seq (.seq (.reg [
     ⟨(some 63), .mv (.tmp 8), none⟩,
     ⟨(some 64), .mv (.tmp 7), none⟩,
     ⟨(some 65), .bin .neq (.tmp 63) (.tmp 64), none⟩] [65])
 (.cond (.tmp 65)
  (.seq (.reg [
      ⟨(some 2), .mv (.const (.bool false)), none⟩] [2])
  (.ret))
  (.skip)))
 (.seq (.reg [
     ⟨(some 2), .mv (.const (.bool true)), none⟩] [2])
 (.ret))))))))))))))))))
theorem s_laws_FnExactReadGraph : stripF Tryd.prog 3 [[0], [0, 13], [2], [0, 3, 4], [0, 3, 4, 5, 6], [0, 3, 4, 5, 32], [2], [0, 3, 4, 5, 7], [0, 3, 4, 5, 7], [0, 3, 4, 5, 7, 8], [0, 3, 4, 5, 7, 8], [0, 3, 4, 5, 7, 8, 40], [2], [0, 3, 4, 5, 7, 43], [2], [3, 4, 5, 7, 9, 10], [5, 7, 57], [2], [5, 7, 8], [7, 8], [7, 8, 62], [2], [65], [2], [2]] = some (c_laws_FnExactReadGraph, [.tmp 2], 66) := by kernel_rfl


theorem OwnS.oneG {H : List Blk} {N : Nat → Prop} {t : Nat} {c : AV} {xs : List Int} (h : OwnS H N t c xs) : c.cell1 = true ∧ partsOf c = [c] := by
  rcases h with ⟨r, ver, ty, rfl, _⟩ | ⟨_, rfl | rfl⟩ <;> exact ⟨rfl, rfl⟩
theorem OwnS.appG {H : List Blk} {N : Nat → Prop} {t : Nat} {c : AV} {xs : List Int} (h : OwnS H N t c xs) (ext : List Blk) : OwnS (H ++ ext) N t c xs :=
  h.same (fun j b _ _ hb => by rw [List.getElem?_append_left (List.getElem?_eq_some_iff.1 hb).1]; exact hb)

theorem lawReadGraph_ok (H : List Blk) (s : List UInt8) : ACalls Tryd.prog f_laws_FnExactReadGraph [Tx s] H (fun r _ => r = Bv true) := by
  by_cases hs : s.length ≤ 1048576
  · have hsp := specReadGraph_fn s (by omega)
    have hi := fun H => implReadGraph_ok H s (by omega)
    rw [rg_is] at hi
    have hlen : ((rgR s).getD ([], [])).1.length ≤ 64 ∧ ((rgR s).getD ([], [])).2.length ≤ 512 := by
      cases hr : rgR s with
      | none => simp
      | some g =>
        obtain ⟨h1, -, h2, -⟩ := grB_facts ((rgR_iff s g).1 hr).1
        exact ⟨h1, h2⟩
    unfold rgV at hsp
    unfold GrB at hi
    generalize (rgR s).isSome = ok at *
    generalize (rgR s).getD ([], []) = g at *
    obtain ⟨cols, es⟩ := g
    simp only at hsp hlen hi
    obtain ⟨hlc, hle⟩ := hlen
    have hcE : (ilE es).cell1 = true := rfl
    have hpE : partsOf (ilE es) = [ilE es] := rfl
    have d1 : decide ((1048576 : Int) < (s.length : Int)) = false := decide_eq_false (by omega)
    refine ACalls.introB s_laws_FnExactReadGraph (by simp) ?_; intro hB hA; unfold c_laws_FnExactReadGraph; simp (config := { maxSteps := 1000000 }) (disch := (first | omega | (simp only [go_sem]; try omega))) only [go_sem, Nat.reduceAdd, Nat.reduceEqDiff, Nat.reduceLeDiff, Nat.reduceMul, Nat.reduceLT, reduceIte, Int.reduceToNat, w64_id, cast_succ]
    repeat (first | (with_reducible first | refine SW.seq ?_ | refine SW.block ?_ | refine SW.rowC ?_ | refine SW.skip ?_ | refine SW.exit ?_ | intro _ | refine And.intro (by omega) ?_) | simp (config := { maxSteps := 1000000 }) (disch := (first | omega | (simp only [go_sem]; try omega))) only [go_sem, Nat.reduceAdd, Nat.reduceEqDiff, Nat.reduceLeDiff, Nat.reduceMul, Nat.reduceLT, reduceIte, Int.reduceToNat, w64_id, cast_succ, d1])
    refine SW.condF rfl ?_
    repeat (first | (with_reducible first | refine SW.seq ?_ | refine SW.block ?_ | refine SW.rowC ?_ | refine SW.skip ?_ | refine SW.exit ?_ | refine PFn.use (hsp) ?_ | refine PFn.useq (hsp) ?_ | intro _ | refine And.intro (by omega) ?_) | simp (config := { maxSteps := 1000000 }) (disch := (first | omega | (simp only [go_sem]; try omega))) only [go_sem, Nat.reduceAdd, Nat.reduceEqDiff, Nat.reduceLeDiff, Nat.reduceMul, Nat.reduceLT, reduceIte, Int.reduceToNat, w64_id, cast_succ, hcE, hpE])
    refine (hi _).mono ?_
    rintro r H3 ⟨ext2, gv, gu, q, hH3, rfl, q1, q2, hc, he⟩
    have pw : (H ++ [(⟨0, tyGr, 1, [ilS cols, ilE es]⟩ : Blk)])[H.length]? = some ⟨0, tyGr, 1, [ilS cols, ilE es]⟩ := by simp
    have hl2 : (H ++ [(⟨0, tyGr, 1, [ilS cols, ilE es]⟩ : Blk)]).length = H.length + 1 := by simp
    replace pw := get_appB2 pw ext2
    rw [hl2] at q1 hc
    replace hc : OwnS H3 (Btw (H.length + 1) q) H3.length gv cols := hc
    replace he : OwnE H3 (Btw q H3.length) gu es := he
    rw [← hH3] at pw
    have hl3 : H.length + 1 ≤ H3.length := by omega
    clear hH3 hl2
    repeat (first | (with_reducible first | refine SW.seq ?_ | refine SW.block ?_ | refine SW.rowC ?_ | refine SW.skip ?_ | refine SW.exit ?_ | intro _ | refine And.intro (by omega) ?_) | simp (config := { maxSteps := 1000000 }) (disch := (first | omega | (simp only [go_sem]; try omega))) only [go_sem, Nat.reduceAdd, Nat.reduceEqDiff, Nat.reduceLeDiff, Nat.reduceMul, Nat.reduceLT, reduceIte, Int.reduceToNat, w64_id, cast_succ, hc.oneG.1, hc.oneG.2, he.one.1, he.one.2])
    have pg := (show (H3 ++ [(⟨0, tyGr, 1, [gv, gu]⟩ : Blk)])[H3.length]? = some ⟨0, tyGr, 1, [gv, gu]⟩ by simp)
    replace pw := get_appB2 pw [(⟨0, tyGr, 1, [gv, gu]⟩ : Blk)]
    replace hc := hc.appG [(⟨0, tyGr, 1, [gv, gu]⟩ : Blk)]
    replace he := he.append [(⟨0, tyGr, 1, [gv, gu]⟩ : Blk)]
    generalize hgg : H3.length = gg at *
    generalize H3 ++ [(⟨0, tyGr, 1, [gv, gu]⟩ : Blk)] = H4 at *
    have hgl : gg < H4.length := (List.getElem?_eq_some_iff.1 pg).1
    have pgl : acells H4 2 (.pc gg 0 0) = some [gv, gu] := pc_lds pg (by simp)
    have pwl : acells H4 2 (.pc H.length 0 0) = some [ilS cols, ilE es] := pc_lds pw (by simp)
    have dok : decide (ok = ok) = true := decide_eq_true rfl
    repeat (first | (with_reducible first | refine SW.seq ?_ | refine SW.block ?_ | refine SW.rowC ?_ | refine SW.skip ?_ | refine SW.exit ?_ | intro _ | refine And.intro (by omega) ?_) | simp (config := { maxSteps := 1000000 }) (disch := (first | omega | (simp only [go_sem]; try omega))) only [go_sem, Nat.reduceAdd, Nat.reduceEqDiff, Nat.reduceLeDiff, Nat.reduceMul, Nat.reduceLT, reduceIte, Int.reduceToNat, w64_id, cast_succ, pc_alive pw, pc_alive pg, pwl, pgl])
    refine ACalls.fn (eqGraph_ok _ gv (ilS cols) gu (ilE es) cols cols es es hc.oneG.1 rfl he.one.1 rfl hc.rd (rd_ilS _ _) he.rd (rd_ilE _ _) (by omega)) ?_
    rw [show (decide (cols = cols) && decide (es = es)) = true by simp]
    repeat (first | (with_reducible first | refine SW.seq ?_ | refine SW.block ?_ | refine SW.rowC ?_ | refine SW.skip ?_ | refine SW.exit ?_ | intro _ | refine And.intro (by omega) ?_) | simp (config := { maxSteps := 1000000 }) (disch := (first | omega | (simp only [go_sem]; try omega))) only [go_sem, Nat.reduceAdd, Nat.reduceEqDiff, Nat.reduceLeDiff, Nat.reduceMul, Nat.reduceLT, reduceIte, Int.reduceToNat, w64_id, cast_succ, dok])
    refine SW.condF rfl ?_
    repeat (first | (with_reducible first | refine SW.seq ?_ | refine SW.block ?_ | refine SW.rowC ?_ | refine SW.skip ?_ | refine SW.exit ?_ | intro _ | refine And.intro (by omega) ?_) | simp (config := { maxSteps := 1000000 }) (disch := (first | omega | (simp only [go_sem]; try omega))) only [go_sem, Nat.reduceAdd, Nat.reduceEqDiff, Nat.reduceLeDiff, Nat.reduceMul, Nat.reduceLT, reduceIte, Int.reduceToNat, w64_id, cast_succ, pc_alive pg, pgl, hc.oneG.1, hc.oneG.2, he.one.1, he.one.2])
    refine (markGraph_ok _ _ _ _ 1 gv gu cols es hc.oneG.1 he.one.1 hc he (fun j hj => by unfold Btw at hj ⊢; omega) (by unfold Btw; omega) (by omega) (by omega) (by omega) (by omega)).mono ?_
    rintro r H7 ⟨rfl, hc7, he7, p1, p2⟩
    have hlt7 : ∀ j b, H4[j]? = some b → j < H4.length := fun j b h => (List.getElem?_eq_some_iff.1 h).1
    replace pw := (p2 H.length (by unfold Btw; omega) (by unfold Btw; omega) (hlt7 _ _ pw)).trans pw
    replace pg := (p2 gg (by unfold Btw; omega) (by unfold Btw; omega) (hlt7 _ _ pg)).trans pg
    clear hc he pgl pwl
    have pgl : acells H7 2 (.pc gg 0 0) = some [gv, gu] := pc_lds pg (by simp)
    repeat (first | (with_reducible first | refine SW.seq ?_ | refine SW.block ?_ | refine SW.rowC ?_ | refine SW.skip ?_ | refine SW.exit ?_ | intro _ | refine And.intro (by omega) ?_) | simp (config := { maxSteps := 1000000 }) (disch := (first | omega | (simp only [go_sem]; try omega))) only [go_sem, Nat.reduceAdd, Nat.reduceEqDiff, Nat.reduceLeDiff, Nat.reduceMul, Nat.reduceLT, reduceIte, Int.reduceToNat, w64_id, cast_succ, pc_alive pg, pgl, hc7.oneG.1, hc7.oneG.2, he7.one.1, he7.one.2])
    refine ACalls.fn (heldGraph_ok _ 1 gv gu cols.length es.length hc7.oneG.1 he7.one.1 hc7.rd he7.rd (by omega) (by omega) (by omega) (by omega)) ?_
    have hneg2 : decide ((1 : Int) + cols.length + 2 * es.length < 0) = false := decide_eq_false (by omega)
    repeat (first | (with_reducible first | refine SW.seq ?_ | refine SW.block ?_ | refine SW.rowC ?_ | refine SW.skip ?_ | refine SW.exit ?_ | intro _ | refine And.intro (by omega) ?_) | simp (config := { maxSteps := 1000000 }) (disch := (first | omega | (simp only [go_sem]; try omega))) only [go_sem, Nat.reduceAdd, Nat.reduceEqDiff, Nat.reduceLeDiff, Nat.reduceMul, Nat.reduceLT, reduceIte, Int.reduceToNat, w64_id, cast_succ, hneg2])
    refine SW.condF rfl ?_
    repeat (first | (with_reducible first | refine SW.seq ?_ | refine SW.block ?_ | refine SW.rowC ?_ | refine SW.skip ?_ | refine SW.exit ?_ | intro _ | refine And.intro (by omega) ?_) | simp (config := { maxSteps := 1000000 }) (disch := (first | omega | (simp only [go_sem]; try omega))) only [go_sem, Nat.reduceAdd, Nat.reduceEqDiff, Nat.reduceLeDiff, Nat.reduceMul, Nat.reduceLT, reduceIte, Int.reduceToNat, w64_id, cast_succ])
    refine SW.condF rfl ?_
    repeat (first | (with_reducible first | refine SW.seq ?_ | refine SW.block ?_ | refine SW.rowC ?_ | refine SW.skip ?_ | refine SW.exit ?_ | intro _ | refine And.intro (by omega) ?_) | simp (config := { maxSteps := 1000000 }) (disch := (first | omega | (simp only [go_sem]; try omega))) only [go_sem, Nat.reduceAdd, Nat.reduceEqDiff, Nat.reduceLeDiff, Nat.reduceMul, Nat.reduceLT, reduceIte, Int.reduceToNat, w64_id, cast_succ])
    refine (hi _).mono ?_
    rintro r H9 ⟨ext3, hv, hw, q5, rfl, rfl, q6, q7, hc9, he9⟩
    replace hc9 : OwnS (H7 ++ ext3) (Btw H7.length q5) (H7 ++ ext3).length hv cols := hc9
    replace he9 : OwnE (H7 ++ ext3) (Btw q5 (H7 ++ ext3).length) hw es := he9
    have e9 : H7 ++ (ext3 ++ [(⟨0, tyGr, 1, [hv, hw]⟩ : Blk)]) = H7 ++ ext3 ++ [(⟨0, tyGr, 1, [hv, hw]⟩ : Blk)] := by simp
    replace pw := get_appB2 (get_appB2 pw ext3) [(⟨0, tyGr, 1, [hv, hw]⟩ : Blk)]
    replace pg := get_appB2 (get_appB2 pg ext3) [(⟨0, tyGr, 1, [hv, hw]⟩ : Blk)]
    replace hc7 := (hc7.appG ext3).appG [(⟨0, tyGr, 1, [hv, hw]⟩ : Blk)]
    replace he7 := (he7.append ext3).append [(⟨0, tyGr, 1, [hv, hw]⟩ : Blk)]
    have hc10 := hc9.appG [(⟨0, tyGr, 1, [hv, hw]⟩ : Blk)]
    have he10 := he9.append [(⟨0, tyGr, 1, [hv, hw]⟩ : Blk)]
    have ph : (H7 ++ ext3 ++ [(⟨0, tyGr, 1, [hv, hw]⟩ : Blk)])[H7.length + ext3.length]? = some ⟨0, tyGr, 1, [hv, hw]⟩ := by rw [List.getElem?_append_right (by simp)]; simp
    rw [← e9] at pw pg hc7 he7 hc10 he10 ph
    clear pgl e9
    repeat (first | (with_reducible first | refine SW.seq ?_ | refine SW.block ?_ | refine SW.rowC ?_ | refine SW.skip ?_ | refine SW.exit ?_ | intro _ | refine And.intro (by omega) ?_) | simp (config := { maxSteps := 1000000 }) (disch := (first | omega | (simp only [go_sem]; try omega))) only [go_sem, Nat.reduceAdd, Nat.reduceEqDiff, Nat.reduceLeDiff, Nat.reduceMul, Nat.reduceLT, reduceIte, Int.reduceToNat, w64_id, cast_succ, hc9.oneG.1, hc9.oneG.2, he9.one.1, he9.one.2])
    generalize H7 ++ (ext3 ++ [(⟨0, tyGr, 1, [hv, hw]⟩ : Blk)]) = H10 at *
    have pwl : acells H10 2 (.pc H.length 0 0) = some [ilS cols, ilE es] := pc_lds pw (by simp)
    have phl : acells H10 2 (.pc (H7.length + ext3.length) 0 0) = some [hv, hw] := pc_lds ph (by simp)
    have pgl : acells H10 2 (.pc gg 0 0) = some [gv, gu] := pc_lds pg (by simp)
    repeat (first | (with_reducible first | refine SW.seq ?_ | refine SW.block ?_ | refine SW.rowC ?_ | refine SW.skip ?_ | refine SW.exit ?_ | intro _ | refine And.intro (by omega) ?_) | simp (config := { maxSteps := 1000000 }) (disch := (first | omega | (simp only [go_sem]; try omega))) only [go_sem, Nat.reduceAdd, Nat.reduceEqDiff, Nat.reduceLeDiff, Nat.reduceMul, Nat.reduceLT, reduceIte, Int.reduceToNat, w64_id, cast_succ, pwl, phl, pc_alive pw, pc_alive ph])
    refine ACalls.fn (eqGraph_ok _ hv (ilS cols) hw (ilE es) cols cols es es hc10.oneG.1 rfl he10.one.1 rfl hc10.rd (rd_ilS _ _) he10.rd (rd_ilE _ _) (by omega)) ?_
    rw [show (decide (cols = cols) && decide (es = es)) = true by simp]
    repeat (first | (with_reducible first | refine SW.seq ?_ | refine SW.block ?_ | refine SW.rowC ?_ | refine SW.skip ?_ | refine SW.exit ?_ | intro _ | refine And.intro (by omega) ?_) | simp (config := { maxSteps := 1000000 }) (disch := (first | omega | (simp only [go_sem]; try omega))) only [go_sem, Nat.reduceAdd, Nat.reduceEqDiff, Nat.reduceLeDiff, Nat.reduceMul, Nat.reduceLT, reduceIte, Int.reduceToNat, w64_id, cast_succ, dok])
    refine SW.condF rfl ?_
    repeat (first | (with_reducible first | refine SW.seq ?_ | refine SW.block ?_ | refine SW.rowC ?_ | refine SW.skip ?_ | refine SW.exit ?_ | intro _ | refine And.intro (by omega) ?_) | simp (config := { maxSteps := 1000000 }) (disch := (first | omega | (simp only [go_sem]; try omega))) only [go_sem, Nat.reduceAdd, Nat.reduceEqDiff, Nat.reduceLeDiff, Nat.reduceMul, Nat.reduceLT, reduceIte, Int.reduceToNat, w64_id, cast_succ, pgl, pc_alive pg])
    refine ACalls.fn (heldGraph_ok _ 1 gv gu cols.length es.length hc7.oneG.1 he7.one.1 hc7.rd he7.rd (by omega) (by omega) (by omega) (by omega)) ?_
    repeat (first | (with_reducible first | refine SW.seq ?_ | refine SW.block ?_ | refine SW.rowC ?_ | refine SW.skip ?_ | refine SW.exit ?_ | intro _ | refine And.intro (by omega) ?_) | simp (config := { maxSteps := 1000000 }) (disch := (first | omega | (simp only [go_sem]; try omega))) only [go_sem, Nat.reduceAdd, Nat.reduceEqDiff, Nat.reduceLeDiff, Nat.reduceMul, Nat.reduceLT, reduceIte, Int.reduceToNat, w64_id, cast_succ, hneg2])
    refine SW.condF rfl ?_
    repeat (first | (with_reducible first | refine SW.seq ?_ | refine SW.block ?_ | refine SW.rowC ?_ | refine SW.skip ?_ | refine SW.exit ?_ | intro _ | refine And.intro (by omega) ?_) | simp (config := { maxSteps := 1000000 }) (disch := (first | omega | (simp only [go_sem]; try omega))) only [go_sem, Nat.reduceAdd, Nat.reduceEqDiff, Nat.reduceLeDiff, Nat.reduceMul, Nat.reduceLT, reduceIte, Int.reduceToNat, w64_id, cast_succ])
    refine SW.condF rfl ?_
    repeat (first | (with_reducible first | refine SW.seq ?_ | refine SW.block ?_ | refine SW.rowC ?_ | refine SW.skip ?_ | refine SW.exit ?_ | intro _ | refine And.intro (by omega) ?_) | simp (config := { maxSteps := 1000000 }) (disch := (first | omega | (simp only [go_sem]; try omega))) only [go_sem, Nat.reduceAdd, Nat.reduceEqDiff, Nat.reduceLeDiff, Nat.reduceMul, Nat.reduceLT, reduceIte, Int.reduceToNat, w64_id, cast_succ])
    refine SW.ret ?_; (try simp only [go_sem]); (first | refine FunPost.one ?_ | refine FunPost.two ?_ | refine FunPost.three ?_); (try simp (config := { maxSteps := 1000000 }) (disch := (first | omega | (simp only [go_sem]; try omega))) only [go_sem, Nat.reduceAdd, Nat.reduceEqDiff, Nat.reduceLeDiff, Nat.reduceMul, Nat.reduceLT, reduceIte, Int.reduceToNat, w64_id, cast_succ])
    exact GR.of rfl
  · have d1 : decide ((1048576 : Int) < (s.length : Int)) = true := decide_eq_true (by omega)
    refine ACalls.introB s_laws_FnExactReadGraph (by simp) ?_; intro hB hA; unfold c_laws_FnExactReadGraph; simp (config := { maxSteps := 1000000 }) (disch := (first | omega | (simp only [go_sem]; try omega))) only [go_sem, Nat.reduceAdd, Nat.reduceEqDiff, Nat.reduceLeDiff, Nat.reduceMul, Nat.reduceLT, reduceIte, Int.reduceToNat, w64_id, cast_succ]
    repeat (first | (with_reducible first | refine SW.seq ?_ | refine SW.block ?_ | refine SW.rowC ?_ | refine SW.skip ?_ | refine SW.exit ?_ | intro _ | refine And.intro (by omega) ?_) | simp (config := { maxSteps := 1000000 }) (disch := (first | omega | (simp only [go_sem]; try omega))) only [go_sem, Nat.reduceAdd, Nat.reduceEqDiff, Nat.reduceLeDiff, Nat.reduceMul, Nat.reduceLT, reduceIte, Int.reduceToNat, w64_id, cast_succ, d1])
    refine SW.condT rfl ?_
    repeat (first | (with_reducible first | refine SW.seq ?_ | refine SW.block ?_ | refine SW.rowC ?_ | refine SW.skip ?_ | refine SW.exit ?_ | intro _ | refine And.intro (by omega) ?_) | simp (config := { maxSteps := 1000000 }) (disch := (first | omega | (simp only [go_sem]; try omega))) only [go_sem, Nat.reduceAdd, Nat.reduceEqDiff, Nat.reduceLeDiff, Nat.reduceMul, Nat.reduceLT, reduceIte, Int.reduceToNat, w64_id, cast_succ])
    refine SW.ret ?_; (try simp only [go_sem]); (first | refine FunPost.one ?_ | refine FunPost.two ?_ | refine FunPost.three ?_); (try simp (config := { maxSteps := 1000000 }) (disch := (first | omega | (simp only [go_sem]; try omega))) only [go_sem, Nat.reduceAdd, Nat.reduceEqDiff, Nat.reduceLeDiff, Nat.reduceMul, Nat.reduceLT, reduceIte, Int.reduceToNat, w64_id, cast_succ])
    exact GR.of rfl
end Go.Proofs.YtdgcgckehihboaaDoor
