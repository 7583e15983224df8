/- Exact covers: the program's search. -/
import Derived.Test.YtnlfokkljgbaaaaProg
import Derived.KernelRfl
import Derived.Test.YtnlfokkljgbaaaazCC
import Derived.Test.YtnlfokkljgbaaaazSZ
set_option linter.unusedSimpArgs false
set_option linter.unusedVariables false
set_option maxHeartbeats 4000000
set_option maxRecDepth 100000
namespace Go.Proofs.Ytnlfokkljgbaaaa
open Go.Av
abbrev f_impl_coverer_search : Nat := 53
def c_impl_coverer_search : SC :=
 .seq (.seq (.reg [
     ⟨(some 5), .mv (.tmp 0), none⟩,
     ⟨(some 6), .nilc (.tmp 5), none⟩,
     ⟨(some 7), .faddr 0 (.tmp 6), none⟩,
     ⟨(some 8), .faddr 1 (.tmp 7), none⟩,
     ⟨(some 9), .load 1 false (.tmp 8), none⟩,
     ⟨(some 10), .mv (.tmp 9), none⟩,
     ⟨(some 11), .mv (.tmp 0), (some (10, false))⟩,
     ⟨(some 12), .nilc (.tmp 11), (some (10, false))⟩,
     ⟨(some 13), .faddr 5 (.tmp 12), (some (10, false))⟩,
     ⟨(some 14), .load 1 false (.tmp 13), (some (10, false))⟩,
     ⟨(some 15), .mv (.tmp 14), (some (10, false))⟩,
     ⟨(some 16), .mv (.tmp 0), (some (15, true))⟩,
     ⟨(some 17), .nilc (.tmp 16), (some (15, true))⟩,
     ⟨(some 18), .faddr 9 (.tmp 17), (some (15, true))⟩,
     ⟨(some 19), .load 1 false (.tmp 18), (some (15, true))⟩,
     ⟨(some 20), .len (.tmp 19), (some (15, true))⟩,
     ⟨(some 21), .bin .gtr (.tmp 20) (.const (.int .i64 0)), (some (15, true))⟩,
     ⟨(some 22), .pick (.tmp 15) (.tmp 21) (.const (.bool false)), (some (10, false))⟩,
     ⟨(some 23), .pick (.tmp 10) (.const (.bool true)) (.tmp 22), none⟩,
     ⟨(some 24), .mv (.tmp 23), none⟩,
     ⟨(some 25), .mv (.tmp 0), (some (24, false))⟩,
     ⟨(some 26), .nilc (.tmp 25), (some (24, false))⟩,
     ⟨(some 27), .faddr 0 (.tmp 26), (some (24, false))⟩,
     ⟨(some 28), .call 76 [(.tmp 27)], (some (24, false))⟩,
     ⟨(some 29), .un .not (.tmp 28), (some (24, false))⟩,
     ⟨(some 30), .pick (.tmp 24) (.const (.bool true)) (.tmp 29), none⟩] [0, 30])
 (.cond (.tmp 30)
  (.ret)
  (.skip)))
 (.seq (.reg [
     ⟨(some 31), .mv (.tmp 0), none⟩,
     ⟨(some 32), .nilc (.tmp 31), none⟩,
     ⟨(some 33), .faddr 8 (.tmp 32), none⟩,
     ⟨(some 34), .load 1 false (.tmp 33), none⟩,
     ⟨(some 35), .bin .add (.tmp 34) (.const (.int .i64 1)), none⟩,
     ⟨(some 36), .nilc (.tmp 31), none⟩,
     ⟨(some 37), .faddr 8 (.tmp 36), none⟩,
     ⟨none, .store 1 (.tmp 37) (.tmp 35), none⟩] [0])
 (.seq (.seq (.reg [
     ⟨(some 38), .mv (.tmp 0), none⟩,
     ⟨(some 39), .nilc (.tmp 38), none⟩,
     ⟨(some 40), .faddr 6 (.tmp 39), none⟩,
     ⟨(some 41), .load 1 false (.tmp 40), none⟩,
     ⟨(some 42), .call 32 [(.tmp 41), (.const (.bool false))], none⟩,
     ⟨(some 43), .un .not (.tmp 42), none⟩] [0, 43])
 (.cond (.tmp 43)
  (.seq (.reg [
      ⟨(some 44), .mv (.tmp 0), none⟩,
      ⟨(some 45), .nilc (.tmp 44), none⟩,
      ⟨(some 46), .faddr 7 (.tmp 45), none⟩,
      ⟨(some 47), .load 1 false (.tmp 46), none⟩,
      ⟨(some 48), .call 77 [(.tmp 47)], none⟩,
      ⟨(some 2), .mv (.tmp 48), none⟩] [0, 2])
  (.seq (.reg [
      ⟨(some 49), .mv (.tmp 2), none⟩,
      ⟨(some 50), .call 78 [(.tmp 49)], none⟩] [0, 2])
  (.seq (.reg [
      ⟨(some 51), .mv (.tmp 0), none⟩,
      ⟨(some 52), .mv (.tmp 0), none⟩,
      ⟨(some 53), .nilc (.tmp 52), none⟩,
      ⟨(some 54), .faddr 9 (.tmp 53), none⟩,
      ⟨(some 55), .load 1 false (.tmp 54), none⟩,
      ⟨(some 56), .mv (.tmp 2), none⟩,
      ⟨(some 57), .bslice 29 1 1 [(.slice none 0 0)] [(0, (.tmp 56))], none⟩,
      ⟨(some 58), .app 29 1 24 (.tmp 55) (.tmp 57), none⟩,
      ⟨(some 59), .nilc (.tmp 51), none⟩,
      ⟨(some 60), .faddr 9 (.tmp 59), none⟩,
      ⟨none, .store 1 (.tmp 60) (.tmp 58), none⟩] [])
  (.ret))))
  (.skip)))
 (.seq (.reg [
     ⟨(some 61), .mv (.tmp 0), none⟩,
     ⟨(some 62), .call 79 [(.tmp 61)], none⟩,
     ⟨(some 63), .len (.tmp 62), none⟩,
     ⟨(some 64), .mv (.const (.int .i64 0)), none⟩] [0, 62, 63, 64])
 (.block 0 (.loop [0, 62, 63, 64]
   (.seq (.reg [
       ⟨(some 65), .bin .lss (.tmp 64) (.tmp 63), none⟩] [0, 62, 63, 64, 65])
   (.seq (.cond (.tmp 65)
    (.skip)
    (.exit 0))
   (.seq (.block 1 (.seq (.reg [
        ⟨(some 66), .iaddr 1 (.tmp 62) (.tmp 64), none⟩,
        ⟨(some 67), .load 1 false (.tmp 66), none⟩,
        ⟨(some 4), .mv (.tmp 67), none⟩] [0, 4, 62, 63, 64])
    (.seq (.reg [
        ⟨(some 68), .mv (.tmp 0), none⟩,
        ⟨(some 69), .mv (.tmp 4), none⟩,
        ⟨(some 70), .call 80 [(.tmp 68), (.tmp 69), (.const (.bool true))], none⟩] [0, 4, 62, 63, 64])
    (.seq (.reg [
        ⟨(some 71), .mv (.tmp 0), none⟩,
        ⟨(some 72), .mv (.tmp 0), none⟩,
        ⟨(some 73), .nilc (.tmp 72), none⟩,
        ⟨(some 74), .faddr 7 (.tmp 73), none⟩,
        ⟨(some 75), .load 1 false (.tmp 74), none⟩,
        ⟨(some 76), .mv (.tmp 4), none⟩,
        ⟨(some 77), .bslice 2 1 1 [(.int .i64 0)] [(0, (.tmp 76))], none⟩,
        ⟨(some 78), .app 2 1 8 (.tmp 75) (.tmp 77), none⟩,
        ⟨(some 79), .nilc (.tmp 71), none⟩,
        ⟨(some 80), .faddr 7 (.tmp 79), none⟩,
        ⟨none, .store 1 (.tmp 80) (.tmp 78), none⟩] [0, 4, 62, 63, 64])
    (.seq (.reg [
        ⟨(some 81), .mv (.tmp 0), none⟩,
        ⟨(some 82), .call 53 [(.tmp 81)], none⟩] [0, 4, 62, 63, 64])
    (.seq (.reg [
        ⟨(some 83), .mv (.tmp 0), none⟩,
        ⟨(some 84), .mv (.tmp 0), none⟩,
        ⟨(some 85), .nilc (.tmp 84), none⟩,
        ⟨(some 86), .faddr 7 (.tmp 85), none⟩,
        ⟨(some 87), .load 1 false (.tmp 86), none⟩,
        ⟨(some 88), .mv (.tmp 0), none⟩,
        ⟨(some 89), .nilc (.tmp 88), none⟩,
        ⟨(some 90), .faddr 7 (.tmp 89), none⟩,
        ⟨(some 91), .load 1 false (.tmp 90), none⟩,
        ⟨(some 92), .qlen (.tmp 91), none⟩,
        ⟨(some 93), .bin .sub (.tmp 92) (.const (.int .i64 1)), none⟩,
        ⟨(some 94), .slc 1 (.tmp 87) none (some (.tmp 93)), none⟩,
        ⟨(some 95), .nilc (.tmp 83), none⟩,
        ⟨(some 96), .faddr 7 (.tmp 95), none⟩,
        ⟨none, .store 1 (.tmp 96) (.tmp 94), none⟩] [0, 4, 62, 63, 64])
    (.reg [
        ⟨(some 97), .mv (.tmp 0), none⟩,
        ⟨(some 98), .mv (.tmp 4), none⟩,
        ⟨(some 99), .call 80 [(.tmp 97), (.tmp 98), (.const (.bool false))], none⟩] [0, 62, 63, 64])))))))
   (.reg [
       ⟨(some 100), .bin .add (.tmp 64) (.const (.int .i64 1)), none⟩,
       ⟨(some 64), .mv (.tmp 100), none⟩] [0, 62, 63, 64])))))))))
theorem s_impl_coverer_search : stripF Try.prog 53 [[0, 30], [0], [0, 43], [0, 2], [0, 2], [], [0, 62, 63, 64], [0, 62, 63, 64], [0, 62, 63, 64, 65], [0, 4, 62, 63, 64], [0, 4, 62, 63, 64], [0, 4, 62, 63, 64], [0, 4, 62, 63, 64], [0, 4, 62, 63, 64], [0, 62, 63, 64], [0, 62, 63, 64]] = some (c_impl_coverer_search, [], 101) := by kernel_rfl
theorem ColG.viewC {H : List Blk} {base : Nat} {v fv : AV} {cols : List Int} {found : List (List Int)} (h : ColG H base v cols fv found) : ∃ cells, aview H fv = some (found.length, cells) := by
  rcases h with ⟨-, -, rfl, rfl⟩ | ⟨t, ver, cells, rfl, h2, h3, h4, h5, h6⟩
  · exact ⟨[], rfl⟩
  · rcases h6 with ⟨rfl, rfl⟩ | ⟨t, ver, cells, rfl, hc⟩
    · exact ⟨[], rfl⟩
    · obtain ⟨cells, h, _⟩ := hc.rd
      exact ⟨cells, h⟩
theorem ColG.addX {H X : List Blk} {base : Nat} {v fv : AV} {cols xs : List Int} {found : List (List Int)} {r rv rty : Nat} (h : ColG H base v cols fv found) (hne : cols ≠ []) (hbH : base ≤ H.length) (hr : H.length ≤ r) (hl : (found.length + 1) * 24 ≤ 140737488355328) (hs : ∀ j b, base ≤ j → H[j]? = some b → X[j]? = some b)
    (hrow : X[r]? = some ⟨rv, rty, 1, xs.map I⟩) {len : Nat} (hlen : len = xs.length) {K : AV → List Blk → Prop} (hk : ∀ fv' H', ColG H' base v cols fv' (found ++ [xs]) → X.length ≤ H'.length → (∀ j, j < base → H'[j]? = X[j]?) → K fv' H') : AppX tyLL 1 24 X fv K (some (1, [.nm r rv 0 len])) := by
  rcases h with ⟨-, h, -⟩ | ⟨t, ver, cells, rfl, h2, h3, h4, h5, h6⟩
  · exact absurd h hne
  · have ht := (List.getElem?_eq_some_iff.1 h3).1
    refine h6.appG hlen (by omega) hr hl (fun j b hj => hs j b (by omega)) hrow ?_
    intro fv' H' g1 g2 g3
    exact hk fv' H' (.inr ⟨t, ver, cells, rfl, h2, by rw [g3 t (by omega)]; exact hs t _ h2 h3, h4, h5, g1⟩) g2 (fun j hj => g3 j (by omega))
theorem coverOk_n {n : Nat} {O : List (List Int)} (h : coverOk (n : Int) O = true) : 1 ≤ n ∧ n ≤ 64 ∧ O.length ≤ 256 ∧ ∀ o ∈ O, ∀ x ∈ o, 0 ≤ x ∧ x < (n : Int) := by
  have := coverOk_facts h
  exact ⟨by omega, by omega, this.2.2.1, fun o ho => (this.2.2.2 o ho).1⟩
theorem froz_rowB' {H : List Blk} {b r ver ty n : Nat} {xs : List Bool} (hn : n = xs.length) (hb : b ≤ r) (hr : H[r]? = some ⟨ver, ty, 1, xs.map Bv⟩) : Froz H b (.nm r ver 0 n) (ilB xs) := by
  subst hn; exact froz_rowB hb hr
def CvR (H : List Blk) (q p n : Nat) (O W : List (List Int)) (one : Bool) (b0 : Nat) (ch : List Int) (st : VS) (r : AV) (H' : List Blk) : Prop :=
  r = .tup [] ∧ (∃ v fv, CvH H' q p n O W one b0 (itemsOf O ch) st v fv ∧ ColG H' (p + 1) v ch fv st.found) ∧ H.length ≤ H'.length ∧ ∀ j, j < q → H'[j]? = H[j]?
theorem cvSearch_ok (n : Nat) (O W : List (List Int)) (one : Bool) (b0 : Nat) (hcov : coverOk (n : Int) O = true) (hW : W = (List.range n).map fun (x : Nat) => optW (x : Int) O) (hb0 : b0 ≤ 20000) :
    ∀ (d : Nat) (H : List Blk) (q p : Nat) (ch : List Int) (st : VS) (v fv : AV), CvH H q p n O W one b0 (itemsOf O ch) st v fv → ColG H (p + 1) v ch fv st.found → q < p → ChOk O n ch → d + ch.length = n + 1 → st.left ≤ b0 → st.found.length + st.left ≤ 20000 →
    ACalls Try.prog f_impl_coverer_search [.pc p 0 0] H (CvR H q p n O W one b0 ch (vst O n one d ch st)) := by
  obtain ⟨n1, n64, hOl, hO⟩ := coverOk_n hcov
  intro d
  induction d with
  | zero =>
    intro H q p ch st v fv h hcg hqp hch hd
    have := hch.short
    omega
  | succ d ih =>
    intro H q p ch st v fv h hcg hqp hch hd hl hfl
    have hpa := fun o => pc_alive (off := o) h.box
    have hpl := fun o => pc_ld (off := o) h.box
    have hv := hcg.view
    obtain ⟨cellsF, hfv⟩ := hcg.viewC
    have hplt := (List.getElem?_eq_some_iff.1 h.box).1
    have stop : st.spent = true ∨ (one = true ∧ st.found ≠ []) → CvR H q p n O W one b0 ch (vst O n one (d + 1) ch st) (.tup []) H := fun hs => by
      rw [vst_stop hs]
      exact ⟨rfl, ⟨v, fv, h, hcg⟩, Nat.le_refl _, fun _ _ => rfl⟩
    have d0 : st.found ≠ [] → decide ((0 : Int) < st.found.length) = true := fun hf => decide_eq_true (by have := List.length_pos_iff.2 hf; omega)
    have d1 : st.found = [] → decide ((0 : Int) < st.found.length) = false := fun hf => decide_eq_false (by rw [hf]; simp)
    refine ACalls.introB s_impl_coverer_search (by simp) ?_; intro hB hA; unfold c_impl_coverer_search; simp (config := { maxSteps := 1000000 }) (disch := (first | omega | (simp only [go_sem]; try omega))) only [go_sem, Nat.reduceAdd, Nat.reduceEqDiff, Nat.reduceLeDiff, Nat.reduceMul, Nat.reduceLT, reduceIte, Int.reduceToNat, w64_id, cast_succ]
    by_cases hst : st.spent = true ∨ (one = true ∧ st.found ≠ [])
    · cases hsp : st.spent
      · rw [hsp] at hpl
        have e1 : one = true := by rcases hst with h | h; rw [hsp] at h; cases h; exact h.1
        have e2 := d0 (by rcases hst with h | h; rw [hsp] at h; cases h; exact h.2)
        rw [e1] at hpl
        repeat (first | (with_reducible first | refine SW.seq ?_ | refine SW.block ?_ | refine SW.rowC ?_ | refine SW.skip ?_ | refine SW.exit ?_ | intro _ | refine And.intro (by omega) ?_) | simp (config := { maxSteps := 1000000 }) (disch := (first | omega | (simp only [go_sem]; try omega))) only [go_sem, Nat.reduceAdd, Nat.reduceEqDiff, Nat.reduceLeDiff, Nat.reduceMul, Nat.reduceLT, reduceIte, Int.reduceToNat, w64_id, cast_succ, hpa, hpl, hfv, e2])
        refine SW.condT rfl ?_
        repeat (first | (with_reducible first | refine SW.seq ?_ | refine SW.block ?_ | refine SW.rowC ?_ | refine SW.skip ?_ | refine SW.exit ?_ | intro _ | refine And.intro (by omega) ?_) | simp (config := { maxSteps := 1000000 }) (disch := (first | omega | (simp only [go_sem]; try omega))) only [go_sem, Nat.reduceAdd, Nat.reduceEqDiff, Nat.reduceLeDiff, Nat.reduceMul, Nat.reduceLT, reduceIte, Int.reduceToNat, w64_id, cast_succ])
        refine SW.ret ⟨_, rfl, GR.of (stop hst)⟩
      · rw [hsp] at hpl
        repeat (first | (with_reducible first | refine SW.seq ?_ | refine SW.block ?_ | refine SW.rowC ?_ | refine SW.skip ?_ | refine SW.exit ?_ | intro _ | refine And.intro (by omega) ?_) | simp (config := { maxSteps := 1000000 }) (disch := (first | omega | (simp only [go_sem]; try omega))) only [go_sem, Nat.reduceAdd, Nat.reduceEqDiff, Nat.reduceLeDiff, Nat.reduceMul, Nat.reduceLT, reduceIte, Int.reduceToNat, w64_id, cast_succ, hpa, hpl])
        refine SW.condT rfl ?_
        repeat (first | (with_reducible first | refine SW.seq ?_ | refine SW.block ?_ | refine SW.rowC ?_ | refine SW.skip ?_ | refine SW.exit ?_ | intro _ | refine And.intro (by omega) ?_) | simp (config := { maxSteps := 1000000 }) (disch := (first | omega | (simp only [go_sem]; try omega))) only [go_sem, Nat.reduceAdd, Nat.reduceEqDiff, Nat.reduceLeDiff, Nat.reduceMul, Nat.reduceLT, reduceIte, Int.reduceToNat, w64_id, cast_succ])
        refine SW.ret ⟨_, rfl, GR.of (stop hst)⟩
    have hsp : st.spent = false := by
      cases hh : st.spent with
      | false => rfl
      | true => exact absurd (.inl hh) hst
    rw [hsp] at hpl
    refine SW.seqM (fun E' H' => aget E' 0 = .pc p 0 0 ∧ st.left ≠ 0 ∧ H' = H.set p ⟨0, tyCv, 1, [I ((st.left - 1 : Nat) : Int), Bv false, I n, ilSS O, ilSS W, Bv one, .nm q 0 0 n, v, I ((b0 - st.left : Nat) : Int), fv]⟩) ?_ ?_
    · have hnd := node_ok H p tyCv st.left false _ (by omega) (by have hbx := h.box; unfold cvB at hbx; rw [hsp] at hbx; exact hbx)
      have e2 : one = true → decide ((0 : Int) < st.found.length) = false := fun h1 => d1 (by
        by_cases hf : st.found = []
        · exact hf
        · exact absurd (.inr ⟨h1, hf⟩) hst)
      have fin : ∀ (r : AV) (H' : List Blk), (st.left = 0 ∧ r = Bv false ∧ H' = H.set p ⟨0, tyCv, 1, I st.left :: Bv true :: [I n, ilSS O, ilSS W, Bv one, .nm q 0 0 n, v, I ((b0 - st.left : Nat) : Int), fv]⟩) → CvR H q p n O W one b0 ch (vst O n one (d + 1) ch st) (.tup []) H' := by
        rintro r H' ⟨hl0, -, rfl⟩
        have e : vst O n one (d + 1) ch st = { st with spent := true } := by
          show (if st.spent = true ∨ (one = true ∧ st.found ≠ []) then st else if st.left = 0 then { st with spent := true } else _) = _
          rw [if_neg hst, if_pos hl0]
        rw [e]
        refine ⟨rfl, ⟨v, fv, ⟨List.getElem?_set_self hplt, by rw [List.getElem?_set_ne (by omega)]; exact h.cov⟩, hcg.same fun j b hj hb => by rw [List.getElem?_set_ne (by omega)]; exact hb⟩, by rw [List.length_set]; exact Nat.le_refl _, fun j hj => by rw [List.getElem?_set_ne (by omega)]⟩
      cases one
      · repeat (first | (with_reducible first | refine SW.seq ?_ | refine SW.block ?_ | refine SW.rowC ?_ | refine SW.skip ?_ | refine SW.exit ?_ | intro _ | refine And.intro (by omega) ?_) | simp (config := { maxSteps := 1000000 }) (disch := (first | omega | (simp only [go_sem]; try omega))) only [go_sem, Nat.reduceAdd, Nat.reduceEqDiff, Nat.reduceLeDiff, Nat.reduceMul, Nat.reduceLT, reduceIte, Int.reduceToNat, w64_id, cast_succ, hpa, hpl])
        refine hnd.mono ?_
        rintro r H1 (hh | ⟨hl0, rfl, rfl⟩)
        · have hf := fin r H1 hh
          obtain ⟨hl0, rfl, -⟩ := hh
          repeat (first | (with_reducible first | refine SW.seq ?_ | refine SW.block ?_ | refine SW.rowC ?_ | refine SW.skip ?_ | refine SW.exit ?_ | intro _ | refine And.intro (by omega) ?_) | simp (config := { maxSteps := 1000000 }) (disch := (first | omega | (simp only [go_sem]; try omega))) only [go_sem, Nat.reduceAdd, Nat.reduceEqDiff, Nat.reduceLeDiff, Nat.reduceMul, Nat.reduceLT, reduceIte, Int.reduceToNat, w64_id, cast_succ])
          refine SW.condT rfl ?_
          repeat (first | (with_reducible first | refine SW.seq ?_ | refine SW.block ?_ | refine SW.rowC ?_ | refine SW.skip ?_ | refine SW.exit ?_ | intro _ | refine And.intro (by omega) ?_) | simp (config := { maxSteps := 1000000 }) (disch := (first | omega | (simp only [go_sem]; try omega))) only [go_sem, Nat.reduceAdd, Nat.reduceEqDiff, Nat.reduceLeDiff, Nat.reduceMul, Nat.reduceLT, reduceIte, Int.reduceToNat, w64_id, cast_succ])
          exact SW.ret ⟨_, rfl, GR.of hf⟩
        · repeat (first | (with_reducible first | refine SW.seq ?_ | refine SW.block ?_ | refine SW.rowC ?_ | refine SW.skip ?_ | refine SW.exit ?_ | intro _ | refine And.intro (by omega) ?_) | simp (config := { maxSteps := 1000000 }) (disch := (first | omega | (simp only [go_sem]; try omega))) only [go_sem, Nat.reduceAdd, Nat.reduceEqDiff, Nat.reduceLeDiff, Nat.reduceMul, Nat.reduceLT, reduceIte, Int.reduceToNat, w64_id, cast_succ])
          refine SW.condF rfl ?_
          repeat (first | (with_reducible first | refine SW.seq ?_ | refine SW.block ?_ | refine SW.rowC ?_ | refine SW.skip ?_ | refine SW.exit ?_ | intro _ | refine And.intro (by omega) ?_) | simp (config := { maxSteps := 1000000 }) (disch := (first | omega | (simp only [go_sem]; try omega))) only [go_sem, Nat.reduceAdd, Nat.reduceEqDiff, Nat.reduceLeDiff, Nat.reduceMul, Nat.reduceLT, reduceIte, Int.reduceToNat, w64_id, cast_succ])
          exact hl0
      · have e2 := e2 rfl
        repeat (first | (with_reducible first | refine SW.seq ?_ | refine SW.block ?_ | refine SW.rowC ?_ | refine SW.skip ?_ | refine SW.exit ?_ | intro _ | refine And.intro (by omega) ?_) | simp (config := { maxSteps := 1000000 }) (disch := (first | omega | (simp only [go_sem]; try omega))) only [go_sem, Nat.reduceAdd, Nat.reduceEqDiff, Nat.reduceLeDiff, Nat.reduceMul, Nat.reduceLT, reduceIte, Int.reduceToNat, w64_id, cast_succ, hpa, hpl, hfv, e2])
        refine hnd.mono ?_
        rintro r H1 (hh | ⟨hl0, rfl, rfl⟩)
        · have hf := fin r H1 hh
          obtain ⟨hl0, rfl, -⟩ := hh
          repeat (first | (with_reducible first | refine SW.seq ?_ | refine SW.block ?_ | refine SW.rowC ?_ | refine SW.skip ?_ | refine SW.exit ?_ | intro _ | refine And.intro (by omega) ?_) | simp (config := { maxSteps := 1000000 }) (disch := (first | omega | (simp only [go_sem]; try omega))) only [go_sem, Nat.reduceAdd, Nat.reduceEqDiff, Nat.reduceLeDiff, Nat.reduceMul, Nat.reduceLT, reduceIte, Int.reduceToNat, w64_id, cast_succ])
          refine SW.condT rfl ?_
          repeat (first | (with_reducible first | refine SW.seq ?_ | refine SW.block ?_ | refine SW.rowC ?_ | refine SW.skip ?_ | refine SW.exit ?_ | intro _ | refine And.intro (by omega) ?_) | simp (config := { maxSteps := 1000000 }) (disch := (first | omega | (simp only [go_sem]; try omega))) only [go_sem, Nat.reduceAdd, Nat.reduceEqDiff, Nat.reduceLeDiff, Nat.reduceMul, Nat.reduceLT, reduceIte, Int.reduceToNat, w64_id, cast_succ])
          exact SW.ret ⟨_, rfl, GR.of hf⟩
        · repeat (first | (with_reducible first | refine SW.seq ?_ | refine SW.block ?_ | refine SW.rowC ?_ | refine SW.skip ?_ | refine SW.exit ?_ | intro _ | refine And.intro (by omega) ?_) | simp (config := { maxSteps := 1000000 }) (disch := (first | omega | (simp only [go_sem]; try omega))) only [go_sem, Nat.reduceAdd, Nat.reduceEqDiff, Nat.reduceLeDiff, Nat.reduceMul, Nat.reduceLT, reduceIte, Int.reduceToNat, w64_id, cast_succ])
          refine SW.condF rfl ?_
          repeat (first | (with_reducible first | refine SW.seq ?_ | refine SW.block ?_ | refine SW.rowC ?_ | refine SW.skip ?_ | refine SW.exit ?_ | intro _ | refine And.intro (by omega) ?_) | simp (config := { maxSteps := 1000000 }) (disch := (first | omega | (simp only [go_sem]; try omega))) only [go_sem, Nat.reduceAdd, Nat.reduceEqDiff, Nat.reduceLeDiff, Nat.reduceMul, Nat.reduceLT, reduceIte, Int.reduceToNat, w64_id, cast_succ])
          exact hl0
    · rintro E1 H1 ⟨e0, hl0, rfl⟩
      have hb1 : (H.set p ⟨0, tyCv, 1, [I ((st.left - 1 : Nat) : Int), Bv false, I n, ilSS O, ilSS W, Bv one, .nm q 0 0 n, v, I ((b0 - st.left : Nat) : Int), fv]⟩)[p]? = some ⟨0, tyCv, 1, [I ((st.left - 1 : Nat) : Int), Bv false, I n, ilSS O, ilSS W, Bv one, .nm q 0 0 n, v, I ((b0 - st.left : Nat) : Int), fv]⟩ := List.getElem?_set_self hplt
      have hpa1 := fun o => pc_alive (off := o) hb1
      have hpl1 := fun o => pc_ld (off := o) hb1
      have hn1 : ((b0 - st.left : Nat) : Int) + 1 = ((b0 - (st.left - 1) : Nat) : Int) := by omega
      have hn2 : w64 (((b0 - st.left : Nat) : Int) + 1) = ((b0 - (st.left - 1) : Nat) : Int) := by rw [hn1]; exact w64_id (by omega) (by omega)
      have hst1 : astore (H.set p ⟨0, tyCv, 1, [I ((st.left - 1 : Nat) : Int), Bv false, I n, ilSS O, ilSS W, Bv one, .nm q 0 0 n, v, I ((b0 - st.left : Nat) : Int), fv]⟩) [I ((b0 - (st.left - 1) : Nat) : Int)] (.pc p 0 8) = some (H.set p (cvB q n O W one b0 ⟨st.left - 1, false, st.found⟩ v fv)) := by rw [pc_st hb1 (by simp)]; simp [setMany, List.set_set]
      have h1 : CvH (H.set p (cvB q n O W one b0 ⟨st.left - 1, false, st.found⟩ v fv)) q p n O W one b0 (itemsOf O ch) ⟨st.left - 1, false, st.found⟩ v fv := ⟨List.getElem?_set_self hplt, by rw [List.getElem?_set_ne (by omega)]; exact h.cov⟩
      have hcg1 : ColG (H.set p (cvB q n O W one b0 ⟨st.left - 1, false, st.found⟩ v fv)) (p + 1) v ch fv st.found := hcg.same fun j b hj hb => by rw [List.getElem?_set_ne (by omega)]; exact hb
      have hl1 : (H.set p (cvB q n O W one b0 ⟨st.left - 1, false, st.found⟩ v fv)).length = H.length := List.length_set
      have hfr1 : ∀ j, j < q → (H.set p (cvB q n O W one b0 ⟨st.left - 1, false, st.found⟩ v fv))[j]? = H[j]? := fun j hj => by rw [List.getElem?_set_ne (by omega)]
      have hvst : vst O n one (d + 1) ch st = if (marks n (itemsOf O ch)).contains false = false then ⟨st.left - 1, false, st.found ++ [isort ch]⟩ else
          (chs O (itemsOf O ch) n).foldl (fun st k => vst O n one d (ch ++ [k]) st) ⟨st.left - 1, false, st.found⟩ := by
        show (if st.spent = true ∨ (one = true ∧ st.found ≠ []) then st else if st.left = 0 then { st with spent := true } else
          if (marks n (itemsOf O ch)).contains false = false then ⟨st.left - 1, st.spent, st.found ++ [isort ch]⟩ else
            (chs O (itemsOf O ch) n).foldl (fun st k => vst O n one d (ch ++ [k]) st) { st with left := st.left - 1 }) = _
        rw [if_neg hst, if_neg hl0, hsp]
      rw [hvst]
      repeat (first | (with_reducible first | refine SW.seq ?_ | refine SW.block ?_ | refine SW.rowC ?_ | refine SW.skip ?_ | refine SW.exit ?_ | intro _ | refine And.intro (by omega) ?_) | simp (config := { maxSteps := 1000000 }) (disch := (first | omega | (simp only [go_sem]; try omega))) only [go_sem, Nat.reduceAdd, Nat.reduceEqDiff, Nat.reduceLeDiff, Nat.reduceMul, Nat.reduceLT, reduceIte, Int.reduceToNat, w64_id, cast_succ, e0, hpa1, hpl1, hn1, hn2, hst1])
      generalize H.set p (cvB q n O W one b0 ⟨st.left - 1, false, st.found⟩ v fv) = X at *
      have hpa2 := fun o => pc_alive (off := o) h1.box
      have hpl2 := fun o => pc_ld (off := o) h1.box
      have hpX := (List.getElem?_eq_some_iff.1 h1.box).1
      have hqX := (List.getElem?_eq_some_iff.1 h1.cov).1
      have hv2 := hcg1.view
      simp (config := { maxSteps := 1000000 }) (disch := (first | omega | (simp only [go_sem]; try omega))) only [go_sem, Nat.reduceAdd, Nat.reduceEqDiff, Nat.reduceLeDiff, Nat.reduceMul, Nat.reduceLT, reduceIte, Int.reduceToNat, w64_id, cast_succ, hpa2, hpl2]
      repeat (first | (with_reducible first | refine SW.seq ?_ | refine SW.block ?_ | refine SW.rowC ?_ | refine SW.skip ?_ | refine SW.exit ?_ | intro _ | refine And.intro (by omega) ?_) | simp (config := { maxSteps := 1000000 }) (disch := (first | omega | (simp only [go_sem]; try omega))) only [go_sem, Nat.reduceAdd, Nat.reduceEqDiff, Nat.reduceLeDiff, Nat.reduceMul, Nat.reduceLT, reduceIte, Int.reduceToNat, w64_id, cast_succ, hpa2, hpl2])
      refine ((ContainsB_fn (marks n (itemsOf O ch)) false).lend (.cons (froz_rowB' (marks_length n _).symm (Nat.zero_le _) h1.cov) (.cons (froz_B' _) .nil))).mono ?_
      rintro r X ⟨rfl, rfl⟩
      cases hcv : (marks n (itemsOf O ch)).contains false
      · rw [if_pos rfl]
        repeat (first | (with_reducible first | refine SW.seq ?_ | refine SW.block ?_ | refine SW.rowC ?_ | refine SW.skip ?_ | refine SW.exit ?_ | intro _ | refine And.intro (by omega) ?_) | simp (config := { maxSteps := 1000000 }) (disch := (first | omega | (simp only [go_sem]; try omega))) only [go_sem, Nat.reduceAdd, Nat.reduceEqDiff, Nat.reduceLeDiff, Nat.reduceMul, Nat.reduceLT, reduceIte, Int.reduceToNat, w64_id, cast_succ])
        refine SW.condT rfl ?_
        repeat (first | (with_reducible first | refine SW.seq ?_ | refine SW.block ?_ | refine SW.rowC ?_ | refine SW.skip ?_ | refine SW.exit ?_ | intro _ | refine And.intro (by omega) ?_) | simp (config := { maxSteps := 1000000 }) (disch := (first | omega | (simp only [go_sem]; try omega))) only [go_sem, Nat.reduceAdd, Nat.reduceEqDiff, Nat.reduceLeDiff, Nat.reduceMul, Nat.reduceLT, reduceIte, Int.reduceToNat, w64_id, cast_succ, hpa2, hpl2, hv2])
        have hne : ch ≠ [] := by
          rintro rfl
          have : (marks n (itemsOf O [])).contains false = true := by
            rw [List.contains_iff_mem]
            exact List.mem_map.2 ⟨0, List.mem_range.2 (by omega), by simp [itemsOf]⟩
          rw [hcv] at this; cases this
        have hsh := hch.short
        refine (clone_ok X v ch hv2 (by omega)).mono ?_
        rintro r X1 ⟨ver, rfl, rfl⟩
        repeat (first | (with_reducible first | refine SW.seq ?_ | refine SW.block ?_ | refine SW.rowC ?_ | refine SW.skip ?_ | refine SW.exit ?_ | intro _ | refine And.intro (by omega) ?_) | simp (config := { maxSteps := 1000000 }) (disch := (first | omega | (simp only [go_sem]; try omega))) only [go_sem, Nat.reduceAdd, Nat.reduceEqDiff, Nat.reduceLeDiff, Nat.reduceMul, Nat.reduceLT, reduceIte, Int.reduceToNat, w64_id, cast_succ])
        refine (sortI_ok sortL_p sortL_n _ X.length ver 2 ch (by rw [List.getElem?_append_right (Nat.le_refl _), Nat.sub_self]; rfl) (by omega)).mono ?_
        rintro r X1 ⟨rfl, rfl⟩
        have hset : (X ++ [(⟨ver, 2, 1, ch.map I⟩ : Blk)]).set X.length (⟨ver, 2, 1, (isort ch).map I⟩ : Blk) = X ++ [(⟨ver, 2, 1, (isort ch).map I⟩ : Blk)] := by simp
        rw [hset]
        have hpa3 := fun o ext => pc_alive (off := o) (h1.append ext).box
        have hpl3 := fun o ext => pc_ld (off := o) (h1.append ext).box
        simp (config := { maxSteps := 1000000 }) (disch := (first | omega | (simp only [go_sem]; try omega))) only [go_sem, Nat.reduceAdd, Nat.reduceEqDiff, Nat.reduceLeDiff, Nat.reduceMul, Nat.reduceLT, reduceIte, Int.reduceToNat, w64_id, cast_succ]
        repeat (first | (with_reducible first | refine SW.seq ?_ | refine SW.block ?_ | refine SW.rowC ?_ | refine SW.skip ?_ | refine SW.exit ?_ | intro _ | refine And.intro (by omega) ?_) | simp (config := { maxSteps := 1000000 }) (disch := (first | omega | (simp only [go_sem]; try omega))) only [go_sem, Nat.reduceAdd, Nat.reduceEqDiff, Nat.reduceLeDiff, Nat.reduceMul, Nat.reduceLT, reduceIte, Int.reduceToNat, w64_id, cast_succ, hpa3, hpl3])
        refine hcg1.addX (r := X.length) (rv := ver) (rty := 2) hne (by omega) (Nat.le_refl _) (by omega) (fun j b _ hb => get_appU hb _) (by rw [List.getElem?_append_right (Nat.le_refl _), Nat.sub_self]; rfl) (isort_length ch).symm ?_
        intro fv' X1 g1 g2 g3
        have hx1 : X.length ≤ X1.length := by simp at g2; omega
        have hb4 : X1[p]? = some (cvB q n O W one b0 ⟨st.left - 1, false, st.found⟩ v fv) := by rw [g3 p (by omega)]; exact get_appU h1.box _
        have hp4l := (List.getElem?_eq_some_iff.1 hb4).1
        have hq4 : X1[q]? = some ⟨0, 4, 1, (marks n (itemsOf O ch)).map Bv⟩ := by rw [g3 q (by omega)]; exact get_appU h1.cov _
        have w1 : astore X1 [fv'] (.pc p 0 9) = some (X1.set p (cvB q n O W one b0 ⟨st.left - 1, false, st.found ++ [isort ch]⟩ v fv')) := by rw [pc_st hb4 (by simp)]; rfl
        have ra := fun o => pc_alive (off := o) hb4
        have rl := fun o => pc_ld (off := o) hb4
        simp (config := { maxSteps := 1000000 }) (disch := (first | omega | (simp only [go_sem]; try omega))) only [go_sem, Nat.reduceAdd, Nat.reduceEqDiff, Nat.reduceLeDiff, Nat.reduceMul, Nat.reduceLT, reduceIte, Int.reduceToNat, w64_id, cast_succ, ra, rl, w1, g1.one.2.1, g1.one.2.2]
        repeat (first | (with_reducible first | refine SW.seq ?_ | refine SW.block ?_ | refine SW.rowC ?_ | refine SW.skip ?_ | refine SW.exit ?_ | intro _ | refine And.intro (by omega) ?_) | simp (config := { maxSteps := 1000000 }) (disch := (first | omega | (simp only [go_sem]; try omega))) only [go_sem, Nat.reduceAdd, Nat.reduceEqDiff, Nat.reduceLeDiff, Nat.reduceMul, Nat.reduceLT, reduceIte, Int.reduceToNat, w64_id, cast_succ, ra, rl, w1, g1.one.2.1, g1.one.2.2])
        refine SW.ret ⟨_, rfl, GR.of ⟨rfl, ⟨v, fv', ⟨List.getElem?_set_self hp4l, by rw [List.getElem?_set_ne (by omega)]; exact hq4⟩, g1.same fun j b hj hb => by rw [List.getElem?_set_ne (by omega)]; exact hb⟩, by rw [List.length_set]; omega, fun j hj => ?_⟩⟩
        rw [List.getElem?_set_ne (by omega), g3 j (by omega), List.getElem?_append_left (by omega)]
        exact hfr1 j hj
      · rw [if_neg (by simp)]
        repeat (first | (with_reducible first | refine SW.seq ?_ | refine SW.block ?_ | refine SW.rowC ?_ | refine SW.skip ?_ | refine SW.exit ?_ | intro _ | refine And.intro (by omega) ?_) | simp (config := { maxSteps := 1000000 }) (disch := (first | omega | (simp only [go_sem]; try omega))) only [go_sem, Nat.reduceAdd, Nat.reduceEqDiff, Nat.reduceLeDiff, Nat.reduceMul, Nat.reduceLT, reduceIte, Int.reduceToNat, w64_id, cast_succ])
        refine SW.condF rfl ?_
        repeat (first | (with_reducible first | refine SW.seq ?_ | refine SW.block ?_ | refine SW.rowC ?_ | refine SW.skip ?_ | refine SW.exit ?_ | intro _ | refine And.intro (by omega) ?_) | simp (config := { maxSteps := 1000000 }) (disch := (first | omega | (simp only [go_sem]; try omega))) only [go_sem, Nat.reduceAdd, Nat.reduceEqDiff, Nat.reduceLeDiff, Nat.reduceMul, Nat.reduceLT, reduceIte, Int.reduceToNat, w64_id, cast_succ, hpa2, hpl2, hv2])
        obtain ⟨x0, hx0, hxd, -, hchs⟩ := chs_item (O := O) (D := itemsOf O ch) hcv
        refine (cvChoices_ok h1 n64 hW hO hOl).mono ?_
        rintro r X1 ⟨rfl, rfl⟩
        repeat (first | (with_reducible first | refine SW.seq ?_ | refine SW.block ?_ | refine SW.rowC ?_ | refine SW.skip ?_ | refine SW.exit ?_ | intro _ | refine And.intro (by omega) ?_) | simp (config := { maxSteps := 1000000 }) (disch := (first | omega | (simp only [go_sem]; try omega))) only [go_sem, Nat.reduceAdd, Nat.reduceEqDiff, Nat.reduceLeDiff, Nat.reduceMul, Nat.reduceLT, reduceIte, Int.reduceToNat, w64_id, cast_succ])
        rw [hchs]
        have hmem : ∀ k ∈ chL O (itemsOf O ch) (x0 : Int), (0 ≤ k ∧ k < O.length) ∧ opI O (itemsOf O ch) k = true ∧ ChOk O n (ch ++ [k]) := fun k hk => by
          obtain ⟨⟨g0, g1, g2⟩, g3⟩ := chL_mem.1 hk
          exact ⟨⟨g0, g1⟩, g3, hch.snoc hcov hk⟩
        have hLl := chL_len O (itemsOf O ch) (x0 : Int)
        generalize chL O (itemsOf O ch) (x0 : Int) = L at *
        refine SW.loopE (fun E0 H0 m E' H' => ∃ (pre post : List Int), L = pre ++ post ∧ m = post.length ∧ E' = aput E0 64 (I pre.length) ∧ (∃ v fv, CvH H' q p n O W one b0 (itemsOf O ch) (pre.foldl (fun st k => vst O n one d (ch ++ [k]) st) ⟨st.left - 1, false, st.found⟩) v fv ∧ ColG H' (p + 1) v ch fv (pre.foldl (fun st k => vst O n one d (ch ++ [k]) st) ⟨st.left - 1, false, st.found⟩).found) ∧ H.length ≤ H'.length ∧ ∀ j, j < q → H'[j]? = H[j]?) L.length
          ⟨[], L, rfl, rfl, rfl, ⟨v, fv, h1, hcg1⟩, by omega, hfr1⟩ ?_
        rintro m E' X2 ⟨pre, post, hpq, rfl, rfl, ⟨v2, fv2, h2, hcg2⟩, hl2, hfr2⟩
        have hsnoc := fun k => List.foldl_append (f := fun st k => vst O n one d (ch ++ [k]) st) (b := ⟨st.left - 1, false, st.found⟩) (l := pre) (l' := [k])
        have hinv : (pre.foldl (fun st k => vst O n one d (ch ++ [k]) st) ⟨st.left - 1, false, st.found⟩).left ≤ b0 ∧ (pre.foldl (fun st k => vst O n one d (ch ++ [k]) st) ⟨st.left - 1, false, st.found⟩).found.length + (pre.foldl (fun st k => vst O n one d (ch ++ [k]) st) ⟨st.left - 1, false, st.found⟩).left ≤ 20000 := by
          have key : ∀ (l : List Int) (s : VS), s.left ≤ b0 ∧ s.found.length + s.left ≤ 20000 → (l.foldl (fun st k => vst O n one d (ch ++ [k]) st) s).left ≤ b0 ∧ (l.foldl (fun st k => vst O n one d (ch ++ [k]) st) s).found.length + (l.foldl (fun st k => vst O n one d (ch ++ [k]) st) s).left ≤ 20000 := by
            intro l
            induction l with
            | nil => exact fun s hs => hs
            | cons k l ihl =>
              intro s hs
              rw [List.foldl_cons]
              have q1 := vst_left (O := O) (n := n) (one := one) d (ch ++ [k]) s
              have q2 := vst_found (O := O) (n := n) (one := one) d (ch ++ [k]) s
              exact ihl _ ⟨by omega, by omega⟩
          exact key _ _ ⟨by show st.left - 1 ≤ b0; omega, by show st.found.length + (st.left - 1) ≤ 20000; omega⟩
        generalize hs1 : pre.foldl (fun st k => vst O n one d (ch ++ [k]) st) ⟨st.left - 1, false, st.found⟩ = s1 at *
        simp (config := { maxSteps := 1000000 }) (disch := (first | omega | (simp only [go_sem]; try omega))) only [go_sem, Nat.reduceAdd, Nat.reduceEqDiff, Nat.reduceLeDiff, Nat.reduceMul, Nat.reduceLT, reduceIte, Int.reduceToNat, w64_id, cast_succ]
        repeat (first | (with_reducible first | refine SW.seq ?_ | refine SW.block ?_ | refine SW.rowC ?_ | refine SW.skip ?_ | refine SW.exit ?_ | intro _ | refine And.intro (by omega) ?_) | simp (config := { maxSteps := 1000000 }) (disch := (first | omega | (simp only [go_sem]; try omega))) only [go_sem, Nat.reduceAdd, Nat.reduceEqDiff, Nat.reduceLeDiff, Nat.reduceMul, Nat.reduceLT, reduceIte, Int.reduceToNat, w64_id, cast_succ])
        (first | refine SW.condD rfl (fun h3 => ?_) (fun h3 => ?_) | refine SW.condN rfl (fun h3 => ?_) (fun h3 => ?_) | refine SW.condNB rfl (fun h3 => ?_) (fun h3 => ?_) | refine SW.condB rfl (fun h3 => ?_) (fun h3 => ?_))
        · obtain ⟨k, post, rfl, hg, -⟩ := consOf (d := 0) hpq (by omega)
          obtain ⟨hk, hop, hch2⟩ := hmem k (by rw [hpq]; simp)
          have hom : ∀ x ∈ O.getD k.toNat [], 0 ≤ x ∧ x < (n : Int) := hO _ (by rw [getD_get (by omega)]; exact List.getElem_mem _)
          have hod : ∀ x ∈ O.getD k.toNat [], (itemsOf O ch).contains x = false := fun x hx => by
            unfold opI at hop
            rw [Bool.not_eq_true', List.any_eq_false] at hop
            exact Bool.not_eq_true _ ▸ hop x hx
          repeat (first | (with_reducible first | refine SW.seq ?_ | refine SW.block ?_ | refine SW.rowC ?_ | refine SW.skip ?_ | refine SW.exit ?_ | intro _ | refine And.intro (by omega) ?_) | simp (config := { maxSteps := 1000000 }) (disch := (first | omega | (simp only [go_sem]; try omega))) only [go_sem, Nat.reduceAdd, Nat.reduceEqDiff, Nat.reduceLeDiff, Nat.reduceMul, Nat.reduceLT, reduceIte, Int.reduceToNat, w64_id, cast_succ, hg])
          refine (cvMarkT_ok h2 (by omega) hk hom).mono ?_
          rintro r X3 ⟨rfl, rfl⟩
          have hqX2 := (List.getElem?_eq_some_iff.1 h2.cov).1
          have hpX2 := (List.getElem?_eq_some_iff.1 h2.box).1
          have h3 : CvH (X2.set q ⟨0, 4, 1, (marks n (itemsOf O ch ++ O.getD k.toNat [])).map Bv⟩) q p n O W one b0 (itemsOf O (ch ++ [k])) s1 v2 fv2 := by
            rw [itemsOf_snoc]
            exact ⟨by rw [List.getElem?_set_ne (by omega)]; exact h2.box, List.getElem?_set_self hqX2⟩
          have hcg3 : ColG (X2.set q ⟨0, 4, 1, (marks n (itemsOf O ch ++ O.getD k.toNat [])).map Bv⟩) (p + 1) v2 ch fv2 s1.found := hcg2.same fun j b hj hb => by rw [List.getElem?_set_ne (by omega)]; exact hb
          have hl3 : H.length ≤ (X2.set q ⟨0, 4, 1, (marks n (itemsOf O ch ++ O.getD k.toNat [])).map Bv⟩).length := by rw [List.length_set]; exact hl2
          have hfr3 : ∀ j, j < q → (X2.set q ⟨0, 4, 1, (marks n (itemsOf O ch ++ O.getD k.toNat [])).map Bv⟩)[j]? = H[j]? := fun j hj => by rw [List.getElem?_set_ne (by omega)]; exact hfr2 j hj
          generalize X2.set q ⟨0, 4, 1, (marks n (itemsOf O ch ++ O.getD k.toNat [])).map Bv⟩ = X3 at *
          have hpa3 := fun o => pc_alive (off := o) h3.box
          have hpl3 := fun o => pc_ld (off := o) h3.box
          have hpX3 := (List.getElem?_eq_some_iff.1 h3.box).1
          have hv3 := hcg3.view
          have hsh := hch.short
          simp (config := { maxSteps := 1000000 }) (disch := (first | omega | (simp only [go_sem]; try omega))) only [go_sem, Nat.reduceAdd, Nat.reduceEqDiff, Nat.reduceLeDiff, Nat.reduceMul, Nat.reduceLT, reduceIte, Int.reduceToNat, w64_id, cast_succ]
          repeat (first | (with_reducible first | refine SW.seq ?_ | refine SW.block ?_ | refine SW.rowC ?_ | refine SW.skip ?_ | refine SW.exit ?_ | intro _ | refine And.intro (by omega) ?_) | simp (config := { maxSteps := 1000000 }) (disch := (first | omega | (simp only [go_sem]; try omega))) only [go_sem, Nat.reduceAdd, Nat.reduceEqDiff, Nat.reduceLeDiff, Nat.reduceMul, Nat.reduceLT, reduceIte, Int.reduceToNat, w64_id, cast_succ, hpa3, hpl3, hv3])
          refine (hcg3.same (H' := X3 ++ [⟨0, 2, 1, [I k]⟩]) (fun j b _ hb => get_appU hb _)).push (by simp; omega) (by omega) ?_
          intro v4 X4 g1 g2 g3
          have hx4 : X3.length ≤ X4.length := by simp at g2; omega
          have hb4 : X4[p]? = some (cvB q n O W one b0 s1 v2 fv2) := by rw [g3 p (by omega)]; exact get_appU h3.box _
          have hp4l := (List.getElem?_eq_some_iff.1 hb4).1
          have hq4 : X4[q]? = some ⟨0, 4, 1, (marks n (itemsOf O (ch ++ [k]))).map Bv⟩ := by rw [g3 q (by omega)]; exact get_appU h3.cov _
          have w1 : astore X4 [v4] (.pc p 0 7) = some (X4.set p (cvB q n O W one b0 s1 v4 fv2)) := by rw [pc_st hb4 (by simp)]; rfl
          have h5 : CvH (X4.set p (cvB q n O W one b0 s1 v4 fv2)) q p n O W one b0 (itemsOf O (ch ++ [k])) s1 v4 fv2 := ⟨List.getElem?_set_self hp4l, by rw [List.getElem?_set_ne (by omega)]; exact hq4⟩
          have hcg5 : ColG (X4.set p (cvB q n O W one b0 s1 v4 fv2)) (p + 1) v4 (ch ++ [k]) fv2 s1.found := g1.same fun j b hj hb => by rw [List.getElem?_set_ne (by omega)]; exact hb
          have hl5 : H.length ≤ (X4.set p (cvB q n O W one b0 s1 v4 fv2)).length := by rw [List.length_set]; omega
          have hfr5 : ∀ j, j < q → (X4.set p (cvB q n O W one b0 s1 v4 fv2))[j]? = H[j]? := fun j hj => by
            rw [List.getElem?_set_ne (by omega), g3 j (by omega), List.getElem?_append_left (by omega)]; exact hfr3 j hj
          have ra := fun o => pc_alive (off := o) hb4
          have rl := fun o => pc_ld (off := o) hb4
          simp (config := { maxSteps := 1000000 }) (disch := (first | omega | (simp only [go_sem]; try omega))) only [go_sem, Nat.reduceAdd, Nat.reduceEqDiff, Nat.reduceLeDiff, Nat.reduceMul, Nat.reduceLT, reduceIte, Int.reduceToNat, w64_id, cast_succ, ra, rl, w1, g1.one.1.1, g1.one.1.2]
          repeat (first | (with_reducible first | refine SW.seq ?_ | refine SW.block ?_ | refine SW.rowC ?_ | refine SW.skip ?_ | refine SW.exit ?_ | intro _ | refine And.intro (by omega) ?_) | simp (config := { maxSteps := 1000000 }) (disch := (first | omega | (simp only [go_sem]; try omega))) only [go_sem, Nat.reduceAdd, Nat.reduceEqDiff, Nat.reduceLeDiff, Nat.reduceMul, Nat.reduceLT, reduceIte, Int.reduceToNat, w64_id, cast_succ, ra, rl, w1, g1.one.1.1, g1.one.1.2])
          generalize X4.set p (cvB q n O W one b0 s1 v4 fv2) = X5 at *
          refine (ih X5 q p (ch ++ [k]) s1 v4 fv2 h5 hcg5 hqp hch2 (by simp; omega) hinv.1 hinv.2).mono ?_
          rintro r X6 ⟨rfl, ⟨v6, fv6, h6, hcg6⟩, hl6, hfr6⟩
          have hsk : (pre ++ [k]).foldl (fun st k => vst O n one d (ch ++ [k]) st) ⟨st.left - 1, false, st.found⟩ = vst O n one d (ch ++ [k]) s1 := by rw [hsnoc]; rfl
          generalize vst O n one d (ch ++ [k]) s1 = s6 at *
          have hv6 := hcg6.view
          obtain ⟨t4, ver4, cells4, rfl, hx4', hy4, hcg7⟩ := hcg6.pop
          have hp6l := (List.getElem?_eq_some_iff.1 h6.box).1
          have hq6l := (List.getElem?_eq_some_iff.1 h6.cov).1
          have ra6 := fun o => pc_alive (off := o) h6.box
          have rl6 := fun o => pc_ld (off := o) h6.box
          rw [List.length_append, List.length_singleton] at hv6
          have hsl := fun K => slcNT (K := K) (r := t4) (v := ver4) (l := ch.length + 1) (n := ch.length + 1) (y := (ch.length : Int)) (cells := (ch ++ [k]).map I) (by rw [hx4']; rfl) (by omega) (by omega)
          rw [Int.toNat_natCast] at hsl
          have w2 : astore X6 [.nm t4 ver4 0 ch.length] (.pc p 0 7) = some (X6.set p (cvB q n O W one b0 s6 (.nm t4 ver4 0 ch.length) fv6)) := by rw [pc_st h6.box (by simp)]; rfl
          have h7 : CvH (X6.set p (cvB q n O W one b0 s6 (.nm t4 ver4 0 ch.length) fv6)) q p n O W one b0 (itemsOf O ch ++ O.getD k.toNat []) s6 (.nm t4 ver4 0 ch.length) fv6 := by
            rw [← itemsOf_snoc]
            exact ⟨List.getElem?_set_self hp6l, by rw [List.getElem?_set_ne (by omega)]; exact h6.cov⟩
          have hsub : ((ch.length + 1 : Nat) : Int) - 1 = (ch.length : Int) := by omega
          repeat (first | (with_reducible first | refine SW.seq ?_ | refine SW.block ?_ | refine SW.rowC ?_ | refine SW.skip ?_ | refine SW.exit ?_ | intro _ | refine And.intro (by omega) ?_) | simp (config := { maxSteps := 1000000 }) (disch := (first | omega | (simp only [go_sem]; try omega))) only [go_sem, Nat.reduceAdd, Nat.reduceEqDiff, Nat.reduceLeDiff, Nat.reduceMul, Nat.reduceLT, reduceIte, Int.reduceToNat, w64_id, cast_succ, ra6, rl6, hv6, hsl, w2, hsub, Option.map_some, Option.map_none])
          have hcg8 : ColG (X6.set p (cvB q n O W one b0 s6 (.nm t4 ver4 0 ch.length) fv6)) (p + 1) (.nm t4 ver4 0 ch.length) ch fv6 s6.found := hcg7.same fun j b hj hb => by rw [List.getElem?_set_ne (by omega)]; exact hb
          have hl8 : H.length ≤ (X6.set p (cvB q n O W one b0 s6 (.nm t4 ver4 0 ch.length) fv6)).length := by rw [List.length_set]; omega
          have hfr8 : ∀ j, j < q → (X6.set p (cvB q n O W one b0 s6 (.nm t4 ver4 0 ch.length) fv6))[j]? = H[j]? := fun j hj => by
            rw [List.getElem?_set_ne (by omega), hfr6 j hj]; exact hfr5 j hj
          generalize X6.set p (cvB q n O W one b0 s6 (.nm t4 ver4 0 ch.length) fv6) = X7 at *
          have hq7l := (List.getElem?_eq_some_iff.1 h7.cov).1
          refine (cvMarkF_ok (by omega) hk hom hod h7).mono ?_
          rintro r X8 ⟨rfl, rfl⟩
          have hwp : w64 ((pre.length : Int) + 1) = (pre.length : Int) + 1 := w64_id (by omega) (by rw [hpq] at hLl; simp at hLl; omega)
          repeat (first | (with_reducible first | refine SW.seq ?_ | refine SW.block ?_ | refine SW.rowC ?_ | refine SW.skip ?_ | refine SW.exit ?_ | intro _ | refine And.intro (by omega) ?_) | simp (config := { maxSteps := 1000000 }) (disch := (first | omega | (simp only [go_sem]; try omega))) only [go_sem, Nat.reduceAdd, Nat.reduceEqDiff, Nat.reduceLeDiff, Nat.reduceMul, Nat.reduceLT, reduceIte, Int.reduceToNat, w64_id, cast_succ, hwp])
          refine SLoop.next post.length (by simp) ⟨pre ++ [k], post, by simp [hpq], rfl, by simp [go_sem, hwp], ?_, by rw [List.length_set]; exact hl8, fun j hj => by rw [List.getElem?_set_ne (by omega)]; exact hfr8 j hj⟩
          rw [hsk]
          exact ⟨_, fv6, ⟨by rw [List.getElem?_set_ne (by omega)]; exact h7.box, List.getElem?_set_self hq7l⟩, hcg8.same fun j b hj hb => by rw [List.getElem?_set_ne (by omega)]; exact hb⟩
        · obtain ⟨rfl, rfl⟩ := nilOf hpq (by omega)
          repeat (first | (with_reducible first | refine SW.seq ?_ | refine SW.block ?_ | refine SW.rowC ?_ | refine SW.skip ?_ | refine SW.exit ?_ | intro _ | refine And.intro (by omega) ?_) | simp (config := { maxSteps := 1000000 }) (disch := (first | omega | (simp only [go_sem]; try omega))) only [go_sem, Nat.reduceAdd, Nat.reduceEqDiff, Nat.reduceLeDiff, Nat.reduceMul, Nat.reduceLT, reduceIte, Int.reduceToNat, w64_id, cast_succ])
          rw [hs1]
          exact ⟨_, rfl, GR.of ⟨rfl, ⟨v2, fv2, h2, hcg2⟩, hl2, hfr2⟩⟩
end Go.Proofs.Ytnlfokkljgbaaaa
