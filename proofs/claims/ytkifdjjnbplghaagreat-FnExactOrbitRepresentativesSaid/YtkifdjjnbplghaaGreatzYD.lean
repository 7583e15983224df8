/- OrbitRepresentatives: both functions. -/
import Derived.Test.YtkifdjjnbplghaaGreatProg
import Derived.KernelRfl
import Derived.Test.YtkifdjjnbplghaaGreatzYB
import Derived.Test.YtkifdjjnbplghaaGreatzY7
import Derived.Test.YtkifdjjnbplghaaGreatzK18
set_option linter.unusedSimpArgs false
set_option linter.unusedVariables false
set_option maxHeartbeats 4000000
set_option maxRecDepth 100000
namespace Go.Proofs.YtkifdjjnbplghaaGreat
open Go.Av
abbrev f_spec_OrbitRepresentatives : Nat := 23
def c_spec_OrbitRepresentatives : SC :=
 .seq (.reg [
     ⟨(some 2), .box 33 (.tmp 0), none⟩,
     ⟨(some 4), .mv (.const (.slice none 0 0)), none⟩,
     ⟨(some 5), .mv (.const (.int .i64 0)), none⟩] [1, 2])
 (.seq (.reg [
     ⟨(some 10), .mv (.tmp 1), none⟩,
     ⟨(some 11), .call 51 [(.tmp 2), (.tmp 10)], none⟩,
     ⟨(some 6), .mv (.tmp 11), none⟩] [1, 2, 6])
 (.seq (.seq (.reg [
     ⟨(some 12), .mv (.tmp 6), none⟩,
     ⟨(some 13), .bin .neq (.tmp 12) (.const (.int .i64 0)), none⟩] [1, 2, 6, 13])
 (.cond (.tmp 13)
  (.seq (.reg [
      ⟨(some 14), .mv (.tmp 6), none⟩,
      ⟨(some 4), .mv (.const (.slice none 0 0)), none⟩,
      ⟨(some 5), .mv (.tmp 14), none⟩] [4, 5])
  (.ret))
  (.skip)))
 (.seq (.reg [
     ⟨(some 15), .mv (.tmp 1), none⟩,
     ⟨(some 16), .call 52 [(.tmp 2), (.tmp 15)], none⟩,
     ⟨(some 7), .mv (.tmp 16), none⟩] [7])
 (.seq (.reg [
     ⟨(some 17), .bslice 51 1 0 [] [], none⟩,
     ⟨(some 8), .mv (.tmp 17), none⟩] [7, 8])
 (.seq (.seq (.reg [
     ⟨(some 9), .mv (.const (.int .i64 0)), none⟩] [7, 8, 9])
 (.block 0 (.loop [7, 8, 9]
   (.seq (.seq (.reg [
       ⟨(some 18), .mv (.tmp 9), none⟩,
       ⟨(some 19), .mv (.tmp 7), none⟩,
       ⟨(some 20), .len (.tmp 19), none⟩,
       ⟨(some 21), .bin .lss (.tmp 18) (.tmp 20), none⟩] [7, 8, 9, 21])
   (.cond (.tmp 21)
    (.skip)
    (.exit 0)))
   (.seq (.block 1 (.reg [
        ⟨(some 24), .mv (.tmp 8), none⟩,
        ⟨(some 25), .mv (.tmp 7), none⟩,
        ⟨(some 26), .mv (.tmp 9), none⟩,
        ⟨(some 27), .iaddr 1 (.tmp 25) (.tmp 26), none⟩,
        ⟨(some 28), .load 1 false (.tmp 27), none⟩,
        ⟨(some 29), .iaddr 1 (.tmp 28) (.const (.int .i64 0)), none⟩,
        ⟨(some 30), .load 1 false (.tmp 29), none⟩,
        ⟨(some 31), .bslice 51 1 1 [(.slice none 0 0)] [(0, (.tmp 30))], none⟩,
        ⟨(some 32), .app 51 1 24 (.tmp 24) (.tmp 31), none⟩,
        ⟨(some 8), .mv (.tmp 32), none⟩] [7, 8, 9]))
   (.reg [
       ⟨(some 22), .mv (.tmp 9), none⟩,
       ⟨(some 23), .bin .add (.tmp 22) (.const (.int .i64 1)), none⟩,
       ⟨(some 9), .mv (.tmp 23), none⟩] [7, 8, 9]))))))
 (.seq (.reg [
     ⟨(some 33), .mv (.tmp 8), none⟩,
     ⟨(some 4), .mv (.tmp 33), none⟩,
     ⟨(some 5), .mv (.const (.int .i64 0)), none⟩] [4, 5])
 (.ret)))))))
theorem s_spec_OrbitRepresentatives : stripF Tryz.prog 23 [[1, 2], [1, 2, 6], [1, 2, 6, 13], [4, 5], [7], [7, 8], [7, 8, 9], [7, 8, 9], [7, 8, 9, 21], [7, 8, 9], [7, 8, 9], [4, 5]] = some (c_spec_OrbitRepresentatives, [.tmp 4, .tmp 5], 34) := by kernel_rfl
abbrev f_impl_OrbitRepresentatives : Nat := 24
def c_impl_OrbitRepresentatives : SC :=
 .seq (.reg [
     ⟨(some 2), .box 33 (.tmp 0), none⟩,
     ⟨(some 4), .mv (.const (.slice none 0 0)), none⟩,
     ⟨(some 5), .mv (.const (.int .i64 0)), none⟩] [1, 2])
 (.seq (.seq (.reg [
     ⟨(some 10), .load 2 true (.tmp 2), none⟩,
     ⟨(some 11), .mv (.tmp 1), none⟩,
     ⟨(some 12), .bslice 2 1 1 [(.int .i64 0)] [(0, (.tmp 11))], none⟩,
     ⟨(some 13), .call 53 [(.tmp 10), (.tmp 12)], none⟩,
     ⟨(some 6), .mv (.tmp 13), none⟩] [1, 2, 6])
 (.seq (.reg [
     ⟨(some 14), .mv (.tmp 6), none⟩,
     ⟨(some 15), .bin .neq (.tmp 14) (.const (.int .i64 0)), none⟩] [1, 2, 6, 15])
 (.cond (.tmp 15)
  (.seq (.reg [
      ⟨(some 16), .mv (.tmp 6), none⟩,
      ⟨(some 4), .mv (.const (.slice none 0 0)), none⟩,
      ⟨(some 5), .mv (.tmp 16), none⟩] [4, 5])
  (.ret))
  (.skip))))
 (.seq (.reg [
     ⟨(some 7), .mv (.const (.slice none 0 0)), none⟩] [1, 2, 7])
 (.seq (.seq (.reg [
     ⟨(some 17), .load 2 true (.tmp 2), none⟩,
     ⟨(some 18), .mv (.tmp 1), none⟩,
     ⟨(some 19), .call 54 [(.tmp 17), (.tmp 18)], none⟩,
     ⟨(some 20), .len (.tmp 19), none⟩,
     ⟨(some 21), .mv (.const (.int .i64 0)), none⟩] [7, 19, 20, 21])
 (.block 0 (.loop [7, 19, 20, 21]
   (.seq (.reg [
       ⟨(some 22), .bin .lss (.tmp 21) (.tmp 20), none⟩] [7, 19, 20, 21, 22])
   (.seq (.cond (.tmp 22)
    (.skip)
    (.exit 0))
   (.seq (.block 1 (.seq (.reg [
        ⟨(some 23), .iaddr 1 (.tmp 19) (.tmp 21), none⟩,
        ⟨(some 24), .load 1 false (.tmp 23), none⟩,
        ⟨(some 9), .mv (.tmp 24), none⟩] [7, 9, 19, 20, 21])
    (.reg [
        ⟨(some 25), .mv (.tmp 7), none⟩,
        ⟨(some 26), .mv (.tmp 9), none⟩,
        ⟨(some 27), .iaddr 1 (.tmp 26) (.const (.int .i64 0)), none⟩,
        ⟨(some 28), .load 1 false (.tmp 27), none⟩,
        ⟨(some 29), .bslice 51 1 1 [(.slice none 0 0)] [(0, (.tmp 28))], none⟩,
        ⟨(some 30), .app 51 1 24 (.tmp 25) (.tmp 29), none⟩,
        ⟨(some 7), .mv (.tmp 30), none⟩] [7, 19, 20, 21])))
   (.reg [
       ⟨(some 31), .bin .add (.tmp 21) (.const (.int .i64 1)), none⟩,
       ⟨(some 21), .mv (.tmp 31), none⟩] [7, 19, 20, 21])))))))
 (.seq (.reg [
     ⟨(some 32), .mv (.tmp 7), none⟩,
     ⟨(some 4), .mv (.tmp 32), none⟩,
     ⟨(some 5), .mv (.const (.int .i64 0)), none⟩] [4, 5])
 (.ret)))))
theorem s_impl_OrbitRepresentatives : stripF Tryz.prog 24 [[1, 2], [1, 2, 6], [1, 2, 6, 15], [4, 5], [1, 2, 7], [7, 19, 20, 21], [7, 19, 20, 21], [7, 19, 20, 21, 22], [7, 9, 19, 20, 21], [7, 19, 20, 21], [7, 19, 20, 21], [4, 5]] = some (c_impl_OrbitRepresentatives, [.tmp 4, .tmp 5], 33) := by kernel_rfl
theorem soV_sets (n : Int) (els : List (List Int)) (k : Int) : ∀ R ∈ soV n els k, R ≠ [] ∧ R.length ≤ 720 ∧ ∀ s ∈ R, s.length ≤ 32 := by
  unfold soV
  split
  · rename_i h
    obtain ⟨hg, k0, k1, hc, en, ek⟩ := askV_zero h
    intro R hR
    unfold orbsV at hR
    have h1 := orbL_rows hg.2.1.1 hg.2.1.2 _ R hR
    have hn := hg.1
    exact ⟨h1.1, h1.2, orbL_sets (by omega) (by have := hg.2.2.1; rw [en] at this; exact this) _ (Nat.le_refl _) R hR⟩
  · simp
noncomputable def orV (n : Int) (els : List (List Int)) (k : Int) : List (List Int) := (soV n els k).map fun R => R.getD 0 []
theorem orV_len (n : Int) (els : List (List Int)) (k : Int) : (orV n els k).length ≤ 2000 := by
  have := soV_len n els k
  unfold orV; simpa using this
theorem orV_tot (n : Int) (els : List (List Int)) (k : Int) : total (orV n els k) ≤ 64000 := by
  have h1 := orV_len n els k
  have h2 := total_le (c := 32) (xss := orV n els k) (fun x hx => by
    unfold orV at hx
    obtain ⟨R, hR, rfl⟩ := List.mem_map.1 hx
    obtain ⟨g1, -, g3⟩ := soV_sets n els k R hR
    cases R with
    | nil => exact absurd rfl g1
    | cons a b => exact g3 a (by simp))
  omega
theorem OwnSS.head {H : List Blk} {N : Nat → Prop} {a : AV} {R : List (List Int)} (h : OwnSS H N a R) (hR : R ≠ []) :
    ∃ t ver ty cells c, a = .nm t ver 0 R.length ∧ H[t]? = some ⟨ver, ty, 1, cells⟩ ∧ cells.length = R.length ∧ cells[0]? = some c ∧ OwnS H N t c (R.getD 0 []) ∧ c.cell1 = true ∧ partsOf c = [c] := by
  cases R with
  | nil => exact absurd rfl hR
  | cons y r =>
    rcases h with ⟨t, ver, ty, cells, rfl, o1, o2, o3, o4, o5⟩ | ⟨h, _⟩
    · have h0 : cells[0]? = some (cells.getD 0 nilS) := by rw [List.getD_eq_getElem?_getD, List.getElem?_eq_getElem (by rw [o3]; simp)]; rfl
      have hO := o4 0 _ _ h0 rfl
      refine ⟨t, ver, ty, cells, _, rfl, o2, o3, h0, hO, ?_⟩
      rcases hO with ⟨r, v, ty, h, _⟩ | ⟨_, h | h⟩ <;> rw [h] <;> exact ⟨rfl, rfl⟩
    · simp at h
theorem implOrbitReps_fss (n : Int) (els : List (List Int)) (k : Int) (hl : ∀ x ∈ els, x.length ≤ 2000000) (hl2 : els.length ≤ 2000000) :
    FSS Tryz.prog f_impl_OrbitRepresentatives [.agg [I n, ilSS els], I k] (orV n els k) (askV n els k) := by
  intro H
  have hq := countable_fn n els [k] hl hl2
  rw [askL_one] at hq
  have hso := soV_sets n els k
  have hsl := soV_len n els k
  unfold orV
  unfold soV at hso hsl ⊢
  by_cases h0 : askV n els k = 0
  · rw [if_pos h0] at hso hsl ⊢
    rw [h0] at hq ⊢
    obtain ⟨hg, k0, k1, hc, en, ek⟩ := askV_zero h0
    have hs := fun H => subsetOrbits_own H n.toNat k.toNat els (by have := hg.1; omega) hg.2.1.1 hg.2.1.2 (hg.2.2.1) (by omega) hc
    rw [← en, ← ek] at hs
    change ∀ H, ACalls Tryz.prog f_impl_subsetOrbits [.agg [I n, ilSS els], I k] H (fun r H' => ∃ ext, H' = H ++ ext ∧ OwnX H' (Btw H.length H'.length) r (orbsV n els k)) at hs
    generalize orbsV n els k = V at *
    refine ACalls.introB s_impl_OrbitRepresentatives (by simp) ?_; intro hB hA; unfold c_impl_OrbitRepresentatives; simp (config := { maxSteps := 1000000 }) (disch := (first | omega | (simp only [go_sem]; try omega))) only [go_sem, Nat.reduceAdd, Nat.reduceEqDiff, Nat.reduceLeDiff, Nat.reduceMul, Nat.reduceLT, reduceIte, Int.reduceToNat, w64_id, cast_succ]
    repeat (first | (with_reducible first | refine SW.seq ?_ | refine SW.block ?_ | refine SW.rowC ?_ | refine SW.skip ?_ | refine SW.exit ?_ | intro _ | refine And.intro (by omega) ?_) | simp (config := { maxSteps := 1000000 }) (disch := (first | omega | (simp only [go_sem]; try omega))) only [go_sem, Nat.reduceAdd, Nat.reduceEqDiff, Nat.reduceLeDiff, Nat.reduceMul, Nat.reduceLT, reduceIte, Int.reduceToNat, w64_id, cast_succ])
    refine hq.usel (.cons (froz_agg2 (froz_I' _) (froz_ilSS _)) (.cons (froz_row (r := H.length + 1) (ver := 0) (ty := 2) (xs := [k]) (Nat.zero_le _) (by simp)) .nil)) ?_
    repeat (first | (with_reducible first | refine SW.seq ?_ | refine SW.block ?_ | refine SW.rowC ?_ | refine SW.skip ?_ | refine SW.exit ?_ | intro _ | refine And.intro (by omega) ?_) | simp (config := { maxSteps := 1000000 }) (disch := (first | omega | (simp only [go_sem]; try omega))) only [go_sem, Nat.reduceAdd, Nat.reduceEqDiff, Nat.reduceLeDiff, Nat.reduceMul, Nat.reduceLT, reduceIte, Int.reduceToNat, w64_id, cast_succ])
    refine SW.condF rfl ?_
    repeat (first | (with_reducible first | refine SW.seq ?_ | refine SW.block ?_ | refine SW.rowC ?_ | refine SW.skip ?_ | refine SW.exit ?_ | intro _ | refine And.intro (by omega) ?_) | simp (config := { maxSteps := 1000000 }) (disch := (first | omega | (simp only [go_sem]; try omega))) only [go_sem, Nat.reduceAdd, Nat.reduceEqDiff, Nat.reduceLeDiff, Nat.reduceMul, Nat.reduceLT, reduceIte, Int.reduceToNat, w64_id, cast_succ])
    refine (hs _).mono ?_
    rintro r H1 ⟨ext, hH1, own⟩
    have hpx : ∃ e, H1 = H ++ e := ⟨_, by rw [hH1, List.append_assoc]⟩
    have hlt : H.length + 2 ≤ H1.length := by rw [hH1]; simp
    have hlH : (H ++ [(⟨0, tyG, 1, [I n, ilSS els]⟩ : Blk), ⟨0, 2, 1, [I k]⟩]).length = H.length + 2 := by simp
    rw [hlH] at own
    clear hH1
    have hone := own.one
    obtain ⟨oc, hvo, hol, -⟩ := own.rd
    repeat (first | (with_reducible first | refine SW.seq ?_ | refine SW.block ?_ | refine SW.rowC ?_ | refine SW.skip ?_ | refine SW.exit ?_ | intro _ | refine And.intro (by omega) ?_) | simp (config := { maxSteps := 1000000 }) (disch := (first | omega | (simp only [go_sem]; try omega))) only [go_sem, Nat.reduceAdd, Nat.reduceEqDiff, Nat.reduceLeDiff, Nat.reduceMul, Nat.reduceLT, reduceIte, Int.reduceToNat, w64_id, cast_succ, hvo])
    refine SW.ghost (Gh.name 7 51 1 rfl) ?_
    simp (config := { maxSteps := 1000000 }) (disch := (first | omega | (simp only [go_sem]; try omega))) only [go_sem, Nat.reduceAdd, Nat.reduceEqDiff, Nat.reduceLeDiff, Nat.reduceMul, Nat.reduceLT, reduceIte, Int.reduceToNat, w64_id, cast_succ]
    rcases own with ⟨t0, ver0, ty0, oc0, M, rfl, oX⟩ | ⟨hV, rfl⟩
    · have hX := oX
      obtain ⟨x1, x2, x3, x4, x5, x6⟩ := oX
      have hvo : aview H1 (.nm t0 ver0 0 V.length) = some (V.length, oc0) := view_nm x2 x3
      refine SW.loopE (fun E0 H0 q E' H' => ∃ (pre post : List (List (List Int))) (ver : Nat) (cells : List AV), V = pre ++ post ∧ q = post.length ∧ E' = aput (aput E0 21 (I pre.length)) 7 (.nm H1.length ver 0 pre.length) ∧ H'[H1.length]? = some ⟨ver, 51, 1, cells⟩ ∧ cells.length = pre.length ∧ (∀ j c, cells[j]? = some c → ∃ t R, V[j]? = some R ∧ OwnS H1 (M j) t c (R.getD 0 [])) ∧ ∀ j, j < H1.length → H'[j]? = H1[j]?) V.length ⟨[], V, 0, [], rfl, rfl, rfl, by simp, rfl, by simp, fun j hj => by rw [List.getElem?_append_left hj]⟩ ?_
      rintro q E' H2 ⟨pre, post, ver, cells, hpp, rfl, rfl, hb, hcl, hrow, hpre⟩
      have hprl : pre.length ≤ 2000 := by rw [hpp] at hsl; simp at hsl; omega
      have hup : ∀ {j b}, H1[j]? = some b → H2[j]? = some b := fun {j b} h => (hpre j (List.getElem?_eq_some_iff.1 h).1).trans h
      have hv2 : aview H2 (.nm t0 ver0 0 V.length) = some (V.length, oc0) := view_nm (hup x2) x3
      simp (config := { maxSteps := 1000000 }) (disch := (first | omega | (simp only [go_sem]; try omega))) only [go_sem, Nat.reduceAdd, Nat.reduceEqDiff, Nat.reduceLeDiff, Nat.reduceMul, Nat.reduceLT, reduceIte, Int.reduceToNat, w64_id, cast_succ]
      repeat (first | (with_reducible first | refine SW.seq ?_ | refine SW.block ?_ | refine SW.rowC ?_ | refine SW.skip ?_ | refine SW.exit ?_ | intro _ | refine And.intro (by omega) ?_) | simp (config := { maxSteps := 1000000 }) (disch := (first | omega | (simp only [go_sem]; try omega))) only [go_sem, Nat.reduceAdd, Nat.reduceEqDiff, Nat.reduceLeDiff, Nat.reduceMul, Nat.reduceLT, reduceIte, Int.reduceToNat, w64_id, cast_succ])
      (first | refine SW.condD rfl (fun h2 => ?_) (fun h2 => ?_) | refine SW.condN rfl (fun h2 => ?_) (fun h2 => ?_) | refine SW.condNB rfl (fun h2 => ?_) (fun h2 => ?_) | refine SW.condB rfl (fun h2 => ?_) (fun h2 => ?_))
      · obtain ⟨y, post, rfl, -, -⟩ := consOf (d := []) hpp (by omega)
        have hpV : pre.length < V.length := by rw [hpp]; simp
        have hpo : pre.length < oc0.length := by omega
        have hci : oc0[pre.length]? = some oc0[pre.length] := List.getElem?_eq_getElem hpo
        have hyi : V[pre.length]? = some y := by rw [hpp]; simp
        have hyn := (hso y (by rw [hpp]; simp)).1
        obtain ⟨t2, v2, ty2, cs2, c, w1, w2, w3, w4, w5, w6, w7⟩ := (x4 _ _ _ hci hyi).head hyn
        have hv3 : aview H2 (.nm t2 v2 0 y.length) = some (y.length, cs2) := view_nm (hup w2) w3
        have hy0 : 0 < y.length := by cases y with
          | nil => exact absurd rfl hyn
          | cons a b => simp
        have hba := fun ext => get_appB2 hb ext
        repeat (first | (with_reducible first | refine SW.seq ?_ | refine SW.block ?_ | refine SW.rowC ?_ | refine SW.skip ?_ | refine SW.exit ?_ | intro _ | refine And.intro (by omega) ?_) | simp (config := { maxSteps := 1000000 }) (disch := (first | omega | (simp only [go_sem]; try omega))) only [go_sem, Nat.reduceAdd, Nat.reduceEqDiff, Nat.reduceLeDiff, Nat.reduceMul, Nat.reduceLT, reduceIte, Int.reduceToNat, w64_id, cast_succ, hv2, idxc hv2 hpV, ldc hv2 hci, w1, hv3, w4, w6, w7, hba])
        have hl1 := (List.getElem?_eq_some_iff.1 hb).1
        refine SLoop.next post.length (by simp) ⟨pre ++ [y], post, ver + 1, cells ++ [c], by simp [hpp], rfl, by simp [go_sem], ?_, by simp [hcl], ?_, fun j hj => ?_⟩
        · rw [List.getElem?_set_self (by simp; omega), List.take_of_length_le (by omega)]
        · intro j c' hj
          by_cases hjl : j < cells.length
          · rw [List.getElem?_append_left hjl] at hj
            exact hrow j c' hj
          · rw [List.getElem?_append_right (by omega)] at hj
            have hj' : j = pre.length := by
              have := (List.getElem?_eq_some_iff.1 hj).1
              simp at this; omega
            subst hj'
            rw [hcl, Nat.sub_self] at hj
            simp at hj; subst hj
            exact ⟨t2, y, hyi, w5⟩
        · rw [List.getElem?_set_ne (by omega), List.getElem?_append_left (by omega)]; exact hpre j hj
      · obtain ⟨rfl, rfl⟩ := nilOf hpp (by omega)
        have hl1 := (List.getElem?_eq_some_iff.1 hb).1
        repeat (first | (with_reducible first | refine SW.seq ?_ | refine SW.block ?_ | refine SW.rowC ?_ | refine SW.skip ?_ | refine SW.exit ?_ | intro _ | refine And.intro (by omega) ?_) | simp (config := { maxSteps := 1000000 }) (disch := (first | omega | (simp only [go_sem]; try omega))) only [go_sem, Nat.reduceAdd, Nat.reduceEqDiff, Nat.reduceLeDiff, Nat.reduceMul, Nat.reduceLT, reduceIte, Int.reduceToNat, w64_id, cast_succ])
        refine SW.ret ?_; (try simp only [go_sem]); (first | refine FunPost.one ?_ | refine FunPost.two ?_ | refine FunPost.three ?_); (try simp (config := { maxSteps := 1000000 }) (disch := (first | omega | (simp only [go_sem]; try omega))) only [go_sem, Nat.reduceAdd, Nat.reduceEqDiff, Nat.reduceLeDiff, Nat.reduceMul, Nat.reduceLT, reduceIte, Int.reduceToNat, w64_id, cast_succ])
        obtain ⟨e, he⟩ := hpx
        obtain ⟨e2, he2⟩ := prefix_of (H := H) (H' := H2) (by omega) (fun j hj => by rw [hpre j (by omega), he, List.getElem?_append_left hj])
        refine GR.of ⟨e2, _, he2, rfl, .inl ⟨H1.length, ver, 51, cells, by simp, ⟨by omega, hl1⟩, hb, by simp [hcl], ?_, ?_⟩⟩
        · intro j c xs q1 q2
          obtain ⟨t, R, hR, ho⟩ := hrow j c q1
          rw [List.getElem?_map, hR] at q2
          simp only [Option.map_some, Option.some.injEq] at q2
          rw [q2] at ho
          rcases ho with ⟨r, v, ty, rfl, g1, g2, g3⟩ | h
          · have hr1 := (x5 j r g1).1
            have hr2 := hr1.1
            have hr3 := hr1.2
            exact .inl ⟨r, v, ty, rfl, ⟨by omega, by omega⟩, by omega, hup g3⟩
          · exact .inr h
        · intro i j r v o l v' o' l' hij q1 q2
          obtain ⟨t, R, hR, ho⟩ := hrow i _ q1
          obtain ⟨t', R', hR', ho'⟩ := hrow j _ q2
          have hm : ∀ {N : Nat → Prop} {t : Nat} {v o l : Nat} {xs : List Int}, OwnS H1 N t (.nm r v o l) xs → N r := by
            intro N t v o l xs h
            rcases h with ⟨r1, v1, ty1, h, g1, _⟩ | ⟨_, h | h⟩
            · simp only [AV.nm.injEq] at h
              rw [h.1]; exact g1
            · simp [nilS] at h
            · simp at h
          exact hij (x6 i j r (hm ho) (hm ho'))
    · subst hV
      refine SW.loopE (fun E0 H0 q E' H' => q = 0 ∧ E' = E0 ∧ H' = H0) 0 ⟨rfl, rfl, rfl⟩ ?_
      rintro q E' H2 ⟨rfl, rfl, rfl⟩
      simp (config := { maxSteps := 1000000 }) (disch := (first | omega | (simp only [go_sem]; try omega))) only [go_sem, Nat.reduceAdd, Nat.reduceEqDiff, Nat.reduceLeDiff, Nat.reduceMul, Nat.reduceLT, reduceIte, Int.reduceToNat, w64_id, cast_succ]
      repeat (first | (with_reducible first | refine SW.seq ?_ | refine SW.block ?_ | refine SW.rowC ?_ | refine SW.skip ?_ | refine SW.exit ?_ | intro _ | refine And.intro (by omega) ?_) | simp (config := { maxSteps := 1000000 }) (disch := (first | omega | (simp only [go_sem]; try omega))) only [go_sem, Nat.reduceAdd, Nat.reduceEqDiff, Nat.reduceLeDiff, Nat.reduceMul, Nat.reduceLT, reduceIte, Int.reduceToNat, w64_id, cast_succ])
      (first | refine SW.condD rfl (fun h2 => ?_) (fun h2 => ?_) | refine SW.condN rfl (fun h2 => ?_) (fun h2 => ?_) | refine SW.condNB rfl (fun h2 => ?_) (fun h2 => ?_) | refine SW.condB rfl (fun h2 => ?_) (fun h2 => ?_))
      · simp at h2
      · repeat (first | (with_reducible first | refine SW.seq ?_ | refine SW.block ?_ | refine SW.rowC ?_ | refine SW.skip ?_ | refine SW.exit ?_ | intro _ | refine And.intro (by omega) ?_) | simp (config := { maxSteps := 1000000 }) (disch := (first | omega | (simp only [go_sem]; try omega))) only [go_sem, Nat.reduceAdd, Nat.reduceEqDiff, Nat.reduceLeDiff, Nat.reduceMul, Nat.reduceLT, reduceIte, Int.reduceToNat, w64_id, cast_succ])
        refine SW.ret ?_; (try simp only [go_sem]); (first | refine FunPost.one ?_ | refine FunPost.two ?_ | refine FunPost.three ?_); (try simp (config := { maxSteps := 1000000 }) (disch := (first | omega | (simp only [go_sem]; try omega))) only [go_sem, Nat.reduceAdd, Nat.reduceEqDiff, Nat.reduceLeDiff, Nat.reduceMul, Nat.reduceLT, reduceIte, Int.reduceToNat, w64_id, cast_succ])
        obtain ⟨e, rfl⟩ := hpx
        refine GR.of ⟨_, _, by rw [List.append_assoc], rfl, .inl ⟨_, 0, 51, [], rfl, ⟨by simp, by simp⟩, by simp, rfl, by simp, by simp⟩⟩
  · rw [if_neg h0]
    generalize askV n els k = A at *
    have hA0 := decide_eq_false h0
    refine ACalls.introB s_impl_OrbitRepresentatives (by simp) ?_; intro hB hA; unfold c_impl_OrbitRepresentatives; simp (config := { maxSteps := 1000000 }) (disch := (first | omega | (simp only [go_sem]; try omega))) only [go_sem, Nat.reduceAdd, Nat.reduceEqDiff, Nat.reduceLeDiff, Nat.reduceMul, Nat.reduceLT, reduceIte, Int.reduceToNat, w64_id, cast_succ]
    repeat (first | (with_reducible first | refine SW.seq ?_ | refine SW.block ?_ | refine SW.rowC ?_ | refine SW.skip ?_ | refine SW.exit ?_ | intro _ | refine And.intro (by omega) ?_) | simp (config := { maxSteps := 1000000 }) (disch := (first | omega | (simp only [go_sem]; try omega))) only [go_sem, Nat.reduceAdd, Nat.reduceEqDiff, Nat.reduceLeDiff, Nat.reduceMul, Nat.reduceLT, reduceIte, Int.reduceToNat, w64_id, cast_succ])
    refine hq.usel (.cons (froz_agg2 (froz_I' _) (froz_ilSS _)) (.cons (froz_row (r := H.length + 1) (ver := 0) (ty := 2) (xs := [k]) (Nat.zero_le _) (by simp)) .nil)) ?_
    repeat (first | (with_reducible first | refine SW.seq ?_ | refine SW.block ?_ | refine SW.rowC ?_ | refine SW.skip ?_ | refine SW.exit ?_ | intro _ | refine And.intro (by omega) ?_) | simp (config := { maxSteps := 1000000 }) (disch := (first | omega | (simp only [go_sem]; try omega))) only [go_sem, Nat.reduceAdd, Nat.reduceEqDiff, Nat.reduceLeDiff, Nat.reduceMul, Nat.reduceLT, reduceIte, Int.reduceToNat, w64_id, cast_succ, hA0])
    refine SW.condT rfl ?_
    repeat (first | (with_reducible first | refine SW.seq ?_ | refine SW.block ?_ | refine SW.rowC ?_ | refine SW.skip ?_ | refine SW.exit ?_ | intro _ | refine And.intro (by omega) ?_) | simp (config := { maxSteps := 1000000 }) (disch := (first | omega | (simp only [go_sem]; try omega))) only [go_sem, Nat.reduceAdd, Nat.reduceEqDiff, Nat.reduceLeDiff, Nat.reduceMul, Nat.reduceLT, reduceIte, Int.reduceToNat, w64_id, cast_succ])
    refine SW.ret ?_; (try simp only [go_sem]); (first | refine FunPost.one ?_ | refine FunPost.two ?_ | refine FunPost.three ?_); (try simp (config := { maxSteps := 1000000 }) (disch := (first | omega | (simp only [go_sem]; try omega))) only [go_sem, Nat.reduceAdd, Nat.reduceEqDiff, Nat.reduceLeDiff, Nat.reduceMul, Nat.reduceLT, reduceIte, Int.reduceToNat, w64_id, cast_succ])
    exact GR.of nilFSS
theorem specOrbitReps_fn (n : Int) (els : List (List Int)) (k : Int) : PFn Tryz.prog f_spec_OrbitRepresentatives [.agg [I n, ilSS els], I k] (.tup [ilSS (orV n els k), I (askV n els k)]) := by
  have hso := soV_sets n els k
  have hsl := soV_len n els k
  unfold orV
  unfold soV at hso hsl ⊢
  by_cases h0 : askV n els k = 0
  · rw [if_pos h0] at hso hsl ⊢
    have hq := fun H p hp => l25Ask_ok H p n els k hp
    rw [h0] at hq ⊢
    obtain ⟨hg, k0, k1, hc, en, ek⟩ := askV_zero h0
    have hs := fun H p hp => l25Orbits_ok H p n.toNat k.toNat els (by have := hg.1; omega) hg.2.1.2 (hg.2.2.1) (by omega) hc hp
    rw [← en, ← ek] at hs
    change ∀ H p hp, ACalls Tryz.prog f_spec_l25Orbits [.pc p 0 0, I k] H (fun r H' => r = il3 (orbsV n els k) ∧ H' = H) at hs
    generalize orbsV n els k = V at *
    intro H; refine ACalls.introB s_spec_OrbitRepresentatives (by simp) ?_; intro hB hA; unfold c_spec_OrbitRepresentatives; simp (config := { maxSteps := 1000000 }) (disch := (first | omega | (simp only [go_sem]; try omega))) only [go_sem, Nat.reduceAdd, Nat.reduceEqDiff, Nat.reduceLeDiff, Nat.reduceMul, Nat.reduceLT, reduceIte, Int.reduceToNat, w64_id, cast_succ]
    repeat (first | (with_reducible first | refine SW.seq ?_ | refine SW.block ?_ | refine SW.rowC ?_ | refine SW.skip ?_ | refine SW.exit ?_ | intro _ | refine And.intro (by omega) ?_) | simp (config := { maxSteps := 1000000 }) (disch := (first | omega | (simp only [go_sem]; try omega))) only [go_sem, Nat.reduceAdd, Nat.reduceEqDiff, Nat.reduceLeDiff, Nat.reduceMul, Nat.reduceLT, reduceIte, Int.reduceToNat, w64_id, cast_succ])
    refine ACalls.fn (hq _ H.length (by simp)) ?_
    repeat (first | (with_reducible first | refine SW.seq ?_ | refine SW.block ?_ | refine SW.rowC ?_ | refine SW.skip ?_ | refine SW.exit ?_ | intro _ | refine And.intro (by omega) ?_) | simp (config := { maxSteps := 1000000 }) (disch := (first | omega | (simp only [go_sem]; try omega))) only [go_sem, Nat.reduceAdd, Nat.reduceEqDiff, Nat.reduceLeDiff, Nat.reduceMul, Nat.reduceLT, reduceIte, Int.reduceToNat, w64_id, cast_succ])
    refine SW.condF rfl ?_
    repeat (first | (with_reducible first | refine SW.seq ?_ | refine SW.block ?_ | refine SW.rowC ?_ | refine SW.skip ?_ | refine SW.exit ?_ | intro _ | refine And.intro (by omega) ?_) | simp (config := { maxSteps := 1000000 }) (disch := (first | omega | (simp only [go_sem]; try omega))) only [go_sem, Nat.reduceAdd, Nat.reduceEqDiff, Nat.reduceLeDiff, Nat.reduceMul, Nat.reduceLT, reduceIte, Int.reduceToNat, w64_id, cast_succ])
    refine ACalls.fn (hs _ H.length (by simp)) ?_
    repeat (first | (with_reducible first | refine SW.seq ?_ | refine SW.block ?_ | refine SW.rowC ?_ | refine SW.skip ?_ | refine SW.exit ?_ | intro _ | refine And.intro (by omega) ?_) | simp (config := { maxSteps := 1000000 }) (disch := (first | omega | (simp only [go_sem]; try omega))) only [go_sem, Nat.reduceAdd, Nat.reduceEqDiff, Nat.reduceLeDiff, Nat.reduceMul, Nat.reduceLT, reduceIte, Int.reduceToNat, w64_id, cast_succ])
    refine SW.loopE (fun E0 H0 q E' H' => ∃ (pre post : List (List (List Int))) (ver : Nat), V = pre ++ post ∧ q = post.length ∧ E' = aput (aput E0 9 (I pre.length)) 8 (.nm (H.length + 1) ver 0 pre.length) ∧ H' = H ++ [⟨0, tyG, 1, [I n, ilSS els]⟩, ⟨ver, 51, 1, (pre.map fun R => R.getD 0 []).map ilS⟩]) V.length ⟨[], V, 0, rfl, rfl, rfl, rfl⟩ ?_
    rintro q E' H' ⟨pre, post, ver, hpp, rfl, rfl, rfl⟩
    have hprl : pre.length ≤ 2000 := by rw [hpp] at hsl; simp at hsl; omega
    simp (config := { maxSteps := 1000000 }) (disch := (first | omega | (simp only [go_sem]; try omega))) only [go_sem, Nat.reduceAdd, Nat.reduceEqDiff, Nat.reduceLeDiff, Nat.reduceMul, Nat.reduceLT, reduceIte, Int.reduceToNat, w64_id, cast_succ]
    repeat (first | (with_reducible first | refine SW.seq ?_ | refine SW.block ?_ | refine SW.rowC ?_ | refine SW.skip ?_ | refine SW.exit ?_ | intro _ | refine And.intro (by omega) ?_) | simp (config := { maxSteps := 1000000 }) (disch := (first | omega | (simp only [go_sem]; try omega))) only [go_sem, Nat.reduceAdd, Nat.reduceEqDiff, Nat.reduceLeDiff, Nat.reduceMul, Nat.reduceLT, reduceIte, Int.reduceToNat, w64_id, cast_succ])
    (first | refine SW.condD rfl (fun h2 => ?_) (fun h2 => ?_) | refine SW.condN rfl (fun h2 => ?_) (fun h2 => ?_) | refine SW.condNB rfl (fun h2 => ?_) (fun h2 => ?_) | refine SW.condB rfl (fun h2 => ?_) (fun h2 => ?_))
    · obtain ⟨y, post, rfl, hg, -⟩ := consOf (d := []) hpp (by omega)
      have hyn := (hso y (by rw [hpp]; simp)).1
      have hy0 : 0 < y.length := by cases y with
        | nil => exact absurd rfl hyn
        | cons a b => simp
      have htl : ((pre.map fun R => R.getD 0 []).map ilS).take pre.length = (pre.map fun R => R.getD 0 []).map ilS := List.take_of_length_le (by simp)
      repeat (first | (with_reducible first | refine SW.seq ?_ | refine SW.block ?_ | refine SW.rowC ?_ | refine SW.skip ?_ | refine SW.exit ?_ | intro _ | refine And.intro (by omega) ?_) | simp (config := { maxSteps := 1000000 }) (disch := (first | omega | (simp only [go_sem]; try omega))) only [go_sem, Nat.reduceAdd, Nat.reduceEqDiff, Nat.reduceLeDiff, Nat.reduceMul, Nat.reduceLT, reduceIte, Int.reduceToNat, w64_id, cast_succ, hg, htl])
      refine SLoop.nextT 2 post.length hB (by omega) (by simp) (by simp) ?_ ?_ ⟨pre ++ [y], post, ver + 1, by simp [hpp], rfl, ?_, ?_⟩
      · (simp only [go_sem, Nat.reduceAdd, Nat.reduceEqDiff, reduceIte, go_sem, and_self, and_true, true_and, implies_true, List.take_succ_cons, List.take_zero, and_true, true_and]; try omega)
      · (simp only [go_sem, Nat.reduceAdd, Nat.reduceEqDiff, reduceIte, go_sem, and_self, and_true, true_and, implies_true, List.take_succ_cons, List.take_zero, and_true, true_and]; try omega)
      · simp [go_sem]
      · simp
    · obtain ⟨rfl, rfl⟩ := nilOf hpp (by omega)
      repeat (first | (with_reducible first | refine SW.seq ?_ | refine SW.block ?_ | refine SW.rowC ?_ | refine SW.skip ?_ | refine SW.exit ?_ | intro _ | refine And.intro (by omega) ?_) | simp (config := { maxSteps := 1000000 }) (disch := (first | omega | (simp only [go_sem]; try omega))) only [go_sem, Nat.reduceAdd, Nat.reduceEqDiff, Nat.reduceLeDiff, Nat.reduceMul, Nat.reduceLT, reduceIte, Int.reduceToNat, w64_id, cast_succ])
      refine SW.ret ?_; (try simp only [go_sem]); (first | refine FunPost.one ?_ | refine FunPost.two ?_ | refine FunPost.three ?_); (try simp (config := { maxSteps := 1000000 }) (disch := (first | omega | (simp only [go_sem]; try omega))) only [go_sem, Nat.reduceAdd, Nat.reduceEqDiff, Nat.reduceLeDiff, Nat.reduceMul, Nat.reduceLT, reduceIte, Int.reduceToNat, w64_id, cast_succ])
      have hfz := froz_rowS (b := H.length) (H := H ++ [(⟨0, tyG, 1, [I n, ilSS els]⟩ : Blk), ⟨ver, 51, 1, (pre.map fun R => R.getD 0 []).map ilS⟩]) (r := H.length + 1) (ver := ver) (ty := 51) (xs := pre.map fun R => R.getD 0 []) (by omega) (by simp)
      rw [List.length_map] at hfz
      exact GR.froz (r' := .tup [ilSS (pre.map fun R => R.getD 0 []), I 0]) (froz_tup2 hfz (froz_I' _)) ⟨rfl, rfl⟩
  · rw [if_neg h0]
    have hq := fun H p hp => l25Ask_ok H p n els k hp
    generalize askV n els k = A at *
    have hA0 := decide_eq_false h0
    intro H; refine ACalls.introB s_spec_OrbitRepresentatives (by simp) ?_; intro hB hA; unfold c_spec_OrbitRepresentatives; simp (config := { maxSteps := 1000000 }) (disch := (first | omega | (simp only [go_sem]; try omega))) only [go_sem, Nat.reduceAdd, Nat.reduceEqDiff, Nat.reduceLeDiff, Nat.reduceMul, Nat.reduceLT, reduceIte, Int.reduceToNat, w64_id, cast_succ]
    repeat (first | (with_reducible first | refine SW.seq ?_ | refine SW.block ?_ | refine SW.rowC ?_ | refine SW.skip ?_ | refine SW.exit ?_ | intro _ | refine And.intro (by omega) ?_) | simp (config := { maxSteps := 1000000 }) (disch := (first | omega | (simp only [go_sem]; try omega))) only [go_sem, Nat.reduceAdd, Nat.reduceEqDiff, Nat.reduceLeDiff, Nat.reduceMul, Nat.reduceLT, reduceIte, Int.reduceToNat, w64_id, cast_succ])
    refine ACalls.fn (hq _ H.length (by simp)) ?_
    repeat (first | (with_reducible first | refine SW.seq ?_ | refine SW.block ?_ | refine SW.rowC ?_ | refine SW.skip ?_ | refine SW.exit ?_ | intro _ | refine And.intro (by omega) ?_) | simp (config := { maxSteps := 1000000 }) (disch := (first | omega | (simp only [go_sem]; try omega))) only [go_sem, Nat.reduceAdd, Nat.reduceEqDiff, Nat.reduceLeDiff, Nat.reduceMul, Nat.reduceLT, reduceIte, Int.reduceToNat, w64_id, cast_succ, hA0])
    refine SW.condT rfl ?_
    repeat (first | (with_reducible first | refine SW.seq ?_ | refine SW.block ?_ | refine SW.rowC ?_ | refine SW.skip ?_ | refine SW.exit ?_ | intro _ | refine And.intro (by omega) ?_) | simp (config := { maxSteps := 1000000 }) (disch := (first | omega | (simp only [go_sem]; try omega))) only [go_sem, Nat.reduceAdd, Nat.reduceEqDiff, Nat.reduceLeDiff, Nat.reduceMul, Nat.reduceLT, reduceIte, Int.reduceToNat, w64_id, cast_succ])
    refine SW.ret ?_; (try simp only [go_sem]); (first | refine FunPost.one ?_ | refine FunPost.two ?_ | refine FunPost.three ?_); (try simp (config := { maxSteps := 1000000 }) (disch := (first | omega | (simp only [go_sem]; try omega))) only [go_sem, Nat.reduceAdd, Nat.reduceEqDiff, Nat.reduceLeDiff, Nat.reduceMul, Nat.reduceLT, reduceIte, Int.reduceToNat, w64_id, cast_succ])
    exact GR.froz (r' := .tup [ilSS [], I A]) (froz_tup2 .nil (froz_I' _)) ⟨rfl, rfl⟩
end Go.Proofs.YtkifdjjnbplghaaGreat
