/- The stabilizer of a set. -/
import Derived.Test.YthogadbnddmkdaaGreatProg
import Derived.KernelRfl
import Derived.Test.YthogadbnddmkdaaGreatzTG
import Derived.Test.YthogadbnddmkdaaGreatzJC
import Derived.Test.YthogadbnddmkdaaGreatzVB
import Derived.Test.YthogadbnddmkdaaGreatzK50
import Derived.Test.YthogadbnddmkdaaGreatzAv17
import Derived.Test.YthogadbnddmkdaaGreatzK18
set_option linter.unusedSimpArgs false
set_option linter.unusedVariables false
set_option maxHeartbeats 4000000
set_option maxRecDepth 100000
namespace Go.Proofs.YthogadbnddmkdaaGreat
open Go.Av
abbrev f_impl_SetStabilizer : Nat := 29
def c_impl_SetStabilizer : SC :=
 .seq (.reg [
     ⟨(some 2), .box 44 (.tmp 0), none⟩,
     ⟨(some 3), .box 50 (.tmp 1), none⟩,
     ⟨(some 4), .alloc 44 [(.int .i64 0), (.slice none 0 0)], none⟩,
     ⟨(some 5), .mv (.const (.int .i64 0)), none⟩] [2, 3, 4])
 (.seq (.seq (.reg [
     ⟨(some 6), .load 2 true (.tmp 2), none⟩,
     ⟨(some 7), .call 62 [(.tmp 6)], none⟩,
     ⟨(some 8), .un .not (.tmp 7), none⟩] [2, 3, 4, 8])
 (.cond (.tmp 8)
  (.seq (.reg [
      ⟨(some 9), .build [(.int .i64 0), (.slice none 0 0)] [], none⟩,
      ⟨none, .store 2 (.tmp 4) (.tmp 9), none⟩,
      ⟨(some 5), .mv (.const (.int .i64 1)), none⟩] [4, 5])
  (.ret))
  (.skip)))
 (.seq (.seq (.reg [
     ⟨(some 10), .load 1 false (.tmp 3), none⟩,
     ⟨(some 11), .faddr 0 (.tmp 2), none⟩,
     ⟨(some 12), .load 1 false (.tmp 11), none⟩,
     ⟨(some 13), .call 68 [(.tmp 10), (.tmp 12)], none⟩,
     ⟨(some 14), .un .not (.tmp 13), none⟩] [2, 3, 4, 14])
 (.cond (.tmp 14)
  (.seq (.reg [
      ⟨(some 15), .build [(.int .i64 0), (.slice none 0 0)] [], none⟩,
      ⟨none, .store 2 (.tmp 4) (.tmp 15), none⟩,
      ⟨(some 5), .mv (.const (.int .i64 2)), none⟩] [4, 5])
  (.ret))
  (.skip)))
 (.seq (.reg [
     ⟨(some 16), .load 2 true (.tmp 2), none⟩,
     ⟨(some 17), .mkf 70 [(.tmp 3)], none⟩,
     ⟨(some 18), .call 69 [(.tmp 16), (.tmp 17)], none⟩,
     ⟨none, .store 2 (.tmp 4) (.tmp 18), none⟩,
     ⟨(some 5), .mv (.const (.int .i64 0)), none⟩] [4, 5])
 (.ret))))
theorem s_impl_SetStabilizer : stripF Tryz.prog 29 [[2, 3, 4], [2, 3, 4, 8], [4, 5], [2, 3, 4, 14], [4, 5], [4, 5]] = some (c_impl_SetStabilizer, [.cell 4 2, .tmp 5], 19) := by kernel_rfl
abbrev f_impl_subgroup : Nat := 69
def c_impl_subgroup : SC :=
 .seq (.reg [
     ⟨(some 2), .box 44 (.tmp 0), none⟩,
     ⟨(some 4), .alloc 44 [(.int .i64 0), (.slice none 0 0)], none⟩] [1, 2, 4])
 (.seq (.reg [
     ⟨(some 8), .faddr 0 (.tmp 2), none⟩,
     ⟨(some 9), .load 1 false (.tmp 8), none⟩,
     ⟨(some 10), .build [(.int .i64 0), (.slice none 0 0)] [(0, 1, (.tmp 9))], none⟩,
     ⟨(some 5), .alloc 44 [(.int .i64 0), (.slice none 0 0)], none⟩,
     ⟨none, .store 2 (.tmp 5) (.tmp 10), none⟩] [1, 2, 4, 5])
 (.seq (.seq (.reg [
     ⟨(some 11), .faddr 1 (.tmp 2), none⟩,
     ⟨(some 12), .load 1 false (.tmp 11), none⟩,
     ⟨(some 13), .len (.tmp 12), none⟩,
     ⟨(some 14), .mv (.const (.int .i64 0)), none⟩] [1, 4, 5, 12, 13, 14])
 (.block 0 (.loop [1, 4, 5, 12, 13, 14]
   (.seq (.reg [
       ⟨(some 15), .bin .lss (.tmp 14) (.tmp 13), none⟩] [1, 4, 5, 12, 13, 14, 15])
   (.seq (.cond (.tmp 15)
    (.skip)
    (.exit 0))
   (.seq (.block 1 (.seq (.reg [
        ⟨(some 16), .iaddr 1 (.tmp 12) (.tmp 14), none⟩,
        ⟨(some 17), .load 1 false (.tmp 16), none⟩,
        ⟨(some 7), .mv (.tmp 17), none⟩] [1, 4, 5, 7, 12, 13, 14])
    (.seq (.reg [
        ⟨(some 18), .mv (.tmp 1), none⟩,
        ⟨(some 19), .mv (.tmp 7), none⟩,
        ⟨(some 20), .callv (.tmp 18) [(.tmp 19)], none⟩] [1, 4, 5, 7, 12, 13, 14, 20])
    (.cond (.tmp 20)
     (.reg [
         ⟨(some 21), .faddr 1 (.tmp 5), none⟩,
         ⟨(some 22), .load 1 false (.tmp 21), none⟩,
         ⟨(some 23), .mv (.tmp 7), none⟩,
         ⟨(some 24), .qcall 117 [(.tmp 23)], none⟩,
         ⟨(some 25), .bslice 50 1 1 [(.slice none 0 0)] [(0, (.tmp 24))], none⟩,
         ⟨(some 26), .app 50 1 24 (.tmp 22) (.tmp 25), none⟩,
         ⟨(some 27), .faddr 1 (.tmp 5), none⟩,
         ⟨none, .store 1 (.tmp 27) (.tmp 26), none⟩] [1, 4, 5, 12, 13, 14])
     (.skip)))))
   (.reg [
       ⟨(some 28), .bin .add (.tmp 14) (.const (.int .i64 1)), none⟩,
       ⟨(some 14), .mv (.tmp 28), none⟩] [1, 4, 5, 12, 13, 14])))))))
 (.seq (.reg [
     ⟨(some 29), .load 2 true (.tmp 5), none⟩,
     ⟨none, .store 2 (.tmp 4) (.tmp 29), none⟩] [4])
 (.ret))))
theorem s_impl_subgroup : stripF Tryz.prog 69 [[1, 2, 4], [1, 2, 4, 5], [1, 4, 5, 12, 13, 14], [1, 4, 5, 12, 13, 14], [1, 4, 5, 12, 13, 14, 15], [1, 4, 5, 7, 12, 13, 14], [1, 4, 5, 7, 12, 13, 14, 20], [1, 4, 5, 12, 13, 14], [1, 4, 5, 12, 13, 14], [4]] = some (c_impl_subgroup, [.cell 4 2], 30) := by kernel_rfl
abbrev f_impl_SetStabilizer_c1 : Nat := 70
def c_impl_SetStabilizer_c1 : SC :=
 .seq (.reg [
     ⟨(some 3), .mv (.const (.bool false)), none⟩] [0, 1])
 (.seq (.reg [
     ⟨(some 4), .mv (.tmp 0), none⟩,
     ⟨(some 5), .load 1 false (.tmp 1), none⟩,
     ⟨(some 6), .qcall 72 [(.tmp 4), (.tmp 5)], none⟩,
     ⟨(some 7), .load 1 false (.tmp 1), none⟩,
     ⟨(some 8), .qcall 71 [(.tmp 6), (.tmp 7)], none⟩,
     ⟨(some 3), .mv (.tmp 8), none⟩] [3])
 (.ret))
theorem s_impl_SetStabilizer_c1 : stripF Tryz.prog 70 [[0, 1], [3]] = some (c_impl_SetStabilizer_c1, [.tmp 3], 9) := by kernel_rfl
def GrowF (H : List Blk) (base : Nat) (v : AV) (xss : List (List Int)) : Prop :=
  (v = nilS ∧ xss = []) ∨ ∃ t ver, v = .nm t ver 0 xss.length ∧ base ≤ t ∧ H[t]? = some ⟨ver, tyLL, 1, xss.map ilS⟩
theorem GrowF.one {H : List Blk} {base : Nat} {v : AV} {xss : List (List Int)} (h : GrowF H base v xss) : v.cell1 = true ∧ partsOf v = [v] := by
  rcases h with ⟨rfl, rfl⟩ | ⟨t, ver, rfl, h⟩ <;> exact ⟨rfl, rfl⟩
theorem GrowF.same {H H' : List Blk} {base : Nat} {v : AV} {xss : List (List Int)} (h : GrowF H base v xss) (hs : ∀ j b, base ≤ j → H[j]? = some b → H'[j]? = some b) : GrowF H' base v xss := by
  rcases h with h | ⟨t, ver, rfl, h1, h2⟩
  · exact .inl h
  · exact .inr ⟨t, ver, rfl, h1, hs t _ h1 h2⟩
theorem GrowF.froz {H : List Blk} {base : Nat} {v : AV} {xss : List (List Int)} (h : GrowF H base v xss) {b : Nat} (hb : b ≤ base) : Froz H b v (ilSS xss) := by
  rcases h with ⟨rfl, rfl⟩ | ⟨t, ver, rfl, h1, h2⟩
  · exact .nil
  · exact froz_rowS (by omega) h2
theorem GrowF.app {H : List Blk} {base : Nat} {v : AV} {xss : List (List Int)} {y : List Int} (h : GrowF H base v xss) (hb : base ≤ H.length) (hl : (xss.length + 1) * 24 ≤ 140737488355328)
    {K : AV → List Blk → Prop} (hk : ∀ v' H', GrowF H' base v' (xss ++ [y]) → H.length ≤ H'.length → (∀ j, j < base → H'[j]? = H[j]?) → K v' H') :
    AppX tyLL 1 24 H v K (some (1, [ilS y])) := by
  rcases h with ⟨rfl, rfl⟩ | ⟨t, ver, rfl, h1, h2⟩
  · simp only [AppX, nilS]
    refine ⟨rfl, by simp; rfl, by omega, by omega, hk _ _ (.inr ⟨H.length, 1, by simp, hb, by simp⟩) (by simp) (fun j hj => by rw [List.getElem?_append_left (by omega)])⟩
  · simp only [AppX, h2]
    have htl : (xss.map ilS).take (xss.length * 1) = xss.map ilS := List.take_of_length_le (by simp)
    have hlt := (List.getElem?_eq_some_iff.1 h2).1
    refine ⟨rfl, by simp; rfl, trivial, trivial, trivial, by simp, by omega, by omega, ?_⟩
    rw [htl]
    refine hk _ _ (.inr ⟨t, ver + 1, by simp, h1, ?_⟩) (by simp) (fun j hj => by rw [List.getElem?_set_ne (by omega)])
    rw [List.getElem?_set_self hlt]; simp
def BxF (ty : Nat) (Hb : List Blk) (p : Nat) (hd : AV) (xss : List (List Int)) (H' : List Blk) : Prop :=
  ∃ v, H'[p]? = some ⟨0, ty, 1, [hd, v]⟩ ∧ GrowF H' (p + 1) v xss ∧ p + 1 ≤ H'.length ∧ ∀ j, j < p → H'[j]? = Hb[j]?
theorem BxF.put {ty : Nat} {Hb H3 : List Blk} {p : Nat} {hd v3 : AV} {xss : List (List Int)} (d1 : GrowF H3 (p + 1) v3 xss) (d2 : p + 1 ≤ H3.length) (d3 : ∀ j, j < p → H3[j]? = Hb[j]?) : BxF ty Hb p hd xss (H3.set p ⟨0, ty, 1, [hd, v3]⟩) := by
  refine ⟨v3, List.getElem?_set_self (by omega), d1.same (fun j b h1 h2 => ?_), by simpa using d2, fun j hj => ?_⟩
  · rw [List.getElem?_set_ne (by omega)]; exact h2
  · rw [List.getElem?_set_ne (by omega)]; exact d3 j hj
theorem SetStab_c1_ok (H : List Blk) (q n : Nat) (p set : List Int) (hn : n ≤ 32) (hp : permOk n p) (hb : asc 0 ((n : Int) - 1) set = true) (hq : H[q]? = some ⟨0, 50, 1, [ilS set]⟩) :
    ACalls Tryz.prog f_impl_SetStabilizer_c1 [ilS p, .pc q 0 0] H (fun r H' => r = Bv (decide (img p set = set)) ∧ H' = H) := by
  have g1 := fun o => pc_ld (off := o) hq
  have g3 := fun o => pc_alive (off := o) hq
  have hi := image_fn n p set (by omega) hp hb
  have he := slicesEqual_fnU (img p set) set
  refine ACalls.introB s_impl_SetStabilizer_c1 (by simp) ?_; intro hB hA; unfold c_impl_SetStabilizer_c1; simp (config := { maxSteps := 1000000 }) (disch := (first | omega | (simp only [go_sem]; try omega))) only [go_sem, Nat.reduceAdd, Nat.reduceEqDiff, Nat.reduceLeDiff, Nat.reduceMul, Nat.reduceLT, reduceIte, Int.reduceToNat, w64_id, cast_succ]
  repeat (first | (with_reducible first | refine SW.seq ?_ | refine SW.block ?_ | refine SW.rowC ?_ | refine SW.skip ?_ | refine SW.exit ?_ | refine PFn.use (hi) ?_ | refine PFn.useq (hi) ?_ | refine PFn.use (he) ?_ | refine PFn.useq (he) ?_ | intro _ | refine And.intro (by omega) ?_) | simp (config := { maxSteps := 1000000 }) (disch := (first | omega | (simp only [go_sem]; try omega))) only [go_sem, Nat.reduceAdd, Nat.reduceEqDiff, Nat.reduceLeDiff, Nat.reduceMul, Nat.reduceLT, reduceIte, Int.reduceToNat, w64_id, cast_succ, g1, g3])
  refine SW.ret ?_; (try simp only [go_sem]); (first | refine FunPost.one ?_ | refine FunPost.two ?_ | refine FunPost.three ?_); (try simp (config := { maxSteps := 1000000 }) (disch := (first | omega | (simp only [go_sem]; try omega))) only [go_sem, Nat.reduceAdd, Nat.reduceEqDiff, Nat.reduceLeDiff, Nat.reduceMul, Nat.reduceLT, reduceIte, Int.reduceToNat, w64_id, cast_succ])
  exact GR.of ⟨rfl, rfl⟩
theorem subgroup_ok (H : List Blk) (q n : Nat) (els : List (List Int)) (set : List Int) (hn : n ≤ 32) (hp : ∀ p ∈ els, permOk n p) (hb : asc 0 ((n : Int) - 1) set = true) (hq : H[q]? = some ⟨0, 50, 1, [ilS set]⟩) (hl2 : els.length ≤ 2000000) :
    ACalls Tryz.prog f_impl_subgroup [.agg [I n, ilSS els], .fn f_impl_SetStabilizer_c1 [.pc q 0 0]] H (fun r H' => r = .agg [I n, ilSS (stabL els set)] ∧ H' = H) := by
  have hcc : callable Tryz.prog f_impl_SetStabilizer_c1 = true := by kernel_rfl
  refine ACalls.introB s_impl_subgroup (by simp) ?_; intro hB hA; unfold c_impl_subgroup; simp (config := { maxSteps := 1000000 }) (disch := (first | omega | (simp only [go_sem]; try omega))) only [go_sem, Nat.reduceAdd, Nat.reduceEqDiff, Nat.reduceLeDiff, Nat.reduceMul, Nat.reduceLT, reduceIte, Int.reduceToNat, w64_id, cast_succ]
  repeat (first | (with_reducible first | refine SW.seq ?_ | refine SW.block ?_ | refine SW.rowC ?_ | refine SW.skip ?_ | refine SW.exit ?_ | intro _ | refine And.intro (by omega) ?_) | simp (config := { maxSteps := 1000000 }) (disch := (first | omega | (simp only [go_sem]; try omega))) only [go_sem, Nat.reduceAdd, Nat.reduceEqDiff, Nat.reduceLeDiff, Nat.reduceMul, Nat.reduceLT, reduceIte, Int.reduceToNat, w64_id, cast_succ])
  refine SW.loopE (fun E0 H0 q' E' H' => ∃ (pre post : List (List Int)), els = pre ++ post ∧ q' = post.length ∧ E' = aput E0 14 (I pre.length) ∧
    BxF tyG (H ++ [⟨0, tyG, 1, [I n, ilSS els]⟩, ⟨0, tyG, 1, [I 0, nilS]⟩]) (H.length + 2) (I n) (stabL pre set) H') els.length ⟨[], els, rfl, rfl, rfl, nilS, by simp, .inl ⟨rfl, rfl⟩, by simp, fun j hj => ?_⟩ ?_
  · rw [show H ++ [(⟨0, tyG, 1, [I n, ilSS els]⟩ : Blk), ⟨0, tyG, 1, [I 0, nilS]⟩, ⟨0, tyG, 1, [I n, nilS]⟩] = (H ++ [⟨0, tyG, 1, [I n, ilSS els]⟩, ⟨0, tyG, 1, [I 0, nilS]⟩]) ++ [(⟨0, tyG, 1, [I n, nilS]⟩ : Blk)] by simp]
    rw [List.getElem?_append_left (by simp; omega)]
  rintro q' E' H1 ⟨pre, post, hpp, rfl, rfl, v, b1, b2, b3, b4⟩
  simp (config := { maxSteps := 1000000 }) (disch := (first | omega | (simp only [go_sem]; try omega))) only [go_sem, Nat.reduceAdd, Nat.reduceEqDiff, Nat.reduceLeDiff, Nat.reduceMul, Nat.reduceLT, reduceIte, Int.reduceToNat, w64_id, cast_succ]
  repeat (first | (with_reducible first | refine SW.seq ?_ | refine SW.block ?_ | refine SW.rowC ?_ | refine SW.skip ?_ | refine SW.exit ?_ | intro _ | refine And.intro (by omega) ?_) | simp (config := { maxSteps := 1000000 }) (disch := (first | omega | (simp only [go_sem]; try omega))) only [go_sem, Nat.reduceAdd, Nat.reduceEqDiff, Nat.reduceLeDiff, Nat.reduceMul, Nat.reduceLT, reduceIte, Int.reduceToNat, w64_id, cast_succ])
  (first | refine SW.condD rfl (fun h => ?_) (fun h => ?_) | refine SW.condN rfl (fun h => ?_) (fun h => ?_) | refine SW.condNB rfl (fun h => ?_) (fun h => ?_) | refine SW.condB rfl (fun h => ?_) (fun h => ?_))
  · obtain ⟨y, post, rfl, hgy, -⟩ := consOf (d := []) hpp (by omega)
    have hy := hp y (by rw [hpp]; simp)
    have hqlt := (List.getElem?_eq_some_iff.1 hq).1
    have hq1 : H1[q]? = some ⟨0, 50, 1, [ilS set]⟩ := by rw [b4 q (by omega), List.getElem?_append_left hqlt]; exact hq
    repeat (first | (with_reducible first | refine SW.seq ?_ | refine SW.block ?_ | refine SW.rowC ?_ | refine SW.skip ?_ | refine SW.exit ?_ | intro _ | refine And.intro (by omega) ?_) | simp (config := { maxSteps := 1000000 }) (disch := (first | omega | (simp only [go_sem]; try omega))) only [go_sem, Nat.reduceAdd, Nat.reduceEqDiff, Nat.reduceLeDiff, Nat.reduceMul, Nat.reduceLT, reduceIte, Int.reduceToNat, w64_id, cast_succ, hgy, hcc])
    refine (SetStab_c1_ok H1 q n y set hn hy hb hq1).mono ?_
    rintro r H2 ⟨rfl, rfl⟩
    have hst : stabL (pre ++ [y]) set = stabL pre set ++ (if img y set = set then [y] else []) := by
      unfold stabL
      rw [List.filter_append, List.filter_cons, List.filter_nil]
      by_cases hk : img y set = set <;> simp [hk]
    by_cases hk : img y set = set
    · rw [decide_eq_true hk]
      rw [if_pos hk] at hst
      have m4a := fun l (o : Nat) => pc_alive (off := o) (get_appB1 b1 l)
      have m4l := fun l (o : Nat) => pc_ld (off := o) (get_appB1 b1 l)
      have n4a := fun (o : Nat) => pc_alive (off := o) b1
      have n4l := fun (o : Nat) => pc_ld (off := o) b1
      repeat (first | (with_reducible first | refine SW.seq ?_ | refine SW.block ?_ | refine SW.rowC ?_ | refine SW.skip ?_ | refine SW.exit ?_ | intro _ | refine And.intro (by omega) ?_) | simp (config := { maxSteps := 1000000 }) (disch := (first | omega | (simp only [go_sem]; try omega))) only [go_sem, Nat.reduceAdd, Nat.reduceEqDiff, Nat.reduceLeDiff, Nat.reduceMul, Nat.reduceLT, reduceIte, Int.reduceToNat, w64_id, cast_succ])
      refine SW.condT rfl ?_
      repeat (first | (with_reducible first | refine SW.seq ?_ | refine SW.block ?_ | refine SW.rowC ?_ | refine SW.skip ?_ | refine SW.exit ?_ | intro _ | refine And.intro (by omega) ?_) | simp (config := { maxSteps := 1000000 }) (disch := (first | omega | (simp only [go_sem]; try omega))) only [go_sem, Nat.reduceAdd, Nat.reduceEqDiff, Nat.reduceLeDiff, Nat.reduceMul, Nat.reduceLT, reduceIte, Int.reduceToNat, w64_id, cast_succ, m4a, m4l, n4a, n4l])
      refine PFn.useq (clone_fnX y (by have := hy.1; omega)) ?_
      repeat (first | (with_reducible first | refine SW.seq ?_ | refine SW.block ?_ | refine SW.rowC ?_ | refine SW.skip ?_ | refine SW.exit ?_ | intro _ | refine And.intro (by omega) ?_) | simp (config := { maxSteps := 1000000 }) (disch := (first | omega | (simp only [go_sem]; try omega))) only [go_sem, Nat.reduceAdd, Nat.reduceEqDiff, Nat.reduceLeDiff, Nat.reduceMul, Nat.reduceLT, reduceIte, Int.reduceToNat, w64_id, cast_succ, m4a, m4l, n4a, n4l])
      have hsl : (stabL pre set).length ≤ pre.length := List.length_filter_le _ _
      have hpl : pre.length ≤ els.length := by rw [hpp]; simp
      refine (b2.same (H' := H2 ++ [⟨0, tyLL, 1, [ilS y]⟩]) (fun j b _ hb => by rw [List.getElem?_append_left (List.getElem?_eq_some_iff.1 hb).1]; exact hb)).app (by simp; omega) (by omega) ?_
      intro v3 H3 d1 d2 d3
      have d5 : ∀ j, j < H.length + 3 → H3[j]? = H2[j]? := fun j hj => by rw [d3 j hj, List.getElem?_append_left (by omega)]
      have e1 : H3[H.length + 2]? = some ⟨0, tyG, 1, [I n, v]⟩ := by rw [d5 _ (by omega)]; exact b1
      have d4 : H2.length ≤ H3.length := by simp at d2; omega
      repeat (first | (with_reducible first | refine SW.seq ?_ | refine SW.block ?_ | refine SW.rowC ?_ | refine SW.skip ?_ | refine SW.exit ?_ | intro _ | refine And.intro (by omega) ?_) | simp (config := { maxSteps := 1000000 }) (disch := (first | omega | (simp only [go_sem]; try omega))) only [go_sem, Nat.reduceAdd, Nat.reduceEqDiff, Nat.reduceLeDiff, Nat.reduceMul, Nat.reduceLT, reduceIte, Int.reduceToNat, w64_id, cast_succ, pc_alive e1, pc_ld e1, d1.one.1, d1.one.2])
      rw [pc_st e1 (by simp)]
      repeat (first | (with_reducible first | refine SW.seq ?_ | refine SW.block ?_ | refine SW.rowC ?_ | refine SW.skip ?_ | refine SW.exit ?_ | intro _ | refine And.intro (by omega) ?_) | simp (config := { maxSteps := 1000000 }) (disch := (first | omega | (simp only [go_sem]; try omega))) only [go_sem, Nat.reduceAdd, Nat.reduceEqDiff, Nat.reduceLeDiff, Nat.reduceMul, Nat.reduceLT, reduceIte, Int.reduceToNat, w64_id, cast_succ])
      refine SLoop.next post.length (by simp) ⟨pre ++ [y], post, by simp [hpp], rfl, ?_, ?_⟩
      · simp [go_sem]
      · rw [hst]
        exact BxF.put d1 (by omega) (fun j hj => by rw [d5 j (by omega)]; exact b4 j hj)
    · rw [decide_eq_false hk]
      rw [if_neg hk, List.append_nil] at hst
      repeat (first | (with_reducible first | refine SW.seq ?_ | refine SW.block ?_ | refine SW.rowC ?_ | refine SW.skip ?_ | refine SW.exit ?_ | intro _ | refine And.intro (by omega) ?_) | simp (config := { maxSteps := 1000000 }) (disch := (first | omega | (simp only [go_sem]; try omega))) only [go_sem, Nat.reduceAdd, Nat.reduceEqDiff, Nat.reduceLeDiff, Nat.reduceMul, Nat.reduceLT, reduceIte, Int.reduceToNat, w64_id, cast_succ])
      refine SW.condF rfl ?_
      repeat (first | (with_reducible first | refine SW.seq ?_ | refine SW.block ?_ | refine SW.rowC ?_ | refine SW.skip ?_ | refine SW.exit ?_ | intro _ | refine And.intro (by omega) ?_) | simp (config := { maxSteps := 1000000 }) (disch := (first | omega | (simp only [go_sem]; try omega))) only [go_sem, Nat.reduceAdd, Nat.reduceEqDiff, Nat.reduceLeDiff, Nat.reduceMul, Nat.reduceLT, reduceIte, Int.reduceToNat, w64_id, cast_succ])
      refine SLoop.next post.length (by simp) ⟨pre ++ [y], post, by simp [hpp], rfl, ?_, ?_⟩
      · simp [go_sem]
      · rw [hst]; exact ⟨v, b1, b2, b3, b4⟩
  · obtain ⟨rfl, rfl⟩ := nilOf hpp (by omega)
    have b5 : H1[H.length + 1]? = some ⟨0, tyG, 1, [I 0, nilS]⟩ := by rw [b4 _ (by omega)]; simp
    have e6 := pc_lds (off := 0) (n := 2) b1 (by simp)
    have e7 := pc_st (off := 0) (cs := [I n, v]) b5 (by simp)
    repeat (first | (with_reducible first | refine SW.seq ?_ | refine SW.block ?_ | refine SW.rowC ?_ | refine SW.skip ?_ | refine SW.exit ?_ | intro _ | refine And.intro (by omega) ?_) | simp (config := { maxSteps := 1000000 }) (disch := (first | omega | (simp only [go_sem]; try omega))) only [go_sem, Nat.reduceAdd, Nat.reduceEqDiff, Nat.reduceLeDiff, Nat.reduceMul, Nat.reduceLT, reduceIte, Int.reduceToNat, w64_id, cast_succ, e6, b2.one.1, b2.one.2])
    rw [e7]
    repeat (first | (with_reducible first | refine SW.seq ?_ | refine SW.block ?_ | refine SW.rowC ?_ | refine SW.skip ?_ | refine SW.exit ?_ | intro _ | refine And.intro (by omega) ?_) | simp (config := { maxSteps := 1000000 }) (disch := (first | omega | (simp only [go_sem]; try omega))) only [go_sem, Nat.reduceAdd, Nat.reduceEqDiff, Nat.reduceLeDiff, Nat.reduceMul, Nat.reduceLT, reduceIte, Int.reduceToNat, w64_id, cast_succ])
    refine SW.ret ?_
    have hlt1 : H.length + 1 < H1.length := (List.getElem?_eq_some_iff.1 b5).1
    obtain ⟨ext, he⟩ := prefix_of (H := H) (H' := H1.set (H.length + 1) ⟨0, tyG, 1, [I n, v]⟩) (by simp; omega) (fun j hj => by rw [List.getElem?_set_ne (by omega), b4 j (by omega), List.getElem?_append_left hj])
    refine FunPost.cell (cs := [I n, v]) (pc_lds (p := H.length + 1) (ver := 0) (ty := tyG) (sz := 1) (off := 0) (n := 2) (cells := [I n, v]) (List.getElem?_set_self hlt1) (by simp)) ?_
    have hf : Froz (H1.set (H.length + 1) ⟨0, tyG, 1, [I n, v]⟩) H.length v (ilSS (stabL pre set)) := (b2.same (fun j b h1 h2 => by rw [List.getElem?_set_ne (by omega)]; exact h2)).froz (by omega)
    rw [he] at hf ⊢
    exact GR.froz (froz_agg2 (froz_I' _) hf) ⟨rfl, rfl⟩
theorem SetStab_ok (H : List Blk) (n : Nat) (els : List (List Int)) (set : List Int) (hg : grpB n els = true) (hb : asc 0 ((n : Int) - 1) set = true) (hl : ∀ x ∈ els, x.length ≤ 2000000) (hl2 : els.length ≤ 2000000) :
    ACalls Tryz.prog f_impl_SetStabilizer [.agg [I n, ilSS els], ilS set] H (fun r H' => r = .tup [.agg [I n, ilSS (stabL els set)], I 0] ∧ H' = H) := by
  have hv := ValidGroup_fn n els hl hl2
  rw [hg] at hv
  have hgo := grpB_t.1 hg
  refine ACalls.introB s_impl_SetStabilizer (by simp) ?_; intro hB hA; unfold c_impl_SetStabilizer; simp (config := { maxSteps := 1000000 }) (disch := (first | omega | (simp only [go_sem]; try omega))) only [go_sem, Nat.reduceAdd, Nat.reduceEqDiff, Nat.reduceLeDiff, Nat.reduceMul, Nat.reduceLT, reduceIte, Int.reduceToNat, w64_id, cast_succ]
  have hs := ValidSet_fn set n
  rw [hb, show decide ((0 : Int) ≤ n) = true from decide_eq_true (by omega), show decide ((n : Int) ≤ 32) = true from decide_eq_true (by have := hgo.1; omega)] at hs
  repeat (first | (with_reducible first | refine SW.seq ?_ | refine SW.block ?_ | refine SW.rowC ?_ | refine SW.skip ?_ | refine SW.exit ?_ | refine PFn.use (hv) ?_ | refine PFn.useq (hv) ?_ | intro _ | refine And.intro (by omega) ?_) | simp (config := { maxSteps := 1000000 }) (disch := (first | omega | (simp only [go_sem]; try omega))) only [go_sem, Nat.reduceAdd, Nat.reduceEqDiff, Nat.reduceLeDiff, Nat.reduceMul, Nat.reduceLT, reduceIte, Int.reduceToNat, w64_id, cast_succ])
  refine SW.condF rfl ?_
  repeat (first | (with_reducible first | refine SW.seq ?_ | refine SW.block ?_ | refine SW.rowC ?_ | refine SW.skip ?_ | refine SW.exit ?_ | refine PFn.use (hs) ?_ | refine PFn.useq (hs) ?_ | intro _ | refine And.intro (by omega) ?_) | simp (config := { maxSteps := 1000000 }) (disch := (first | omega | (simp only [go_sem]; try omega))) only [go_sem, Nat.reduceAdd, Nat.reduceEqDiff, Nat.reduceLeDiff, Nat.reduceMul, Nat.reduceLT, reduceIte, Int.reduceToNat, w64_id, cast_succ])
  refine SW.condF rfl ?_
  repeat (first | (with_reducible first | refine SW.seq ?_ | refine SW.block ?_ | refine SW.rowC ?_ | refine SW.skip ?_ | refine SW.exit ?_ | intro _ | refine And.intro (by omega) ?_) | simp (config := { maxSteps := 1000000 }) (disch := (first | omega | (simp only [go_sem]; try omega))) only [go_sem, Nat.reduceAdd, Nat.reduceEqDiff, Nat.reduceLeDiff, Nat.reduceMul, Nat.reduceLT, reduceIte, Int.reduceToNat, w64_id, cast_succ])
  refine (subgroup_ok _ (H.length + 1) n els set (by have := hgo.1; omega) (fun p hp => hgo.2.2.1 p hp) hb (by rw [List.getElem?_append_right (by omega), Nat.add_sub_cancel_left]; rfl) hl2).mono ?_
  rintro r H1 ⟨rfl, rfl⟩
  repeat (first | (with_reducible first | refine SW.seq ?_ | refine SW.block ?_ | refine SW.rowC ?_ | refine SW.skip ?_ | refine SW.exit ?_ | intro _ | refine And.intro (by omega) ?_) | simp (config := { maxSteps := 1000000 }) (disch := (first | omega | (simp only [go_sem]; try omega))) only [go_sem, Nat.reduceAdd, Nat.reduceEqDiff, Nat.reduceLeDiff, Nat.reduceMul, Nat.reduceLT, reduceIte, Int.reduceToNat, w64_id, cast_succ])
  refine SW.ret ?_
  refine FunPost.cell_tmp (cs := [I n, ilSS (stabL els set)]) (by simp (config := { maxSteps := 1000000 }) (disch := (first | omega | (simp only [go_sem]; try omega))) only [go_sem, Nat.reduceAdd, Nat.reduceEqDiff, Nat.reduceLeDiff, Nat.reduceMul, Nat.reduceLT, reduceIte, Int.reduceToNat, w64_id, cast_succ]) ?_
  exact GR.froz (froz_tup2 (froz_agg2 (froz_I' _) (froz_ilSS _)) (froz_I' _)) ⟨rfl, rfl⟩
end Go.Proofs.YthogadbnddmkdaaGreat
namespace Go.Proofs.YthogadbnddmkdaaGreat
open Go.Av
abbrev f_laws_FnSubsets : Nat := 5
def c_laws_FnSubsets : SC :=
 .seq (.reg [
     ⟨(some 4), .mv (.const (.bool false)), none⟩] [0, 1])
 (.seq (.seq (.reg [
     ⟨(some 21), .mv (.tmp 0), none⟩,
     ⟨(some 22), .call 7 [(.tmp 21)], none⟩,
     ⟨(some 23), .mv (.tmp 22), none⟩,
     ⟨(some 24), .mv (.tmp 1), (some (23, false))⟩,
     ⟨(some 25), .call 7 [(.tmp 24)], (some (23, false))⟩,
     ⟨(some 26), .pick (.tmp 23) (.const (.bool true)) (.tmp 25), none⟩] [0, 1, 26])
 (.cond (.tmp 26)
  (.seq (.reg [
      ⟨(some 4), .mv (.const (.bool true)), none⟩] [4])
  (.ret))
  (.skip)))
 (.seq (.reg [
     ⟨(some 28), .mv (.tmp 0), none⟩,
     ⟨(some 29), .call 20 [(.tmp 28)], none⟩,
     ⟨(some 27), .mv (.tmp 29), none⟩,
     ⟨(some 30), .ext (.tmp 27) 0, none⟩,
     ⟨(some 31), .ext (.tmp 27) 1, none⟩,
     ⟨(some 5), .alloc 44 [(.int .i64 0), (.slice none 0 0)], none⟩,
     ⟨none, .store 2 (.tmp 5) (.tmp 30), none⟩,
     ⟨(some 6), .mv (.tmp 31), none⟩] [1, 5, 6])
 (.seq (.reg [
     ⟨(some 33), .load 2 true (.tmp 5), none⟩,
     ⟨(some 34), .mv (.tmp 6), none⟩,
     ⟨(some 35), .call 21 [(.tmp 33), (.tmp 34)], none⟩,
     ⟨(some 32), .mv (.tmp 35), none⟩,
     ⟨(some 36), .ext (.tmp 32) 0, none⟩,
     ⟨(some 37), .ext (.tmp 32) 1, none⟩,
     ⟨(some 7), .mv (.tmp 36), none⟩,
     ⟨(some 8), .mv (.tmp 37), none⟩] [1, 5, 6, 7, 8])
 (.seq (.reg [
     ⟨(some 39), .load 2 true (.tmp 5), none⟩,
     ⟨(some 40), .mv (.tmp 6), none⟩,
     ⟨(some 41), .call 22 [(.tmp 39), (.tmp 40)], none⟩,
     ⟨(some 38), .mv (.tmp 41), none⟩,
     ⟨(some 42), .ext (.tmp 38) 0, none⟩,
     ⟨(some 43), .ext (.tmp 38) 1, none⟩,
     ⟨(some 9), .mv (.tmp 42), none⟩,
     ⟨(some 10), .mv (.tmp 43), none⟩] [1, 5, 6, 7, 8, 9, 10])
 (.seq (.seq (.reg [
     ⟨(some 44), .mv (.tmp 8), none⟩,
     ⟨(some 45), .bin .neq (.tmp 44) (.const (.int .i64 0)), none⟩] [1, 5, 6, 7, 8, 9, 10, 45])
 (.cond (.tmp 45)
  (.seq (.reg [
      ⟨(some 46), .mv (.tmp 7), none⟩,
      ⟨(some 47), .len (.tmp 46), none⟩,
      ⟨(some 48), .bin .eql (.tmp 47) (.const (.int .i64 0)), none⟩,
      ⟨(some 49), .mv (.tmp 48), none⟩,
      ⟨(some 50), .mv (.tmp 8), (some (49, true))⟩,
      ⟨(some 51), .bin .eql (.tmp 50) (.const (.int .i64 5)), (some (49, true))⟩,
      ⟨(some 52), .mv (.tmp 51), (some (49, true))⟩,
      ⟨(some 53), .mv (.tmp 10), (some (52, false))⟩,
      ⟨(some 54), .mv (.tmp 8), (some (52, false))⟩,
      ⟨(some 55), .bin .eql (.tmp 53) (.tmp 54), (some (52, false))⟩,
      ⟨(some 56), .pick (.tmp 52) (.const (.bool true)) (.tmp 55), (some (49, true))⟩,
      ⟨(some 57), .pick (.tmp 49) (.tmp 56) (.const (.bool false)), none⟩,
      ⟨(some 4), .mv (.tmp 57), none⟩] [4])
  (.ret))
  (.skip)))
 (.seq (.reg [
     ⟨(some 11), .mv (.const (.int .i64 0)), none⟩] [1, 5, 6, 7, 9, 10, 11])
 (.seq (.seq (.reg [
     ⟨(some 12), .mv (.const (.int .i64 0)), none⟩] [1, 5, 6, 7, 9, 10, 11, 12])
 (.block 0 (.loop [1, 5, 6, 7, 9, 10, 11, 12]
   (.seq (.seq (.reg [
       ⟨(some 58), .mv (.tmp 12), none⟩,
       ⟨(some 59), .mv (.tmp 7), none⟩,
       ⟨(some 60), .len (.tmp 59), none⟩,
       ⟨(some 61), .bin .lss (.tmp 58) (.tmp 60), none⟩] [1, 5, 6, 7, 9, 10, 11, 12, 61])
   (.cond (.tmp 61)
    (.skip)
    (.exit 0)))
   (.seq (.block 1 (.seq (.reg [
        ⟨(some 64), .mv (.tmp 11), none⟩,
        ⟨(some 65), .mv (.tmp 7), none⟩,
        ⟨(some 66), .mv (.tmp 12), none⟩,
        ⟨(some 67), .iaddr 1 (.tmp 65) (.tmp 66), none⟩,
        ⟨(some 68), .load 1 false (.tmp 67), none⟩,
        ⟨(some 69), .len (.tmp 68), none⟩,
        ⟨(some 70), .bin .add (.tmp 64) (.tmp 69), none⟩,
        ⟨(some 11), .mv (.tmp 70), none⟩] [1, 5, 6, 7, 9, 10, 11, 12])
    (.seq (.reg [
        ⟨(some 71), .mv (.tmp 7), none⟩,
        ⟨(some 72), .mv (.tmp 12), none⟩,
        ⟨(some 73), .iaddr 1 (.tmp 71) (.tmp 72), none⟩,
        ⟨(some 74), .load 1 false (.tmp 73), none⟩,
        ⟨(some 75), .qlen (.tmp 74), none⟩,
        ⟨(some 76), .bin .eql (.tmp 75) (.const (.int .i64 0)), none⟩,
        ⟨(some 77), .mv (.tmp 76), none⟩,
        ⟨(some 78), .mv (.tmp 12), (some (77, false))⟩,
        ⟨(some 79), .bin .gtr (.tmp 78) (.const (.int .i64 0)), (some (77, false))⟩,
        ⟨(some 80), .mv (.tmp 79), (some (77, false))⟩,
        ⟨(some 81), .mv (.tmp 7), (some (80, true))⟩,
        ⟨(some 82), .mv (.tmp 12), (some (80, true))⟩,
        ⟨(some 83), .bin .sub (.tmp 82) (.const (.int .i64 1)), (some (80, true))⟩,
        ⟨(some 84), .iaddr 1 (.tmp 81) (.tmp 83), (some (80, true))⟩,
        ⟨(some 85), .load 1 false (.tmp 84), (some (80, true))⟩,
        ⟨(some 86), .qlen (.tmp 85), (some (80, true))⟩,
        ⟨(some 87), .bin .eql (.tmp 86) (.const (.int .i64 0)), (some (80, true))⟩,
        ⟨(some 88), .mv (.tmp 87), (some (80, true))⟩,
        ⟨(some 89), .mv (.tmp 7), (some (88, false))⟩,
        ⟨(some 90), .mv (.tmp 12), (some (88, false))⟩,
        ⟨(some 91), .bin .sub (.tmp 90) (.const (.int .i64 1)), (some (88, false))⟩,
        ⟨(some 92), .iaddr 1 (.tmp 89) (.tmp 91), (some (88, false))⟩,
        ⟨(some 93), .load 1 false (.tmp 92), (some (88, false))⟩,
        ⟨(some 94), .iaddr 1 (.tmp 93) (.const (.int .i64 0)), (some (88, false))⟩,
        ⟨(some 95), .load 1 false (.tmp 94), (some (88, false))⟩,
        ⟨(some 96), .mv (.tmp 7), (some (88, false))⟩,
        ⟨(some 97), .mv (.tmp 12), (some (88, false))⟩,
        ⟨(some 98), .iaddr 1 (.tmp 96) (.tmp 97), (some (88, false))⟩,
        ⟨(some 99), .load 1 false (.tmp 98), (some (88, false))⟩,
        ⟨(some 100), .iaddr 1 (.tmp 99) (.const (.int .i64 0)), (some (88, false))⟩,
        ⟨(some 101), .load 1 false (.tmp 100), (some (88, false))⟩,
        ⟨(some 102), .qcall 23 [(.tmp 95), (.tmp 101)], (some (88, false))⟩,
        ⟨(some 103), .bin .neq (.tmp 102) (.const (.int .i64 (-1))), (some (88, false))⟩,
        ⟨(some 104), .pick (.tmp 88) (.const (.bool true)) (.tmp 103), (some (80, true))⟩,
        ⟨(some 105), .pick (.tmp 80) (.tmp 104) (.const (.bool false)), (some (77, false))⟩,
        ⟨(some 106), .pick (.tmp 77) (.const (.bool true)) (.tmp 105), none⟩] [1, 5, 6, 7, 9, 10, 11, 12, 106])
    (.cond (.tmp 106)
     (.seq (.reg [
         ⟨(some 4), .mv (.const (.bool false)), none⟩] [4])
     (.ret))
     (.skip)))))
   (.reg [
       ⟨(some 62), .mv (.tmp 12), none⟩,
       ⟨(some 63), .bin .add (.tmp 62) (.const (.int .i64 1)), none⟩,
       ⟨(some 12), .mv (.tmp 63), none⟩] [1, 5, 6, 7, 9, 10, 11, 12]))))))
 (.seq (.seq (.reg [
     ⟨(some 107), .mv (.tmp 10), none⟩,
     ⟨(some 108), .bin .neq (.tmp 107) (.const (.int .i64 0)), none⟩,
     ⟨(some 109), .mv (.tmp 108), none⟩,
     ⟨(some 110), .mv (.tmp 9), (some (109, false))⟩,
     ⟨(some 111), .mv (.tmp 7), (some (109, false))⟩,
     ⟨(some 112), .len (.tmp 111), (some (109, false))⟩,
     ⟨(some 113), .bin .neq (.tmp 110) (.tmp 112), (some (109, false))⟩,
     ⟨(some 114), .pick (.tmp 109) (.const (.bool true)) (.tmp 113), none⟩,
     ⟨(some 115), .mv (.tmp 114), none⟩,
     ⟨(some 116), .mv (.tmp 11), (some (115, false))⟩,
     ⟨(some 117), .faddr 0 (.tmp 5), (some (115, false))⟩,
     ⟨(some 118), .load 1 false (.tmp 117), (some (115, false))⟩,
     ⟨(some 119), .mv (.tmp 6), (some (115, false))⟩,
     ⟨(some 120), .call 24 [(.tmp 118), (.tmp 119)], (some (115, false))⟩,
     ⟨(some 121), .bin .neq (.tmp 116) (.tmp 120), (some (115, false))⟩,
     ⟨(some 122), .pick (.tmp 115) (.const (.bool true)) (.tmp 121), none⟩,
     ⟨(some 123), .mv (.tmp 122), none⟩,
     ⟨(some 124), .mv (.tmp 9), (some (123, false))⟩,
     ⟨(some 125), .bin .lss (.tmp 124) (.const (.int .i64 1)), (some (123, false))⟩,
     ⟨(some 126), .pick (.tmp 123) (.const (.bool true)) (.tmp 125), none⟩] [1, 5, 7, 9, 126])
 (.cond (.tmp 126)
  (.seq (.reg [
      ⟨(some 4), .mv (.const (.bool false)), none⟩] [4])
  (.ret))
  (.skip)))
 (.seq (.reg [
     ⟨(some 127), .mv (.tmp 7), none⟩,
     ⟨(some 128), .mv (.tmp 1), none⟩,
     ⟨(some 129), .mv (.tmp 9), none⟩,
     ⟨(some 130), .call 25 [(.tmp 128), (.const (.int .i64 0)), (.tmp 129)], none⟩,
     ⟨(some 131), .iaddr 1 (.tmp 127) (.tmp 130), none⟩,
     ⟨(some 132), .load 1 false (.tmp 131), none⟩,
     ⟨(some 13), .mv (.tmp 132), none⟩] [1, 5, 13])
 (.seq (.reg [
     ⟨(some 133), .mv (.tmp 13), none⟩,
     ⟨(some 134), .mv (.tmp 1), none⟩,
     ⟨(some 135), .mv (.tmp 13), none⟩,
     ⟨(some 136), .len (.tmp 135), none⟩,
     ⟨(some 137), .call 25 [(.tmp 134), (.const (.int .i64 1)), (.tmp 136)], none⟩,
     ⟨(some 138), .iaddr 1 (.tmp 133) (.tmp 137), none⟩,
     ⟨(some 139), .load 1 false (.tmp 138), none⟩,
     ⟨(some 14), .mv (.tmp 139), none⟩] [5, 13, 14])
 (.seq (.reg [
     ⟨(some 141), .load 2 true (.tmp 5), none⟩,
     ⟨(some 142), .mv (.tmp 14), none⟩,
     ⟨(some 143), .call 26 [(.tmp 141), (.tmp 142)], none⟩,
     ⟨(some 140), .mv (.tmp 143), none⟩,
     ⟨(some 144), .ext (.tmp 140) 0, none⟩,
     ⟨(some 145), .ext (.tmp 140) 1, none⟩,
     ⟨(some 15), .mv (.tmp 144), none⟩,
     ⟨(some 16), .mv (.tmp 145), none⟩] [5, 13, 14, 15, 16])
 (.seq (.reg [
     ⟨(some 147), .load 2 true (.tmp 5), none⟩,
     ⟨(some 148), .mv (.tmp 14), none⟩,
     ⟨(some 149), .call 27 [(.tmp 147), (.tmp 148)], none⟩,
     ⟨(some 146), .mv (.tmp 149), none⟩,
     ⟨(some 150), .ext (.tmp 146) 0, none⟩,
     ⟨(some 151), .ext (.tmp 146) 1, none⟩,
     ⟨(some 17), .mv (.tmp 150), none⟩,
     ⟨(some 18), .mv (.tmp 151), none⟩] [5, 13, 14, 15, 16, 17, 18])
 (.seq (.seq (.reg [
     ⟨(some 152), .mv (.tmp 16), none⟩,
     ⟨(some 153), .bin .neq (.tmp 152) (.const (.int .i64 0)), none⟩,
     ⟨(some 154), .mv (.tmp 153), none⟩,
     ⟨(some 155), .mv (.tmp 18), (some (154, false))⟩,
     ⟨(some 156), .bin .neq (.tmp 155) (.const (.int .i64 0)), (some (154, false))⟩,
     ⟨(some 157), .pick (.tmp 154) (.const (.bool true)) (.tmp 156), none⟩,
     ⟨(some 158), .mv (.tmp 157), none⟩,
     ⟨(some 159), .mv (.tmp 15), (some (158, false))⟩,
     ⟨(some 160), .mv (.tmp 13), (some (158, false))⟩,
     ⟨(some 161), .iaddr 1 (.tmp 160) (.const (.int .i64 0)), (some (158, false))⟩,
     ⟨(some 162), .load 1 false (.tmp 161), (some (158, false))⟩,
     ⟨(some 163), .call 28 [(.tmp 159), (.tmp 162)], (some (158, false))⟩,
     ⟨(some 164), .un .not (.tmp 163), (some (158, false))⟩,
     ⟨(some 165), .pick (.tmp 158) (.const (.bool true)) (.tmp 164), none⟩,
     ⟨(some 166), .mv (.tmp 165), none⟩,
     ⟨(some 167), .mv (.tmp 17), (some (166, false))⟩,
     ⟨(some 168), .mv (.tmp 13), (some (166, false))⟩,
     ⟨(some 169), .len (.tmp 168), (some (166, false))⟩,
     ⟨(some 170), .bin .neq (.tmp 167) (.tmp 169), (some (166, false))⟩,
     ⟨(some 171), .pick (.tmp 166) (.const (.bool true)) (.tmp 170), none⟩,
     ⟨(some 172), .mv (.tmp 171), none⟩,
     ⟨(some 173), .mv (.tmp 17), (some (172, false))⟩,
     ⟨(some 174), .bin .lss (.tmp 173) (.const (.int .i64 1)), (some (172, false))⟩,
     ⟨(some 175), .pick (.tmp 172) (.const (.bool true)) (.tmp 174), none⟩] [5, 14, 17, 175])
 (.cond (.tmp 175)
  (.seq (.reg [
      ⟨(some 4), .mv (.const (.bool false)), none⟩] [4])
  (.ret))
  (.skip)))
 (.seq (.reg [
     ⟨(some 177), .load 2 true (.tmp 5), none⟩,
     ⟨(some 178), .mv (.tmp 14), none⟩,
     ⟨(some 179), .call 29 [(.tmp 177), (.tmp 178)], none⟩,
     ⟨(some 176), .mv (.tmp 179), none⟩,
     ⟨(some 180), .ext (.tmp 176) 0, none⟩,
     ⟨(some 181), .ext (.tmp 176) 1, none⟩,
     ⟨(some 19), .alloc 44 [(.int .i64 0), (.slice none 0 0)], none⟩,
     ⟨none, .store 2 (.tmp 19) (.tmp 180), none⟩,
     ⟨(some 20), .mv (.tmp 181), none⟩] [5, 17, 19, 20])
 (.seq (.reg [
     ⟨(some 182), .mv (.tmp 20), none⟩,
     ⟨(some 183), .bin .eql (.tmp 182) (.const (.int .i64 0)), none⟩,
     ⟨(some 184), .mv (.tmp 183), none⟩,
     ⟨(some 185), .faddr 1 (.tmp 19), (some (184, true))⟩,
     ⟨(some 186), .load 1 false (.tmp 185), (some (184, true))⟩,
     ⟨(some 187), .len (.tmp 186), (some (184, true))⟩,
     ⟨(some 188), .mv (.tmp 17), (some (184, true))⟩,
     ⟨(some 189), .bin .mul (.tmp 187) (.tmp 188), (some (184, true))⟩,
     ⟨(some 190), .faddr 1 (.tmp 5), (some (184, true))⟩,
     ⟨(some 191), .load 1 false (.tmp 190), (some (184, true))⟩,
     ⟨(some 192), .len (.tmp 191), (some (184, true))⟩,
     ⟨(some 193), .bin .eql (.tmp 189) (.tmp 192), (some (184, true))⟩,
     ⟨(some 194), .pick (.tmp 184) (.tmp 193) (.const (.bool false)), none⟩,
     ⟨(some 4), .mv (.tmp 194), none⟩] [4])
 (.ret))))))))))))))))
theorem s_laws_FnSubsets : stripF Tryz.prog 5 [[0, 1], [0, 1, 26], [4], [1, 5, 6], [1, 5, 6, 7, 8], [1, 5, 6, 7, 8, 9, 10], [1, 5, 6, 7, 8, 9, 10, 45], [4], [1, 5, 6, 7, 9, 10, 11], [1, 5, 6, 7, 9, 10, 11, 12], [1, 5, 6, 7, 9, 10, 11, 12], [1, 5, 6, 7, 9, 10, 11, 12, 61], [1, 5, 6, 7, 9, 10, 11, 12], [1, 5, 6, 7, 9, 10, 11, 12, 106], [4], [1, 5, 6, 7, 9, 10, 11, 12], [1, 5, 7, 9, 126], [4], [1, 5, 13], [5, 13, 14], [5, 13, 14, 15, 16], [5, 13, 14, 15, 16, 17, 18], [5, 14, 17, 175], [4], [5, 17, 19, 20], [4]] = some (c_laws_FnSubsets, [.tmp 4], 195) := by kernel_rfl
theorem FS.pfn {P : Program} {f : FuncId} {args : List AV} {xs : List Int} {code : Int} (h : FS P f args xs code) : PFn P f args (.tup [ilS xs, I code]) := by
  intro H
  refine (h H).gr ?_
  rintro r H' ⟨ext, u, t, rfl, rfl, ho, ht⟩
  exact GR.froz (froz_tup2 (ho.froz (fun i hi => hi.1)) (froz_I' _)) ⟨rfl, rfl⟩
theorem lawFnSubsets_ok (H : List Blk) (ns ms : List Int) (hz : ∀ z ∈ ns, 0 ≤ z ∧ z < 256) (hy : ∀ z ∈ ms, 0 ≤ z ∧ z < 256) : ACalls Tryz.prog f_laws_FnSubsets [ilY ns, ilY ms] H (fun r _ => r = Bv true) := by
  have hbn := fun k => Bel_ilY k ns
  have hbm := fun k => Bel_ilY k ms
  have l1 := b10Long_fn ns
  have l2 := b10Long_fn ms
  by_cases h1 : (1048576 : Int) < ns.length
  · rw [decide_eq_true h1] at l1
    refine ACalls.introB s_laws_FnSubsets (by simp) ?_; intro hB hA; unfold c_laws_FnSubsets; simp (config := { maxSteps := 1000000 }) (disch := (first | omega | (simp only [go_sem]; try omega))) only [go_sem, Nat.reduceAdd, Nat.reduceEqDiff, Nat.reduceLeDiff, Nat.reduceMul, Nat.reduceLT, reduceIte, Int.reduceToNat, w64_id, cast_succ]
    repeat (first | (with_reducible first | refine SW.seq ?_ | refine SW.block ?_ | refine SW.rowC ?_ | refine SW.skip ?_ | refine SW.exit ?_ | refine PFn.use (l1) ?_ | refine PFn.useq (l1) ?_ | intro _ | refine And.intro (by omega) ?_) | simp (config := { maxSteps := 1000000 }) (disch := (first | omega | (simp only [go_sem]; try omega))) only [go_sem, Nat.reduceAdd, Nat.reduceEqDiff, Nat.reduceLeDiff, Nat.reduceMul, Nat.reduceLT, reduceIte, Int.reduceToNat, w64_id, cast_succ])
    refine SW.condT rfl ?_
    repeat (first | (with_reducible first | refine SW.seq ?_ | refine SW.block ?_ | refine SW.rowC ?_ | refine SW.skip ?_ | refine SW.exit ?_ | intro _ | refine And.intro (by omega) ?_) | simp (config := { maxSteps := 1000000 }) (disch := (first | omega | (simp only [go_sem]; try omega))) only [go_sem, Nat.reduceAdd, Nat.reduceEqDiff, Nat.reduceLeDiff, Nat.reduceMul, Nat.reduceLT, reduceIte, Int.reduceToNat, w64_id, cast_succ])
    refine SW.ret ?_; (try simp only [go_sem]); (first | refine FunPost.one ?_ | refine FunPost.two ?_ | refine FunPost.three ?_); (try simp (config := { maxSteps := 1000000 }) (disch := (first | omega | (simp only [go_sem]; try omega))) only [go_sem, Nat.reduceAdd, Nat.reduceEqDiff, Nat.reduceLeDiff, Nat.reduceMul, Nat.reduceLT, reduceIte, Int.reduceToNat, w64_id, cast_succ])
    exact GR.of rfl
  rw [decide_eq_false h1] at l1
  by_cases h2 : (1048576 : Int) < ms.length
  · rw [decide_eq_true h2] at l2
    refine ACalls.introB s_laws_FnSubsets (by simp) ?_; intro hB hA; unfold c_laws_FnSubsets; simp (config := { maxSteps := 1000000 }) (disch := (first | omega | (simp only [go_sem]; try omega))) only [go_sem, Nat.reduceAdd, Nat.reduceEqDiff, Nat.reduceLeDiff, Nat.reduceMul, Nat.reduceLT, reduceIte, Int.reduceToNat, w64_id, cast_succ]
    repeat (first | (with_reducible first | refine SW.seq ?_ | refine SW.block ?_ | refine SW.rowC ?_ | refine SW.skip ?_ | refine SW.exit ?_ | refine PFn.use (l1) ?_ | refine PFn.useq (l1) ?_ | refine PFn.use (l2) ?_ | refine PFn.useq (l2) ?_ | intro _ | refine And.intro (by omega) ?_) | simp (config := { maxSteps := 1000000 }) (disch := (first | omega | (simp only [go_sem]; try omega))) only [go_sem, Nat.reduceAdd, Nat.reduceEqDiff, Nat.reduceLeDiff, Nat.reduceMul, Nat.reduceLT, reduceIte, Int.reduceToNat, w64_id, cast_succ])
    refine SW.condT rfl ?_
    repeat (first | (with_reducible first | refine SW.seq ?_ | refine SW.block ?_ | refine SW.rowC ?_ | refine SW.skip ?_ | refine SW.exit ?_ | intro _ | refine And.intro (by omega) ?_) | simp (config := { maxSteps := 1000000 }) (disch := (first | omega | (simp only [go_sem]; try omega))) only [go_sem, Nat.reduceAdd, Nat.reduceEqDiff, Nat.reduceLeDiff, Nat.reduceMul, Nat.reduceLT, reduceIte, Int.reduceToNat, w64_id, cast_succ])
    refine SW.ret ?_; (try simp only [go_sem]); (first | refine FunPost.one ?_ | refine FunPost.two ?_ | refine FunPost.three ?_); (try simp (config := { maxSteps := 1000000 }) (disch := (first | omega | (simp only [go_sem]; try omega))) only [go_sem, Nat.reduceAdd, Nat.reduceEqDiff, Nat.reduceLeDiff, Nat.reduceMul, Nat.reduceLT, reduceIte, Int.reduceToNat, w64_id, cast_succ])
    exact GR.of rfl
  rw [decide_eq_false h2] at l2
  refine ACalls.introB s_laws_FnSubsets (by simp) ?_; intro hB hA; unfold c_laws_FnSubsets; simp (config := { maxSteps := 1000000 }) (disch := (first | omega | (simp only [go_sem]; try omega))) only [go_sem, Nat.reduceAdd, Nat.reduceEqDiff, Nat.reduceLeDiff, Nat.reduceMul, Nat.reduceLT, reduceIte, Int.reduceToNat, w64_id, cast_succ]
  repeat (first | (with_reducible first | refine SW.seq ?_ | refine SW.block ?_ | refine SW.rowC ?_ | refine SW.skip ?_ | refine SW.exit ?_ | refine PFn.use (l1) ?_ | refine PFn.useq (l1) ?_ | refine PFn.use (l2) ?_ | refine PFn.useq (l2) ?_ | intro _ | refine And.intro (by omega) ?_) | simp (config := { maxSteps := 1000000 }) (disch := (first | omega | (simp only [go_sem]; try omega))) only [go_sem, Nat.reduceAdd, Nat.reduceEqDiff, Nat.reduceLeDiff, Nat.reduceMul, Nat.reduceLT, reduceIte, Int.reduceToNat, w64_id, cast_succ])
  refine SW.condF rfl ?_
  repeat (first | (with_reducible first | refine SW.seq ?_ | refine SW.block ?_ | refine SW.rowC ?_ | refine SW.skip ?_ | refine SW.exit ?_ | intro _ | refine And.intro (by omega) ?_) | simp (config := { maxSteps := 1000000 }) (disch := (first | omega | (simp only [go_sem]; try omega))) only [go_sem, Nat.reduceAdd, Nat.reduceEqDiff, Nat.reduceLeDiff, Nat.reduceMul, Nat.reduceLT, reduceIte, Int.reduceToNat, w64_id, cast_succ])
  refine (DrawSubsetOrbits_ok _ ns hz (by omega)).mono ?_
  rintro r H1 ⟨rfl, n, els, k, rfl, q1, q2⟩
  have hrl : ∀ x ∈ els, x.length ≤ 2000000 := fun x hx => by have := q2 x hx; omega
  have so := (implSubsetOrbits_fx n els k hrl (by omega)).pfn
  have co := implCount_fn n els k hrl (by omega)
  repeat (first | (with_reducible first | refine SW.seq ?_ | refine SW.block ?_ | refine SW.rowC ?_ | refine SW.skip ?_ | refine SW.exit ?_ | refine PFn.use (so) ?_ | refine PFn.useq (so) ?_ | refine PFn.use (co) ?_ | refine PFn.useq (co) ?_ | intro _ | refine And.intro (by omega) ?_) | simp (config := { maxSteps := 1000000 }) (disch := (first | omega | (simp only [go_sem]; try omega))) only [go_sem, Nat.reduceAdd, Nat.reduceEqDiff, Nat.reduceLeDiff, Nat.reduceMul, Nat.reduceLT, reduceIte, Int.reduceToNat, w64_id, cast_succ])
  have d00 : decide (((0 : Nat) : Int) = 0) = true := rfl
  have d0 : decide ((0 : Int) = 0) = true := rfl
  by_cases h0 : askV n els k = 0
  · obtain ⟨hgo, k0, k1, hc, en, ek⟩ := askV_zero h0
    have hg := grpB_t.2 hgo
    have hG := IsG.of hgo
    have es : soV n els k = orbsV n els k := by unfold soV; rw [if_pos h0]
    have hco := count_is hg k0 k1
    have hs := soV_sets0 h0
    have hl := soV_len n els k
    have htot := orb_total (k := k.toNat) hG
    have hhd := orbAll_heads (k := k.toNat) hG
    have hof := fun O (hO : O ∈ orbsV n els k) => orbAll_of hG hO
    have hne : (orbsV n els k).length ≠ 0 := orbAll_ne hG (by omega)
    have hch := implChoose_fn n k
    have enk : chooseI n k = ((ch n.toNat k.toNat : Nat) : Int) := by
      have := chooseI_ch n.toNat k.toNat (by have := hgo.1; omega) (by omega)
      rwa [← en, ← ek] at this
    rw [enk] at hch
    rw [es] at hl
    rw [es, h0] at so ⊢
    change coV n els k = (((orbsV n els k).length : Int), 0) at hco
    rw [hco] at co ⊢
    change sumN (fun O => O.length) (orbsV n els k) = ch n.toNat k.toNat at htot
    change (orbsV n els k).Pairwise _ at hhd
    generalize orbsV n els k = os at *
    generalize ch n.toNat k.toNat = cc at *
    refine SW.condF rfl ?_
    repeat (first | (with_reducible first | refine SW.seq ?_ | refine SW.block ?_ | refine SW.rowC ?_ | refine SW.skip ?_ | refine SW.exit ?_ | intro _ | refine And.intro (by omega) ?_) | simp (config := { maxSteps := 1000000 }) (disch := (first | omega | (simp only [go_sem]; try omega))) only [go_sem, Nat.reduceAdd, Nat.reduceEqDiff, Nat.reduceLeDiff, Nat.reduceMul, Nat.reduceLT, reduceIte, Int.reduceToNat, w64_id, cast_succ])
    have hsum : ∀ l : List (List (List Int)), (∀ R ∈ l, R ∈ os) → sumN (fun O => O.length) l ≤ l.length * 720 := fun l => by
      induction l with
      | nil => intro _; simp [sumN]
      | cons a l ih =>
        intro h
        have i1 := ih (fun b hb => h b (by simp [hb]))
        have i2 := (hs a (h a (by simp))).2
        rw [sumN_cons, List.length_cons]
        omega
    refine SW.loopE (fun E0 H0 q E' H' => ∃ pre post : List (List (List Int)), os = pre ++ post ∧ q = post.length ∧ E' = aput (aput E0 11 (I (sumN (fun O => O.length) pre : Nat))) 12 (I pre.length) ∧ H' = H0) os.length ⟨[], os, rfl, rfl, rfl, rfl⟩ ?_
    rintro q E' H' ⟨pre, post, hpp, rfl, rfl, rfl⟩
    have hpl : pre.length ≤ 2000 := by rw [hpp, List.length_append] at hl; omega
    have hsp := hsum pre (fun b hb => by rw [hpp]; simp [hb])
    simp (config := { maxSteps := 1000000 }) (disch := (first | omega | (simp only [go_sem]; try omega))) only [go_sem, Nat.reduceAdd, Nat.reduceEqDiff, Nat.reduceLeDiff, Nat.reduceMul, Nat.reduceLT, reduceIte, Int.reduceToNat, w64_id, cast_succ]
    repeat (first | (with_reducible first | refine SW.seq ?_ | refine SW.block ?_ | refine SW.rowC ?_ | refine SW.skip ?_ | refine SW.exit ?_ | intro _ | refine And.intro (by omega) ?_) | simp (config := { maxSteps := 1000000 }) (disch := (first | omega | (simp only [go_sem]; try omega))) only [go_sem, Nat.reduceAdd, Nat.reduceEqDiff, Nat.reduceLeDiff, Nat.reduceMul, Nat.reduceLT, reduceIte, Int.reduceToNat, w64_id, cast_succ])
    (first | refine SW.condD rfl (fun h4 => ?_) (fun h4 => ?_) | refine SW.condN rfl (fun h4 => ?_) (fun h4 => ?_) | refine SW.condNB rfl (fun h4 => ?_) (fun h4 => ?_) | refine SW.condB rfl (fun h4 => ?_) (fun h4 => ?_))
    · have hpl2 : pre.length < os.length := by omega
      obtain ⟨O, post, rfl, hgO, -⟩ := consOf (d := []) hpp (by omega)
      have hO : O ∈ os := by rw [hpp]; simp
      obtain ⟨o1, o2⟩ := hs O hO
      have o3 : 0 < O.length := List.length_pos_iff.2 o1
      have d4 : decide ((O.length : Int) = 0) = false := decide_eq_false (by omega)
      have hss : sumN (fun O => O.length) (pre ++ [O]) = sumN (fun O => O.length) pre + O.length := by
        rw [sumN_app, sumN_cons, sumN_nil]; rfl
      by_cases hp0 : pre.length = 0
      · have d5 : decide ((0 : Int) < (pre.length : Int)) = false := decide_eq_false (by omega)
        repeat (first | (with_reducible first | refine SW.seq ?_ | refine SW.block ?_ | refine SW.rowC ?_ | refine SW.skip ?_ | refine SW.exit ?_ | intro _ | refine And.intro (by omega) ?_) | simp (config := { maxSteps := 1000000 }) (disch := (first | omega | (simp only [go_sem]; try omega))) only [go_sem, Nat.reduceAdd, Nat.reduceEqDiff, Nat.reduceLeDiff, Nat.reduceMul, Nat.reduceLT, reduceIte, Int.reduceToNat, w64_id, cast_succ, hgO, d4, d5])
        refine SW.condF rfl ?_
        repeat (first | (with_reducible first | refine SW.seq ?_ | refine SW.block ?_ | refine SW.rowC ?_ | refine SW.skip ?_ | refine SW.exit ?_ | intro _ | refine And.intro (by omega) ?_) | simp (config := { maxSteps := 1000000 }) (disch := (first | omega | (simp only [go_sem]; try omega))) only [go_sem, Nat.reduceAdd, Nat.reduceEqDiff, Nat.reduceLeDiff, Nat.reduceMul, Nat.reduceLT, reduceIte, Int.reduceToNat, w64_id, cast_succ])
        refine SLoop.next post.length (by simp) ⟨pre ++ [O], post, by rw [hpp]; simp, rfl, ?_, rfl⟩
        rw [hss]
        simp [go_sem]
      · have d5 : decide ((0 : Int) < (pre.length : Int)) = true := decide_eq_true (by omega)
        have e5 : (pre.length : Int) - 1 = ((pre.length - 1 : Nat) : Int) := by omega
        have hlt1 : pre.length - 1 < os.length := by omega
        have hO1 : os.getD (pre.length - 1) [] ∈ os := by rw [List.getD_eq_getElem?_getD, List.getElem?_eq_getElem hlt1]; exact List.getElem_mem _
        have hc : cmpL ((os.getD (pre.length - 1) []).getD 0 []) (O.getD 0 []) < 0 := by
          have := List.pairwise_iff_getElem.1 hhd (pre.length - 1) pre.length hlt1 hpl2 (by omega)
          rw [show os.getD (pre.length - 1) [] = os[pre.length - 1] from (List.getElem_eq_getD []).symm, show O = os[pre.length] from by rw [← hgO]; exact (List.getElem_eq_getD []).symm]
          exact this
        obtain ⟨p1, p2⟩ := hs _ hO1
        have p3 : 0 < (os.getD (pre.length - 1) []).length := List.length_pos_iff.2 p1
        generalize hO' : os.getD (pre.length - 1) [] = O' at *
        have d6 : decide ((O'.length : Int) = 0) = false := decide_eq_false (by omega)
        have d7 : decide (cmpL (O'.getD 0 []) (O.getD 0 []) = -1) = true := decide_eq_true (by have := cmpL_m1 (O'.getD 0 []) (O.getD 0 []); omega)
        repeat (first | (with_reducible first | refine SW.seq ?_ | refine SW.block ?_ | refine SW.rowC ?_ | refine SW.skip ?_ | refine SW.exit ?_ | refine PFn.use (implCompareLists_fn _ _) ?_ | refine PFn.useq (implCompareLists_fn _ _) ?_ | intro _ | refine And.intro (by omega) ?_) | simp (config := { maxSteps := 1000000 }) (disch := (first | omega | (simp only [go_sem]; try omega))) only [go_sem, Nat.reduceAdd, Nat.reduceEqDiff, Nat.reduceLeDiff, Nat.reduceMul, Nat.reduceLT, reduceIte, Int.reduceToNat, w64_id, cast_succ, hgO, hO', d4, d5, d6, d7, e5])
        refine SW.condF rfl ?_
        repeat (first | (with_reducible first | refine SW.seq ?_ | refine SW.block ?_ | refine SW.rowC ?_ | refine SW.skip ?_ | refine SW.exit ?_ | intro _ | refine And.intro (by omega) ?_) | simp (config := { maxSteps := 1000000 }) (disch := (first | omega | (simp only [go_sem]; try omega))) only [go_sem, Nat.reduceAdd, Nat.reduceEqDiff, Nat.reduceLeDiff, Nat.reduceMul, Nat.reduceLT, reduceIte, Int.reduceToNat, w64_id, cast_succ])
        refine SLoop.next post.length (by simp) ⟨pre ++ [O], post, by rw [hpp]; simp, rfl, ?_, rfl⟩
        rw [hss]
        simp [go_sem]
    · obtain ⟨rfl, rfl⟩ := nilOf hpp (by omega)
      have d8 : decide (((sumN (fun O => O.length) pre : Nat) : Int) = ((cc : Nat) : Int)) = true := decide_eq_true (by rw [htot])
      have d9 : decide ((pre.length : Int) < 1) = false := decide_eq_false (by omega)
      have d10 : decide ((pre.length : Int) = (pre.length : Int)) = true := decide_eq_true rfl
      have hal : acell1 (H1 ++ [(⟨0, tyG, 1, [I n, ilSS els]⟩ : Blk)]) (.pc H1.length 0 0) = some (I n) := by simp [acell1]
      repeat (first | (with_reducible first | refine SW.seq ?_ | refine SW.block ?_ | refine SW.rowC ?_ | refine SW.skip ?_ | refine SW.exit ?_ | refine PFn.use (hch) ?_ | refine PFn.useq (hch) ?_ | intro _ | refine And.intro (by omega) ?_) | simp (config := { maxSteps := 1000000 }) (disch := (first | omega | (simp only [go_sem]; try omega))) only [go_sem, Nat.reduceAdd, Nat.reduceEqDiff, Nat.reduceLeDiff, Nat.reduceMul, Nat.reduceLT, reduceIte, Int.reduceToNat, w64_id, cast_succ, d0, d8, d9, d10])
      refine SW.condF rfl ?_
      repeat (first | (with_reducible first | refine SW.seq ?_ | refine SW.block ?_ | refine SW.rowC ?_ | refine SW.skip ?_ | refine SW.exit ?_ | intro _ | refine And.intro (by omega) ?_) | simp (config := { maxSteps := 1000000 }) (disch := (first | omega | (simp only [go_sem]; try omega))) only [go_sem, Nat.reduceAdd, Nat.reduceEqDiff, Nat.reduceLeDiff, Nat.reduceMul, Nat.reduceLT, reduceIte, Int.reduceToNat, w64_id, cast_succ])
      refine (b10AtG _ ms 0 pre.length hy (by omega) (by omega) (by omega) (by omega)).mono ?_
      rintro r H2 ⟨rfl, j, rfl, hj⟩
      have hO : pre.getD j [] ∈ pre := by rw [List.getD_eq_getElem?_getD, List.getElem?_eq_getElem hj]; exact List.getElem_mem _
      obtain ⟨o1, o2⟩ := hs _ hO
      obtain ⟨S0, s1, s2, s3⟩ := hof _ hO
      generalize hOe : pre.getD j [] = O at *
      have o3 : 0 < O.length := List.length_pos_iff.2 o1
      repeat (first | (with_reducible first | refine SW.seq ?_ | refine SW.block ?_ | refine SW.rowC ?_ | refine SW.skip ?_ | refine SW.exit ?_ | intro _ | refine And.intro (by omega) ?_) | simp (config := { maxSteps := 1000000 }) (disch := (first | omega | (simp only [go_sem]; try omega))) only [go_sem, Nat.reduceAdd, Nat.reduceEqDiff, Nat.reduceLeDiff, Nat.reduceMul, Nat.reduceLT, reduceIte, Int.reduceToNat, w64_id, cast_succ, hOe])
      refine (b10AtG _ ms 1 O.length hy (by omega) (by omega) (by omega) (by omega)).mono ?_
      rintro r H2 ⟨rfl, j2, rfl, hj2⟩
      have hS : O.getD j2 [] ∈ O := by rw [List.getD_eq_getElem?_getD, List.getElem?_eq_getElem hj2]; exact List.getElem_mem _
      generalize hSe : O.getD j2 [] = S at *
      have hbas : asc 0 ((n.toNat : Nat) - 1) S = true := by rw [s3] at hS; exact (orb_set hG s2 hS).1
      have hbas' : asc 0 (n - 1) S = true := by rw [en]; exact hbas
      have hoS : sortU cmpL (imgsOf els S) = O := by rw [s3] at hS ⊢; exact orb_eq hG s2 hS
      have him : imV n els S = 0 := by unfold imV; rw [if_pos hg, if_pos hbas']
      have li := (implLeastImage_fs n els S hrl (by omega)).pfn
      have e1 : liV n els S = (O.getD 0 [], 0) := by unfold liV; rw [if_pos him, hoS]
      rw [e1] at li
      have ol := implOrbitLength_fn n els S hrl (by omega)
      have e2 : olV n els S = ((O.length : Int), 0) := by unfold olV; rw [if_pos him, hoS]
      rw [e2] at ol
      have hO0 : O.getD 0 [] ∈ O := by rw [List.getD_eq_getElem?_getD, List.getElem?_eq_getElem o3]; exact List.getElem_mem _
      have hO0l : (O.getD 0 []).length ≤ 32 := by
        rw [s3] at hO0
        have := asc_len (orb_set hG s2 hO0).1
        rcases this with h | h
        · rw [s3, h]; simp
        · rw [s3]; have := hgo.1; omega
      have hst := orb_stabG hG hbas
      change (sortU cmpL (imgsOf els S)).length * (stabL els S).length = els.length at hst
      rw [hoS] at hst
      have bn := b10Nums_fn (O.getD 0 []) (O.getD 0 []) (by omega)
      rw [decide_eq_true rfl] at bn
      have d11 : decide ((O.length : Int) < 1) = false := decide_eq_false (by omega)
      have d12 : decide ((O.length : Int) = (O.length : Int)) = true := decide_eq_true rfl
      repeat (first | (with_reducible first | refine SW.seq ?_ | refine SW.block ?_ | refine SW.rowC ?_ | refine SW.skip ?_ | refine SW.exit ?_ | refine PFn.use (li) ?_ | refine PFn.useq (li) ?_ | refine PFn.use (ol) ?_ | refine PFn.useq (ol) ?_ | refine PFn.use (bn) ?_ | refine PFn.useq (bn) ?_ | intro _ | refine And.intro (by omega) ?_) | simp (config := { maxSteps := 1000000 }) (disch := (first | omega | (simp only [go_sem]; try omega))) only [go_sem, Nat.reduceAdd, Nat.reduceEqDiff, Nat.reduceLeDiff, Nat.reduceMul, Nat.reduceLT, reduceIte, Int.reduceToNat, w64_id, cast_succ, hSe])
      rw [d11]
      refine SW.condF rfl ?_
      have hab : asc 0 (((n.toNat : Nat) : Int) - 1) S = true := hbas
      have hsb := fun H => SetStab_ok H n.toNat els S (by rw [← en]; exact hg) hab hrl (by omega)
      rw [← en] at hsb
      have eml : ((stabL els S).length : Int) * (O.length : Int) = (els.length : Int) := by
        rw [← hst, Int.natCast_mul, Int.mul_comm]
      repeat (first | (with_reducible first | refine SW.seq ?_ | refine SW.block ?_ | refine SW.rowC ?_ | refine SW.skip ?_ | refine SW.exit ?_ | intro _ | refine And.intro (by omega) ?_) | simp (config := { maxSteps := 1000000 }) (disch := (first | omega | (simp only [go_sem]; try omega))) only [go_sem, Nat.reduceAdd, Nat.reduceEqDiff, Nat.reduceLeDiff, Nat.reduceMul, Nat.reduceLT, reduceIte, Int.reduceToNat, w64_id, cast_succ])
      refine (hsb _).mono ?_
      rintro r H2 ⟨rfl, rfl⟩
      have d13 : decide ((els.length : Int) = (els.length : Int)) = true := decide_eq_true rfl
      repeat (first | (with_reducible first | refine SW.seq ?_ | refine SW.block ?_ | refine SW.rowC ?_ | refine SW.skip ?_ | refine SW.exit ?_ | intro _ | refine And.intro (by omega) ?_) | simp (config := { maxSteps := 1000000 }) (disch := (first | omega | (simp only [go_sem]; try omega))) only [go_sem, Nat.reduceAdd, Nat.reduceEqDiff, Nat.reduceLeDiff, Nat.reduceMul, Nat.reduceLT, reduceIte, Int.reduceToNat, w64_id, cast_succ, eml, d0, d13])
      refine SW.ret ?_; (try simp only [go_sem]); (first | refine FunPost.one ?_ | refine FunPost.two ?_ | refine FunPost.three ?_); (try simp (config := { maxSteps := 1000000 }) (disch := (first | omega | (simp only [go_sem]; try omega))) only [go_sem, Nat.reduceAdd, Nat.reduceEqDiff, Nat.reduceLeDiff, Nat.reduceMul, Nat.reduceLT, reduceIte, Int.reduceToNat, w64_id, cast_succ])
      exact GR.of rfl
  · have d1 : decide (askV n els k = 0) = false := decide_eq_false h0
    have ev : soV n els k = [] := by unfold soV; rw [if_neg h0]
    rw [d1, ev]
    refine SW.condT rfl ?_
    repeat (first | (with_reducible first | refine SW.seq ?_ | refine SW.block ?_ | refine SW.rowC ?_ | refine SW.skip ?_ | refine SW.exit ?_ | intro _ | refine And.intro (by omega) ?_) | simp (config := { maxSteps := 1000000 }) (disch := (first | omega | (simp only [go_sem]; try omega))) only [go_sem, Nat.reduceAdd, Nat.reduceEqDiff, Nat.reduceLeDiff, Nat.reduceMul, Nat.reduceLT, reduceIte, Int.reduceToNat, w64_id, cast_succ, d00])
    by_cases h5 : askV n els k = 5
    · have d2 : decide (askV n els k = 5) = true := decide_eq_true h5
      repeat (first | (with_reducible first | refine SW.seq ?_ | refine SW.block ?_ | refine SW.rowC ?_ | refine SW.skip ?_ | refine SW.exit ?_ | intro _ | refine And.intro (by omega) ?_) | simp (config := { maxSteps := 1000000 }) (disch := (first | omega | (simp only [go_sem]; try omega))) only [go_sem, Nat.reduceAdd, Nat.reduceEqDiff, Nat.reduceLeDiff, Nat.reduceMul, Nat.reduceLT, reduceIte, Int.reduceToNat, w64_id, cast_succ, d2])
      refine SW.ret ?_; (try simp only [go_sem]); (first | refine FunPost.one ?_ | refine FunPost.two ?_ | refine FunPost.three ?_); (try simp (config := { maxSteps := 1000000 }) (disch := (first | omega | (simp only [go_sem]; try omega))) only [go_sem, Nat.reduceAdd, Nat.reduceEqDiff, Nat.reduceLeDiff, Nat.reduceMul, Nat.reduceLT, reduceIte, Int.reduceToNat, w64_id, cast_succ])
      exact GR.of rfl
    · have d2 : decide (askV n els k = 5) = false := decide_eq_false h5
      have d3 : decide ((coV n els k).2 = askV n els k) = true := decide_eq_true (by
        unfold askV at h0 h5 ⊢
        unfold coV
        split
        · rename_i hg
          rw [if_pos hg] at h0 h5
          split
          · rename_i hk
            rw [if_pos hk] at h0 h5
            split at h0 <;> simp_all
          · rfl
        · rfl)
      repeat (first | (with_reducible first | refine SW.seq ?_ | refine SW.block ?_ | refine SW.rowC ?_ | refine SW.skip ?_ | refine SW.exit ?_ | intro _ | refine And.intro (by omega) ?_) | simp (config := { maxSteps := 1000000 }) (disch := (first | omega | (simp only [go_sem]; try omega))) only [go_sem, Nat.reduceAdd, Nat.reduceEqDiff, Nat.reduceLeDiff, Nat.reduceMul, Nat.reduceLT, reduceIte, Int.reduceToNat, w64_id, cast_succ, d2, d3])
      refine SW.ret ?_; (try simp only [go_sem]); (first | refine FunPost.one ?_ | refine FunPost.two ?_ | refine FunPost.three ?_); (try simp (config := { maxSteps := 1000000 }) (disch := (first | omega | (simp only [go_sem]; try omega))) only [go_sem, Nat.reduceAdd, Nat.reduceEqDiff, Nat.reduceLeDiff, Nat.reduceMul, Nat.reduceLT, reduceIte, Int.reduceToNat, w64_id, cast_succ])
      exact GR.of rfl
end Go.Proofs.YthogadbnddmkdaaGreat
