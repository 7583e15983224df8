/- Graphs generated: the reference. -/
import Derived.Test.YtmdeibdplpodpaaGreatProg
import Derived.KernelRfl
import Derived.Test.YtmdeibdplpodpaaGreatzHC
import Derived.Test.YtmdeibdplpodpaaGreatzCE0
import Derived.Test.YtmdeibdplpodpaaGreatzZ4
set_option linter.unusedSimpArgs false
set_option linter.unusedVariables false
set_option maxHeartbeats 4000000
set_option maxRecDepth 100000
namespace Go.Proofs.YtmdeibdplpodpaaGreat
open Go.Av
abbrev f_spec_GenerateGraphs : Nat := 14
def c_spec_GenerateGraphs : SC :=
 .seq (.reg [
     ⟨(some 2), .mv (.const (.slice none 0 0)), none⟩,
     ⟨(some 3), .mv (.const (.int .i64 0)), none⟩] [0])
 (.seq (.seq (.reg [
     ⟨(some 14), .mv (.tmp 0), none⟩,
     ⟨(some 15), .call 41 [(.tmp 14), (.const (.int .i64 1)), (.const (.int .i64 5))], none⟩,
     ⟨(some 16), .un .not (.tmp 15), none⟩] [0, 16])
 (.cond (.tmp 16)
  (.seq (.reg [
      ⟨(some 2), .mv (.const (.slice none 0 0)), none⟩,
      ⟨(some 3), .mv (.const (.int .i64 2)), none⟩] [2, 3])
  (.ret))
  (.skip)))
 (.seq (.reg [
     ⟨(some 17), .bslice 31 2 0 [] [], none⟩,
     ⟨(some 4), .mv (.tmp 17), none⟩] [0, 4])
 (.seq (.reg [
     ⟨(some 18), .bslice 22 1 0 [] [], none⟩,
     ⟨(some 19), .bslice 25 1 1 [(.slice none 0 0)] [(0, (.tmp 18))], none⟩,
     ⟨(some 5), .mv (.tmp 19), none⟩] [0, 4, 5])
 (.seq (.block 0 (.loop [0, 4, 5]
   (.seq (.seq (.reg [
       ⟨(some 20), .mv (.tmp 5), none⟩,
       ⟨(some 21), .len (.tmp 20), none⟩,
       ⟨(some 22), .bin .gtr (.tmp 21) (.const (.int .i64 0)), none⟩] [0, 4, 5, 22])
   (.cond (.tmp 22)
    (.skip)
    (.exit 0)))
   (.block 1 (.seq (.reg [
        ⟨(some 23), .bslice 25 1 0 [] [], none⟩,
        ⟨(some 6), .mv (.tmp 23), none⟩] [0, 4, 5, 6])
    (.seq (.seq (.reg [
        ⟨(some 7), .mv (.const (.int .i64 0)), none⟩] [0, 4, 5, 6, 7])
    (.block 2 (.loop [0, 4, 5, 6, 7]
      (.seq (.seq (.reg [
          ⟨(some 24), .mv (.tmp 7), none⟩,
          ⟨(some 25), .mv (.tmp 5), none⟩,
          ⟨(some 26), .len (.tmp 25), none⟩,
          ⟨(some 27), .bin .lss (.tmp 24) (.tmp 26), none⟩] [0, 4, 5, 6, 7, 27])
      (.cond (.tmp 27)
       (.skip)
       (.exit 2)))
      (.seq (.block 3 (.seq (.reg [
           ⟨(some 30), .mv (.tmp 0), none⟩,
           ⟨(some 31), .mslice 2 8 (.int .i64 0) (.tmp 30) (.tmp 30), none⟩,
           ⟨(some 32), .bslice 72 2 0 [] [], none⟩,
           ⟨(some 33), .build [(.slice none 0 0), (.slice none 0 0)] [(0, 1, (.tmp 31)), (1, 1, (.tmp 32))], none⟩,
           ⟨(some 8), .alloc 31 [(.slice none 0 0), (.slice none 0 0)], none⟩,
           ⟨none, .store 2 (.tmp 8) (.tmp 33), none⟩] [0, 4, 5, 6, 7, 8])
       (.seq (.seq (.reg [
           ⟨(some 9), .mv (.const (.int .i64 0)), none⟩] [0, 4, 5, 6, 7, 8, 9])
       (.block 4 (.loop [0, 4, 5, 6, 7, 8, 9]
         (.seq (.seq (.reg [
             ⟨(some 34), .mv (.tmp 9), none⟩,
             ⟨(some 35), .mv (.tmp 5), none⟩,
             ⟨(some 36), .mv (.tmp 7), none⟩,
             ⟨(some 37), .iaddr 1 (.tmp 35) (.tmp 36), none⟩,
             ⟨(some 38), .load 1 false (.tmp 37), none⟩,
             ⟨(some 39), .len (.tmp 38), none⟩,
             ⟨(some 40), .bin .lss (.tmp 34) (.tmp 39), none⟩] [0, 4, 5, 6, 7, 8, 9, 40])
         (.cond (.tmp 40)
          (.skip)
          (.exit 4)))
         (.seq (.block 5 (.reg [
              ⟨(some 43), .faddr 1 (.tmp 8), none⟩,
              ⟨(some 44), .load 1 false (.tmp 43), none⟩,
              ⟨(some 45), .mv (.tmp 5), none⟩,
              ⟨(some 46), .mv (.tmp 7), none⟩,
              ⟨(some 47), .iaddr 1 (.tmp 45) (.tmp 46), none⟩,
              ⟨(some 48), .load 1 false (.tmp 47), none⟩,
              ⟨(some 49), .mv (.tmp 9), none⟩,
              ⟨(some 50), .iaddr 1 (.tmp 48) (.tmp 49), none⟩,
              ⟨(some 51), .load 1 false (.tmp 50), none⟩,
              ⟨(some 52), .iaddr 1 (.tmp 51) (.const (.int .i64 0)), none⟩,
              ⟨(some 53), .load 1 false (.tmp 52), none⟩,
              ⟨(some 54), .mv (.tmp 5), none⟩,
              ⟨(some 55), .mv (.tmp 7), none⟩,
              ⟨(some 56), .iaddr 1 (.tmp 54) (.tmp 55), none⟩,
              ⟨(some 57), .load 1 false (.tmp 56), none⟩,
              ⟨(some 58), .mv (.tmp 9), none⟩,
              ⟨(some 59), .iaddr 1 (.tmp 57) (.tmp 58), none⟩,
              ⟨(some 60), .load 1 false (.tmp 59), none⟩,
              ⟨(some 61), .iaddr 1 (.tmp 60) (.const (.int .i64 1)), none⟩,
              ⟨(some 62), .load 1 false (.tmp 61), none⟩,
              ⟨(some 63), .build [(.int .i64 0), (.int .i64 0)] [(0, 1, (.tmp 53)), (1, 1, (.tmp 62))], none⟩,
              ⟨(some 64), .bslice 72 2 1 [(.int .i64 0), (.int .i64 0)] [(0, (.tmp 63))], none⟩,
              ⟨(some 65), .app 72 2 16 (.tmp 44) (.tmp 64), none⟩,
              ⟨(some 66), .faddr 1 (.tmp 8), none⟩,
              ⟨none, .store 1 (.tmp 66) (.tmp 65), none⟩] [0, 4, 5, 6, 7, 8, 9]))
         (.reg [
             ⟨(some 41), .mv (.tmp 9), none⟩,
             ⟨(some 42), .bin .add (.tmp 41) (.const (.int .i64 1)), none⟩,
             ⟨(some 9), .mv (.tmp 42), none⟩] [0, 4, 5, 6, 7, 8, 9]))))))
       (.seq (.reg [
           ⟨(some 67), .mv (.tmp 4), none⟩,
           ⟨(some 68), .load 2 true (.tmp 8), none⟩,
           ⟨(some 69), .bslice 31 2 1 [(.slice none 0 0), (.slice none 0 0)] [(0, (.tmp 68))], none⟩,
           ⟨(some 70), .app 31 2 48 (.tmp 67) (.tmp 69), none⟩,
           ⟨(some 4), .mv (.tmp 70), none⟩] [0, 4, 5, 6, 7])
       (.seq (.reg [
           ⟨(some 71), .bslice 22 1 0 [] [], none⟩,
           ⟨(some 10), .mv (.tmp 71), none⟩] [0, 4, 5, 6, 7, 10])
       (.seq (.seq (.reg [
           ⟨(some 72), .mv (.tmp 0), none⟩,
           ⟨(some 73), .bin .gtr (.tmp 72) (.const (.int .i64 1)), none⟩] [0, 4, 5, 6, 7, 10, 73])
       (.cond (.tmp 73)
        (.reg [
            ⟨(some 74), .mv (.tmp 0), none⟩,
            ⟨(some 75), .mv (.tmp 5), none⟩,
            ⟨(some 76), .mv (.tmp 7), none⟩,
            ⟨(some 77), .iaddr 1 (.tmp 75) (.tmp 76), none⟩,
            ⟨(some 78), .load 1 false (.tmp 77), none⟩,
            ⟨(some 79), .call 42 [(.tmp 74), (.tmp 78), (.const (.int .i64 2)), (.const (.int .i64 1))], none⟩,
            ⟨(some 10), .mv (.tmp 79), none⟩] [0, 4, 5, 6, 7, 10])
        (.skip)))
       (.seq (.reg [
           ⟨(some 11), .mv (.const (.int .i64 0)), none⟩] [0, 4, 5, 6, 7, 10, 11])
       (.block 6 (.loop [0, 4, 5, 6, 7, 10, 11]
         (.seq (.seq (.reg [
             ⟨(some 80), .mv (.tmp 11), none⟩,
             ⟨(some 81), .mv (.tmp 10), none⟩,
             ⟨(some 82), .len (.tmp 81), none⟩,
             ⟨(some 83), .bin .lss (.tmp 80) (.tmp 82), none⟩] [0, 4, 5, 6, 7, 10, 11, 83])
         (.cond (.tmp 83)
          (.skip)
          (.exit 6)))
         (.seq (.block 7 (.seq (.reg [
              ⟨(some 87), .mv (.tmp 0), none⟩,
              ⟨(some 88), .mv (.tmp 5), none⟩,
              ⟨(some 89), .mv (.tmp 7), none⟩,
              ⟨(some 90), .iaddr 1 (.tmp 88) (.tmp 89), none⟩,
              ⟨(some 91), .load 1 false (.tmp 90), none⟩,
              ⟨(some 92), .mv (.tmp 10), none⟩,
              ⟨(some 93), .mv (.tmp 11), none⟩,
              ⟨(some 94), .iaddr 1 (.tmp 92) (.tmp 93), none⟩,
              ⟨(some 95), .load 1 false (.tmp 94), none⟩,
              ⟨(some 96), .qcall 44 [(.tmp 91), (.tmp 95)], none⟩,
              ⟨(some 97), .qcall 43 [(.tmp 87), (.tmp 96)], none⟩,
              ⟨(some 86), .mv (.tmp 97), none⟩,
              ⟨(some 98), .ext (.tmp 86) 0, none⟩,
              ⟨(some 99), .ext (.tmp 86) 1, none⟩,
              ⟨(some 12), .mv (.tmp 98), none⟩,
              ⟨(some 13), .mv (.tmp 99), none⟩] [0, 4, 5, 6, 7, 10, 11, 12])
          (.reg [
              ⟨(some 100), .mv (.tmp 6), none⟩,
              ⟨(some 101), .mv (.tmp 12), none⟩,
              ⟨(some 102), .call 45 [(.tmp 100), (.tmp 101)], none⟩,
              ⟨(some 6), .mv (.tmp 102), none⟩] [0, 4, 5, 6, 7, 10, 11])))
         (.reg [
             ⟨(some 84), .mv (.tmp 11), none⟩,
             ⟨(some 85), .bin .add (.tmp 84) (.const (.int .i64 1)), none⟩,
             ⟨(some 11), .mv (.tmp 85), none⟩] [0, 4, 5, 6, 7, 10, 11]))))))))))))
      (.reg [
          ⟨(some 28), .mv (.tmp 7), none⟩,
          ⟨(some 29), .bin .add (.tmp 28) (.const (.int .i64 1)), none⟩,
          ⟨(some 7), .mv (.tmp 29), none⟩] [0, 4, 5, 6, 7]))))))
    (.reg [
        ⟨(some 103), .mv (.tmp 6), none⟩,
        ⟨(some 5), .mv (.tmp 103), none⟩] [0, 4, 5])))))))
 (.seq (.reg [
     ⟨(some 104), .mv (.tmp 4), none⟩,
     ⟨(some 2), .mv (.tmp 104), none⟩,
     ⟨(some 3), .mv (.const (.int .i64 0)), none⟩] [2, 3])
 (.ret))))))
theorem s_spec_GenerateGraphs : stripF Tryz.prog 14 [[0], [0, 16], [2, 3], [0, 4], [0, 4, 5], [0, 4, 5], [0, 4, 5, 22], [0, 4, 5, 6], [0, 4, 5, 6, 7], [0, 4, 5, 6, 7], [0, 4, 5, 6, 7, 27], [0, 4, 5, 6, 7, 8], [0, 4, 5, 6, 7, 8, 9], [0, 4, 5, 6, 7, 8, 9], [0, 4, 5, 6, 7, 8, 9, 40], [0, 4, 5, 6, 7, 8, 9], [0, 4, 5, 6, 7, 8, 9], [0, 4, 5, 6, 7], [0, 4, 5, 6, 7, 10], [0, 4, 5, 6, 7, 10, 73], [0, 4, 5, 6, 7, 10], [0, 4, 5, 6, 7, 10, 11], [0, 4, 5, 6, 7, 10, 11], [0, 4, 5, 6, 7, 10, 11, 83], [0, 4, 5, 6, 7, 10, 11, 12], [0, 4, 5, 6, 7, 10, 11], [0, 4, 5, 6, 7, 10, 11], [0, 4, 5, 6, 7], [0, 4, 5], [2, 3]] = some (c_spec_GenerateGraphs, [.tmp 2, .tmp 3], 105) := by kernel_rfl
theorem renOk_keep {H ext : List Blk} {t ver ty sz : Nat} {cells cells' : List AV} (ht : H.length ≤ t) (h : (H ++ ext)[t]? = some ⟨ver, ty, sz, cells⟩) (hsz : sz ≠ 0) (hl : cells'.length ≤ cells.length)
    (hc : ∀ (i : Nat) (c c' : AV), cells[i]? = some c → cells'[i]? = some c' → Ren (H ++ ext) H.length [some t] c c') : RenOk (H ++ ext) H.length [some t] [⟨0, ty, sz, cells'⟩] := by
  refine ⟨rfl, fun p q j hp hq => ?_, fun p j nb hp hn => ?_, fun p nb hp hn => ?_⟩
  · have h1 := (List.getElem?_eq_some_iff.1 hp).1
    have h2 := (List.getElem?_eq_some_iff.1 hq).1
    simp at h1 h2; omega
  · have h1 := (List.getElem?_eq_some_iff.1 hp).1
    have : p = 0 := by simp at h1; omega
    subst this
    simp at hp hn
    subst hp; subst hn
    refine ⟨_, ht, h, hsz, rfl, rfl, rfl, hl, fun i c' hc' => ?_⟩
    have hi := (List.getElem?_eq_some_iff.1 hc').1
    exact ⟨_, List.getElem?_eq_getElem (show i < cells.length from Nat.lt_of_lt_of_le hi hl), hc i _ _ (List.getElem?_eq_getElem _) hc'⟩
  · have h1 := (List.getElem?_eq_some_iff.1 hp).1
    have : p = 0 := by simp at h1; omega
    subst this
    simp at hp
theorem ren_nmJ {H : List Blk} {k : Nat} {js : List (Option Nat)} {r ver ty sz n : Nat} {cells cs : List AV} (hb : k ≤ r) (hj : some r ∉ js) (hr : H[r]? = some ⟨ver, ty, sz, cells⟩) (hl : cells.length = n * sz) (hcs : cs.length = cells.length)
    (h : ∀ (j : Nat) (c c' : AV), cells[j]? = some c → cs[j]? = some c' → Ren H k js c c') : Ren H k js (.nm r ver 0 n) (.il n cs) := by
  have hc : (cells.drop 0).take (n * sz) = cells := by rw [List.drop_zero]; exact List.take_of_length_le (by omega)
  exact .fz r ver 0 n _ cs hb hj hr rfl (by simp only [hc]; exact hcs) (fun j c c' g1 g2 => h j c c' (by simp only [hc] at g1; exact g1) g2)
theorem ren_rowJ {H : List Blk} {k : Nat} {js : List (Option Nat)} {r ver ty n : Nat} {xs : List Int} (hb : k ≤ r) (hj : some r ∉ js) (hr : H[r]? = some ⟨ver, ty, 1, xs.map I⟩) (hn : n = xs.length) : Ren H k js (.nm r ver 0 n) (ilS xs) := by
  subst hn
  refine ren_nmJ hb hj hr (by simp) rfl fun j c c' h1 h2 => ?_
  rw [h1] at h2; cases h2
  obtain ⟨x, _, rfl⟩ := List.mem_map.1 (List.mem_of_getElem? h1)
  exact ren_I x
theorem ren_edgJ {H : List Blk} {k : Nat} {js : List (Option Nat)} {r ver ty n : Nat} {es : List (Int × Int)} (hb : k ≤ r) (hj : some r ∉ js) (hr : H[r]? = some ⟨ver, ty, 2, flatE es⟩) (hn : n = es.length) : Ren H k js (.nm r ver 0 n) (ilE es) := by
  subst hn
  refine ren_nmJ hb hj hr (by rw [flatE_length]) rfl fun j c c' h1 h2 => ?_
  rw [h1] at h2; cases h2
  have := List.mem_of_getElem? h1
  unfold flatE at this
  obtain ⟨e, _, he⟩ := List.mem_flatMap.1 this
  simp at he
  rcases he with rfl | rfl <;> exact ren_I _
theorem ren_flatG {H : List Blk} {k : Nat} {js : List (Option Nat)} {gs : List Gr} {i : Nat} {c c' : AV} (h1 : (flatG gs)[i]? = some c) (h2 : (flatG gs)[i]? = some c') : Ren H k js c c' := by
  rw [h1] at h2; cases h2
  have := List.mem_of_getElem? h1
  unfold flatG at this
  obtain ⟨g, _, he⟩ := List.mem_flatMap.1 this
  simp at he
  rcases he with rfl | rfl
  · exact ren_ilS _
  · exact .old _ (Bel_ilE _ _)
theorem bel_flatG (b : Nat) (gs : List Gr) : ∀ c ∈ flatG gs, Bel b c := fun c hc => by
  unfold flatG at hc
  obtain ⟨g, _, he⟩ := List.mem_flatMap.1 hc
  simp at he
  rcases he with rfl | rfl
  · rw [Bel_ilS]; trivial
  · exact Bel_ilE _ _
theorem bel_flatE (b : Nat) (es : List (Int × Int)) : ∀ c ∈ flatE es, Bel b c := fun c hc => by
  unfold flatE at hc
  obtain ⟨e, _, he⟩ := List.mem_flatMap.1 hc
  simp at he
  rcases he with rfl | rfl <;> exact .lit _
theorem froz_rowG {H : List Blk} {b r ver ty n : Nat} {gs : List Gr} (hb : b ≤ r) (hr : H[r]? = some ⟨ver, ty, 2, flatG gs⟩) (hn : n = gs.length) : Froz H b (.nm r ver 0 n) (ilG gs) := by
  subst hn
  have hc : ((flatG gs).drop 0).take (gs.length * 2) = flatG gs := by rw [List.drop_zero]; exact List.take_of_length_le (by rw [flatG_len]; omega)
  refine .nm r ver 0 _ _ _ hb hr rfl (by simp only [hc]) fun j c c' g1 g2 => ?_
  simp only [hc] at g1
  rw [g1] at g2; cases g2
  have := List.mem_of_getElem? g1
  unfold flatG at this
  obtain ⟨g, _, he⟩ := List.mem_flatMap.1 this
  simp at he
  rcases he with rfl | rfl
  · exact froz_ilS _
  · exact .old _ (Bel_ilE _ _)
theorem specGenGr_fn (n : Int) : PFn Tryz.prog f_spec_GenerateGraphs [I n] (.tup [ilG (ggV n), I (ggC n)]) := by
  have hwi := l00In_fn n 1 5
  unfold ggV ggC
  by_cases hn : 1 ≤ n ∧ n ≤ 5
  rotate_left
  · rw [show (decide (1 ≤ n) && decide (n ≤ 5)) = false by rw [Bool.and_eq_false_iff, decide_eq_false_iff_not, decide_eq_false_iff_not]; omega] at hwi
    rw [if_neg hn, if_neg hn]
    intro H
    refine ACalls.introB s_spec_GenerateGraphs (by simp) ?_; intro hB hA; unfold c_spec_GenerateGraphs; simp (config := { maxSteps := 1000000 }) (disch := (first | omega | (simp only [go_sem]; try omega))) only [go_sem, Nat.reduceAdd, Nat.reduceEqDiff, Nat.reduceLeDiff, Nat.reduceMul, Nat.reduceLT, reduceIte, Int.reduceToNat, w64_id, cast_succ]
    repeat (first | (with_reducible first | refine SW.seq ?_ | refine SW.block ?_ | refine SW.rowC ?_ | refine SW.skip ?_ | refine SW.exit ?_ | refine PFn.use (hwi) ?_ | refine PFn.useq (hwi) ?_ | intro _ | refine And.intro (by omega) ?_) | simp (config := { maxSteps := 1000000 }) (disch := (first | omega | (simp only [go_sem]; try omega))) only [go_sem, Nat.reduceAdd, Nat.reduceEqDiff, Nat.reduceLeDiff, Nat.reduceMul, Nat.reduceLT, reduceIte, Int.reduceToNat, w64_id, cast_succ])
    refine SW.condT rfl ?_
    repeat (first | (with_reducible first | refine SW.seq ?_ | refine SW.block ?_ | refine SW.rowC ?_ | refine SW.skip ?_ | refine SW.exit ?_ | intro _ | refine And.intro (by omega) ?_) | simp (config := { maxSteps := 1000000 }) (disch := (first | omega | (simp only [go_sem]; try omega))) only [go_sem, Nat.reduceAdd, Nat.reduceEqDiff, Nat.reduceLeDiff, Nat.reduceMul, Nat.reduceLT, reduceIte, Int.reduceToNat, w64_id, cast_succ])
    refine SW.ret ?_; (try simp only [go_sem]); (first | refine FunPost.one ?_ | refine FunPost.two ?_ | refine FunPost.three ?_); (try simp (config := { maxSteps := 1000000 }) (disch := (first | omega | (simp only [go_sem]; try omega))) only [go_sem, Nat.reduceAdd, Nat.reduceEqDiff, Nat.reduceLeDiff, Nat.reduceMul, Nat.reduceLT, reduceIte, Int.reduceToNat, w64_id, cast_succ])
    exact GR.froz0 (r' := .tup [ilG [], I 2]) (froz_tup2 .nil (froz_I' _)) ⟨rfl, rfl⟩
  rw [show (decide (1 ≤ n) && decide (n ≤ 5)) = true by rw [Bool.and_eq_true, decide_eq_true_eq, decide_eq_true_eq]; exact hn] at hwi
  rw [if_pos hn, if_pos hn]
  obtain ⟨n, rfl⟩ := Int.eq_ofNat_of_zero_le (show 0 ≤ n by omega)
  rw [Int.toNat_natCast]
  have h1 : 1 ≤ n := by omega
  have h5 : n ≤ 5 := by omega
  intro H
  refine ACalls.introB s_spec_GenerateGraphs (by simp) ?_; intro hB hA; unfold c_spec_GenerateGraphs; simp (config := { maxSteps := 1000000 }) (disch := (first | omega | (simp only [go_sem]; try omega))) only [go_sem, Nat.reduceAdd, Nat.reduceEqDiff, Nat.reduceLeDiff, Nat.reduceMul, Nat.reduceLT, reduceIte, Int.reduceToNat, w64_id, cast_succ]
  repeat (first | (with_reducible first | refine SW.seq ?_ | refine SW.block ?_ | refine SW.rowC ?_ | refine SW.skip ?_ | refine SW.exit ?_ | refine PFn.use (hwi) ?_ | refine PFn.useq (hwi) ?_ | intro _ | refine And.intro (by omega) ?_) | simp (config := { maxSteps := 1000000 }) (disch := (first | omega | (simp only [go_sem]; try omega))) only [go_sem, Nat.reduceAdd, Nat.reduceEqDiff, Nat.reduceLeDiff, Nat.reduceMul, Nat.reduceLT, reduceIte, Int.reduceToNat, w64_id, cast_succ])
  refine SW.condF rfl ?_
  repeat (first | (with_reducible first | refine SW.seq ?_ | refine SW.block ?_ | refine SW.rowC ?_ | refine SW.skip ?_ | refine SW.exit ?_ | intro _ | refine And.intro (by omega) ?_) | simp (config := { maxSteps := 1000000 }) (disch := (first | omega | (simp only [go_sem]; try omega))) only [go_sem, Nat.reduceAdd, Nat.reduceEqDiff, Nat.reduceLeDiff, Nat.reduceMul, Nat.reduceLT, reduceIte, Int.reduceToNat, w64_id, cast_succ])
  refine SW.renK (js := [some H.length]) (H2 := [⟨0, tyGr, 2, flatG []⟩]) (E' := [(0, I n), (4, .nm H.length 0 0 0), (5, il3 [[]])]) hB (Nat.le_refl _) (renOk_keep (Nat.le_refl _) (ver := 0) (cells := []) (by simp) (by omega) (Nat.le_refl _) (fun i c c' h => by simp at h))
    (.cons _ (ren_I _) (.cons _ (.nm 0 H.length 0 0 0 ⟨0, tyGr, 2, []⟩ rfl (by simp) rfl) (.cons _ ?_ .nil))) ?_
  · refine ren_nmJ (ver := 0) (ty := 25) (sz := 1) (cells := [.nm (H.length + 1) 0 0 0]) (by omega) (by simp) (by simp) rfl rfl fun j c c' g1 g2 => ?_
    cases j with
    | succ j => simp at g1
    | zero =>
      simp at g1 g2
      subst g1; subst g2
      exact ren_nmJ (ver := 0) (ty := 22) (sz := 1) (cells := []) (by omega) (by simp) (by simp) rfl rfl fun j c c' g1 => by simp at g1
  refine SW.loopE (fun E0 H0 q E' X => ∃ j : Nat, j ≤ 11 ∧ q = 11 - j ∧ E' = aput (aput E0 5 (il3 (genN n 2 1 j))) 4 (.nm H.length 0 0 (gAll n 1 j).length) ∧ X = H ++ [⟨0, tyGr, 2, flatG (gAll n 1 j)⟩]) 11 ⟨0, by omega, by omega, rfl, rfl⟩ ?_
  rintro q E' X ⟨j, hj, rfl, rfl, rfl⟩
  obtain ⟨ga, go⟩ := genN_ok (v := n) (k := 2) (s := 1) h1 (by omega) j
  have gc := pack_count (by omega) (by omega) ga go
  have gs : genN n 2 1 (j + 1) = genS n 2 1 (genN n 2 1 j) := rfl
  have gn := gAll_succ n 1 j
  have gl := gAll_len (s := 1) h1 h5 j
  by_cases hz : genN n 2 1 j = []
  · have hend := gAll_end hz (11 - j)
    rw [show j + (11 - j) = 11 by omega] at hend
    rw [hz, hend]
    simp (config := { maxSteps := 1000000 }) (disch := (first | omega | (simp only [go_sem]; try omega))) only [go_sem, Nat.reduceAdd, Nat.reduceEqDiff, Nat.reduceLeDiff, Nat.reduceMul, Nat.reduceLT, reduceIte, Int.reduceToNat, w64_id, cast_succ]
    repeat (first | (with_reducible first | refine SW.seq ?_ | refine SW.block ?_ | refine SW.rowC ?_ | refine SW.skip ?_ | refine SW.exit ?_ | intro _ | refine And.intro (by omega) ?_) | simp (config := { maxSteps := 1000000 }) (disch := (first | omega | (simp only [go_sem]; try omega))) only [go_sem, Nat.reduceAdd, Nat.reduceEqDiff, Nat.reduceLeDiff, Nat.reduceMul, Nat.reduceLT, reduceIte, Int.reduceToNat, w64_id, cast_succ])
    refine SW.condF rfl ?_
    repeat (first | (with_reducible first | refine SW.seq ?_ | refine SW.block ?_ | refine SW.rowC ?_ | refine SW.skip ?_ | refine SW.exit ?_ | intro _ | refine And.intro (by omega) ?_) | simp (config := { maxSteps := 1000000 }) (disch := (first | omega | (simp only [go_sem]; try omega))) only [go_sem, Nat.reduceAdd, Nat.reduceEqDiff, Nat.reduceLeDiff, Nat.reduceMul, Nat.reduceLT, reduceIte, Int.reduceToNat, w64_id, cast_succ])
    refine SW.ret ?_; (try simp only [go_sem]); (first | refine FunPost.one ?_ | refine FunPost.two ?_ | refine FunPost.three ?_); (try simp (config := { maxSteps := 1000000 }) (disch := (first | omega | (simp only [go_sem]; try omega))) only [go_sem, Nat.reduceAdd, Nat.reduceEqDiff, Nat.reduceLeDiff, Nat.reduceMul, Nat.reduceLT, reduceIte, Int.reduceToNat, w64_id, cast_succ])
    exact GR.froz (froz_tup2 (froz_rowG (ver := 0) (ty := tyGr) (gs := gAll n 1 j) (Nat.le_refl _) (by simp) rfl) (froz_I' _)) ⟨rfl, rfl⟩
  · have hjs : j ≤ 10 := by
      by_cases h : j ≤ 10
      · exact h
      · exact absurd (genN_stop h1 h5 (by omega)) hz
    have hlp : 0 < (genN n 2 1 j).length := List.length_pos_iff.2 hz
    generalize genN n 2 1 j = L at *
    generalize gAll n 1 j = G at *
    have d1 : decide ((0 : Int) < (L.length : Int)) = true := decide_eq_true (by omega)
    simp (config := { maxSteps := 1000000 }) (disch := (first | omega | (simp only [go_sem]; try omega))) only [go_sem, Nat.reduceAdd, Nat.reduceEqDiff, Nat.reduceLeDiff, Nat.reduceMul, Nat.reduceLT, reduceIte, Int.reduceToNat, w64_id, cast_succ]
    repeat (first | (with_reducible first | refine SW.seq ?_ | refine SW.block ?_ | refine SW.rowC ?_ | refine SW.skip ?_ | refine SW.exit ?_ | intro _ | refine And.intro (by omega) ?_) | simp (config := { maxSteps := 1000000 }) (disch := (first | omega | (simp only [go_sem]; try omega))) only [go_sem, Nat.reduceAdd, Nat.reduceEqDiff, Nat.reduceLeDiff, Nat.reduceMul, Nat.reduceLT, reduceIte, Int.reduceToNat, w64_id, cast_succ, d1])
    refine SW.condT rfl ?_
    repeat (first | (with_reducible first | refine SW.seq ?_ | refine SW.block ?_ | refine SW.rowC ?_ | refine SW.skip ?_ | refine SW.exit ?_ | intro _ | refine And.intro (by omega) ?_) | simp (config := { maxSteps := 1000000 }) (disch := (first | omega | (simp only [go_sem]; try omega))) only [go_sem, Nat.reduceAdd, Nat.reduceEqDiff, Nat.reduceLeDiff, Nat.reduceMul, Nat.reduceLT, reduceIte, Int.reduceToNat, w64_id, cast_succ])
    refine SW.renK (js := [some H.length]) (H2 := [⟨0, tyGr, 2, flatG G⟩]) (E' := [(0, I n), (4, .nm H.length 0 0 G.length), (5, il3 L), (6, il3 []), (7, I 0)]) hB (Nat.le_refl _) (renOk_keep (Nat.le_refl _) (ver := 0) (cells := flatG G) (by simp) (by omega) (Nat.le_refl _) (fun i c c' h1 h2 => ren_flatG h1 h2))
      (.cons _ (ren_I _) (.cons _ (.nm 0 H.length 0 0 G.length ⟨0, tyGr, 2, flatG G⟩ rfl (by simp) rfl) (.cons _ (.old _ (by rw [Bel_il3]; trivial)) (.cons _ ?_ (.cons _ (ren_I _) .nil))))) ?_
    · exact ren_nmJ (ver := 0) (ty := 25) (sz := 1) (cells := []) (by omega) (by simp) (by simp) rfl rfl fun j c c' g1 => by simp at g1
    refine SW.loopE (fun E0 H0 q E' X => ∃ i : Nat, i ≤ L.length ∧ q = L.length - i ∧ E' = aput (aput (aput E0 7 (I i)) 6 (il3 (sortU cmpSS (growL n 2 1 (L.take i))))) 4 (.nm H.length 0 0 (G ++ (L.take i).map (gOf n)).length) ∧ X = H ++ [⟨0, tyGr, 2, flatG (G ++ (L.take i).map (gOf n))⟩]) L.length ⟨0, by omega, by omega, by simp [go_sem, growL, sortU], by simp⟩ ?_
    rintro q E' X ⟨i, hi, rfl, rfl, rfl⟩
    have hgl : (G ++ (L.take i).map (gOf n)).length ≤ 12 * 1048576 := by rw [List.length_append, List.length_map, List.length_take]; omega
    by_cases hiL : i < L.length
    · have d2 : decide ((i : Int) < (L.length : Int)) = true := decide_eq_true (by omega)
      have hts : G ++ (L.take (i + 1)).map (gOf n) = (G ++ (L.take i).map (gOf n)) ++ [gOf n (L.getD i [])] := by
        rw [List.take_add_one, List.getElem?_eq_getElem hiL, List.map_append, getD_get hiL, List.append_assoc]; rfl
      have hgr : growL n 2 1 (L.take (i + 1)) = growL n 2 1 (L.take i) ++ grow1 n 2 1 (L.getD i []) := by
        rw [List.take_add_one, List.getElem?_eq_getElem hiL, getD_get hiL]; exact growL_snoc _ _ _ _ _
      generalize hGi : G ++ (L.take i).map (gOf n) = Gi at *
      have hbs := go (L.getD i []) (by rw [getD_get hiL]; exact List.getElem_mem _)
      have hto := growL_ok (s := 1) (l := L.take i) h1 (by omega) (fun bs hb => go bs (List.mem_of_mem_take hb))
      have htl := growL_len (s := 1) (v := n) (k := 2) (by omega) (by omega) (L.take i)
      rw [List.length_take] at htl
      generalize growL n 2 1 (L.take i) = T at *
      generalize hbsn : L.getD i [] = bs at *
      simp (config := { maxSteps := 1000000 }) (disch := (first | omega | (simp only [go_sem]; try omega))) only [go_sem, Nat.reduceAdd, Nat.reduceEqDiff, Nat.reduceLeDiff, Nat.reduceMul, Nat.reduceLT, reduceIte, Int.reduceToNat, w64_id, cast_succ]
      repeat (first | (with_reducible first | refine SW.seq ?_ | refine SW.block ?_ | refine SW.rowC ?_ | refine SW.skip ?_ | refine SW.exit ?_ | intro _ | refine And.intro (by omega) ?_) | simp (config := { maxSteps := 1000000 }) (disch := (first | omega | (simp only [go_sem]; try omega))) only [go_sem, Nat.reduceAdd, Nat.reduceEqDiff, Nat.reduceLeDiff, Nat.reduceMul, Nat.reduceLT, reduceIte, Int.reduceToNat, w64_id, cast_succ, d2])
      refine SW.condT rfl ?_
      repeat (first | (with_reducible first | refine SW.seq ?_ | refine SW.block ?_ | refine SW.rowC ?_ | refine SW.skip ?_ | refine SW.exit ?_ | intro _ | refine And.intro (by omega) ?_) | simp (config := { maxSteps := 1000000 }) (disch := (first | omega | (simp only [go_sem]; try omega))) only [go_sem, Nat.reduceAdd, Nat.reduceEqDiff, Nat.reduceLeDiff, Nat.reduceMul, Nat.reduceLT, reduceIte, Int.reduceToNat, w64_id, cast_succ, hbsn])
      have hfl : ∀ k, (flatE (gEd (bs.take k))).length = (gEd (bs.take k)).length * 2 := fun k => flatE_length _
      have hbl : bs.length ≤ 10 := by
        have := hbs.1
        have := pack_len hbs
        have := ch5 n h5
        omega
      refine SW.loopE (fun E0 H0 q E' X => ∃ k : Nat, k ≤ bs.length ∧ q = bs.length - k ∧ E' = aput E0 9 (I k) ∧ X = H ++ [⟨0, tyGr, 2, flatG Gi⟩, ⟨0, 2, 1, (List.replicate n 0).map I⟩, ⟨k, tyE, 2, flatE (gEd (bs.take k))⟩, ⟨0, tyGr, 1, [.nm (H.length + 1) 0 0 n, .nm (H.length + 2) k 0 k]⟩]) bs.length ⟨0, by omega, by omega, rfl, rfl⟩ ?_
      rintro q E' X ⟨k, hk, rfl, rfl, rfl⟩
      have hel : (gEd (bs.take k)).length = k := by rw [gEd_len, List.length_take]; omega
      by_cases hkb : k < bs.length
      · have d3 : decide ((k : Int) < (bs.length : Int)) = true := decide_eq_true (by omega)
        obtain ⟨p, q, hpq⟩ : ∃ p q, bs.getD k [] = [p, q] := by
          have h2 := (hbs.2.2 (bs.getD k []) (by rw [getD_get hkb]; exact List.getElem_mem _)).1
          match bs.getD k [], h2 with
          | [p, q], _ => exact ⟨p, q, rfl⟩
        have hte : flatE (gEd (bs.take (k + 1))) = flatE (gEd (bs.take k)) ++ [I p, I q] := by
          have h2 := hpq
          rw [getD_get hkb] at h2
          rw [List.take_add_one, List.getElem?_eq_getElem hkb, h2]; simp [gEd, flatE]
        have hfk := hfl k
        rw [hel] at hfk
        have hbF : ∀ b, ∀ c ∈ flatE (gEd (bs.take k)), Bel b c := fun b => bel_flatE b _
        generalize flatE (gEd (bs.take k)) = F at *
        have htk : F.take (k * 2) = F := List.take_of_length_le (by omega)
        simp (config := { maxSteps := 1000000 }) (disch := (first | omega | (simp only [go_sem]; try omega))) only [go_sem, Nat.reduceAdd, Nat.reduceEqDiff, Nat.reduceLeDiff, Nat.reduceMul, Nat.reduceLT, reduceIte, Int.reduceToNat, w64_id, cast_succ]
        repeat (first | (with_reducible first | refine SW.seq ?_ | refine SW.block ?_ | refine SW.rowC ?_ | refine SW.skip ?_ | refine SW.exit ?_ | intro _ | refine And.intro (by omega) ?_) | simp (config := { maxSteps := 1000000 }) (disch := (first | omega | (simp only [go_sem]; try omega))) only [go_sem, Nat.reduceAdd, Nat.reduceEqDiff, Nat.reduceLeDiff, Nat.reduceMul, Nat.reduceLT, reduceIte, Int.reduceToNat, w64_id, cast_succ, hbsn, d3])
        refine SW.condT rfl ?_
        repeat (first | (with_reducible first | refine SW.seq ?_ | refine SW.block ?_ | refine SW.rowC ?_ | refine SW.skip ?_ | refine SW.exit ?_ | intro _ | refine And.intro (by omega) ?_) | simp (config := { maxSteps := 1000000 }) (disch := (first | omega | (simp only [go_sem]; try omega))) only [go_sem, Nat.reduceAdd, Nat.reduceEqDiff, Nat.reduceLeDiff, Nat.reduceMul, Nat.reduceLT, reduceIte, Int.reduceToNat, w64_id, cast_succ, hbsn, hpq, hfk, htk])
        change AppX tyE 2 16 _ _ _ (some (1, [I p, I q]))
        repeat (first | (with_reducible first | refine SW.seq ?_ | refine SW.block ?_ | refine SW.rowC ?_ | refine SW.skip ?_ | refine SW.exit ?_ | intro _ | refine And.intro (by omega) ?_) | simp (config := { maxSteps := 1000000 }) (disch := (first | omega | (simp only [go_sem]; try omega))) only [go_sem, Nat.reduceAdd, Nat.reduceEqDiff, Nat.reduceLeDiff, Nat.reduceMul, Nat.reduceLT, reduceIte, Int.reduceToNat, w64_id, cast_succ, hfk, htk])
        refine SLoop.nextT 4 (bs.length - (k + 1)) hB (by omega) (by omega) (by simp) ?_ ?_ ⟨k + 1, by omega, rfl, by simp [go_sem], by rw [hte]; simp⟩
        · (simp only [go_sem, Nat.reduceAdd, Nat.reduceEqDiff, reduceIte, go_sem, and_self, and_true, true_and, implies_true, List.take_succ_cons, List.take_zero, and_true, true_and]; try omega)
        · (simp only [go_sem, Nat.reduceAdd, Nat.reduceEqDiff, reduceIte, go_sem, and_self, and_true, true_and, implies_true, List.take_succ_cons, List.take_zero, and_true, true_and]; try omega)
          refine ⟨bel_flatG _ _, fun c hc => ?_, by omega, by omega⟩
          rcases List.mem_append.1 hc with h | h
          · exact hbF _ c h
          · simp at h
            rcases h with rfl | rfl <;> exact .lit _
      · have d3 : decide ((k : Int) < (bs.length : Int)) = false := decide_eq_false (by omega)
        have : k = bs.length := by omega
        subst this
        rw [List.take_length]
        simp (config := { maxSteps := 1000000 }) (disch := (first | omega | (simp only [go_sem]; try omega))) only [go_sem, Nat.reduceAdd, Nat.reduceEqDiff, Nat.reduceLeDiff, Nat.reduceMul, Nat.reduceLT, reduceIte, Int.reduceToNat, w64_id, cast_succ]
        repeat (first | (with_reducible first | refine SW.seq ?_ | refine SW.block ?_ | refine SW.rowC ?_ | refine SW.skip ?_ | refine SW.exit ?_ | intro _ | refine And.intro (by omega) ?_) | simp (config := { maxSteps := 1000000 }) (disch := (first | omega | (simp only [go_sem]; try omega))) only [go_sem, Nat.reduceAdd, Nat.reduceEqDiff, Nat.reduceLeDiff, Nat.reduceMul, Nat.reduceLT, reduceIte, Int.reduceToNat, w64_id, cast_succ, hbsn, d3])
        refine SW.condF rfl ?_
        repeat (first | (with_reducible first | refine SW.seq ?_ | refine SW.block ?_ | refine SW.rowC ?_ | refine SW.skip ?_ | refine SW.exit ?_ | intro _ | refine And.intro (by omega) ?_) | simp (config := { maxSteps := 1000000 }) (disch := (first | omega | (simp only [go_sem]; try omega))) only [go_sem, Nat.reduceAdd, Nat.reduceEqDiff, Nat.reduceLeDiff, Nat.reduceMul, Nat.reduceLT, reduceIte, Int.reduceToNat, w64_id, cast_succ])
        have hGl := flatG_len Gi
        have htG : (flatG Gi).take (Gi.length * 2) = flatG Gi := List.take_of_length_le (by omega)
        change AppX tyGr 2 48 _ _ _ (some (1, [AV.nm (H.length + 1) 0 0 n, AV.nm (H.length + 2) bs.length 0 bs.length]))
        generalize hFG : flatG Gi = FG at *
        repeat (first | (with_reducible first | refine SW.seq ?_ | refine SW.block ?_ | refine SW.rowC ?_ | refine SW.skip ?_ | refine SW.exit ?_ | intro _ | refine And.intro (by omega) ?_) | simp (config := { maxSteps := 1000000 }) (disch := (first | omega | (simp only [go_sem]; try omega))) only [go_sem, Nat.reduceAdd, Nat.reduceEqDiff, Nat.reduceLeDiff, Nat.reduceMul, Nat.reduceLT, reduceIte, Int.reduceToNat, w64_id, cast_succ, hGl, htG])
        have hcell : ∀ (x : Nat) (c c' : AV), (FG ++ [AV.nm (H.length + 1) 0 0 n, AV.nm (H.length + 2) bs.length 0 bs.length])[x]? = some c → (flatG (Gi ++ [gOf n bs]))[x]? = some c' → Ren (H ++ [(⟨1, tyGr, 2, FG ++ [AV.nm (H.length + 1) 0 0 n, AV.nm (H.length + 2) bs.length 0 bs.length]⟩ : Blk), ⟨0, 2, 1, (List.replicate n 0).map I⟩, ⟨bs.length, tyE, 2, flatE (gEd bs)⟩, ⟨0, tyGr, 1, [AV.nm (H.length + 1) 0 0 n, AV.nm (H.length + 2) bs.length 0 bs.length]⟩, ⟨0, tyGr, 2, [AV.nm (H.length + 1) 0 0 n, AV.nm (H.length + 2) bs.length 0 bs.length]⟩, ⟨0, 22, 1, []⟩]) H.length [some H.length] c c' := by
          intro x c c' g1 g2
          have hfa : flatG (Gi ++ [gOf n bs]) = FG ++ [ilS (List.replicate n 0), ilE (gEd bs)] := by rw [← hFG]; simp [flatG, gOf]
          rw [hfa] at g2
          by_cases hx : x < FG.length
          · rw [List.getElem?_append_left hx] at g1 g2
            rw [← hFG] at g1 g2
            exact ren_flatG g1 g2
          · rw [List.getElem?_append_right (by omega)] at g1 g2
            match hy : x - FG.length, g1, g2 with
            | 0, g1, g2 =>
              cases g1; cases g2
              exact ren_rowJ (ver := 0) (ty := 2) (by omega) (by simp) (by simp) (by simp)
            | 1, g1, g2 =>
              cases g1; cases g2
              exact ren_edgJ (ver := bs.length) (ty := tyE) (by omega) (by simp) (by simp) (gEd_len bs).symm
            | y + 2, g1, g2 =>
              simp at g1
        refine SW.renK (js := [some H.length]) (H2 := [⟨0, tyGr, 2, flatG (Gi ++ [gOf n bs])⟩]) (E' := [(0, I n), (4, .nm H.length 0 0 (Gi.length + 1)), (5, il3 L), (6, il3 (sortU cmpSS T)), (7, I i), (10, ilSS []), (73, Bv (decide ((1 : Int) < (n : Int))))]) hB (Nat.le_refl _) (renOk_keep (Nat.le_refl _) (ver := 1) (cells := FG ++ [AV.nm (H.length + 1) 0 0 n, AV.nm (H.length + 2) bs.length 0 bs.length]) (by simp) (by omega) (by rw [flatG_len]; simp; omega) hcell)
          (.cons _ (ren_I _) (.cons _ (.nm 0 H.length 1 0 (Gi.length + 1) ⟨1, tyGr, 2, _⟩ rfl (by simp; rfl) rfl) (.cons _ (.old _ (by rw [Bel_il3]; trivial)) (.cons _ (.old _ (by rw [Bel_il3]; trivial)) (.cons _ (ren_I _) (.cons _ ?_ (.cons _ (ren_B _) .nil))))))) ?_
        · exact ren_nmJ (ver := 0) (ty := 22) (sz := 1) (cells := []) (by omega) (by simp) (by simp) rfl rfl fun j c c' g1 => by simp at g1
        by_cases hn1 : 1 < n
        · have d4 : decide ((1 : Int) < (n : Int)) = true := decide_eq_true (by omega)
          rw [d4]
          refine SW.condT rfl ?_
          have hmr := l27More_fn n bs 2 1 (by omega) (fun b hb => asc_weak (by omega) (hbs.2.2 b hb).2) (by omega)
          have hXl := exts_len n 2 1 bs
          have hc5 := ch5 n h5
          have hg1 : grow1 n 2 1 bs = (exts n bs 2 1).map fun set => leastF (more bs set) (perms n) := rfl
          have hXm : ∀ set ∈ exts n bs 2 1, set.length = 2 ∧ asc 0 ((n : Int) - 1) set = true ∧ set ∉ bs := fun set h => exts_mem h
          change PFn _ _ _ (ilSS (exts n bs 2 1)) at hmr
          generalize exts n bs 2 1 = X at *
          repeat (first | (with_reducible first | refine SW.seq ?_ | refine SW.block ?_ | refine SW.rowC ?_ | refine SW.skip ?_ | refine SW.exit ?_ | refine PFn.use (hmr) ?_ | refine PFn.useq (hmr) ?_ | intro _ | refine And.intro (by omega) ?_) | simp (config := { maxSteps := 1000000 }) (disch := (first | omega | (simp only [go_sem]; try omega))) only [go_sem, Nat.reduceAdd, Nat.reduceEqDiff, Nat.reduceLeDiff, Nat.reduceMul, Nat.reduceLT, reduceIte, Int.reduceToNat, w64_id, cast_succ, hbsn])
          refine SW.loopE (fun E0 H0 q E' H3 => ∃ (pr po : List (List Int)), X = pr ++ po ∧ q = po.length ∧ E' = aput (aput E0 11 (I pr.length)) 6 (il3 (sortU cmpSS (T ++ pr.map fun set => leastF (more bs set) (perms n)))) ∧ H3 = H0) X.length ⟨[], X, rfl, rfl, by simp [go_sem], rfl⟩ ?_
          rintro q E' H3 ⟨pr, po, hp3, rfl, rfl, rfl⟩
          have hpl3 : pr.length ≤ 20 := by rw [hp3] at hXl; simp at hXl; omega
          have hG3o : ∀ z ∈ T ++ pr.map (fun set => leastF (more bs set) (perms n)), packOk n 2 (j + 1) z := by
            intro z hz
            rcases List.mem_append.1 hz with hz | hz
            · exact hto z hz
            · obtain ⟨set, hs, rfl⟩ := List.mem_map.1 hz
              obtain ⟨q1, q2, q3⟩ := hXm set (by rw [hp3]; simp [hs])
              exact leastP (more_ok hbs q1 q2 q3) h1 (by omega)
          have hG3l : (T ++ pr.map (fun set => leastF (more bs set) (perms n))).length ≤ 20 * 1048576 + 20 := by simp; omega
          have hs3 : ∀ set, sortU cmpSS (T ++ (pr ++ [set]).map (fun set => leastF (more bs set) (perms n))) = insU cmpSS (leastF (more bs set) (perms n)) (sortU cmpSS (T ++ pr.map (fun set => leastF (more bs set) (perms n)))) := fun set => by
            rw [← sortU_snoc]; simp
          have hfin : po = [] → T ++ pr.map (fun set => leastF (more bs set) (perms n)) = T ++ grow1 n 2 1 bs := fun h => by
            subst h; rw [List.append_nil] at hp3; rw [hg1, hp3]
          generalize hG3 : T ++ pr.map (fun set => leastF (more bs set) (perms n)) = G3 at *
          have hsl := sortU_len (cf := cmpSS) G3
          simp (config := { maxSteps := 1000000 }) (disch := (first | omega | (simp only [go_sem]; try omega))) only [go_sem, Nat.reduceAdd, Nat.reduceEqDiff, Nat.reduceLeDiff, Nat.reduceMul, Nat.reduceLT, reduceIte, Int.reduceToNat, w64_id, cast_succ]
          repeat (first | (with_reducible first | refine SW.seq ?_ | refine SW.block ?_ | refine SW.rowC ?_ | refine SW.skip ?_ | refine SW.exit ?_ | intro _ | refine And.intro (by omega) ?_) | simp (config := { maxSteps := 1000000 }) (disch := (first | omega | (simp only [go_sem]; try omega))) only [go_sem, Nat.reduceAdd, Nat.reduceEqDiff, Nat.reduceLeDiff, Nat.reduceMul, Nat.reduceLT, reduceIte, Int.reduceToNat, w64_id, cast_succ])
          (first | refine SW.condD rfl (fun h3 => ?_) (fun h3 => ?_) | refine SW.condN rfl (fun h3 => ?_) (fun h3 => ?_) | refine SW.condNB rfl (fun h3 => ?_) (fun h3 => ?_) | refine SW.condB rfl (fun h3 => ?_) (fun h3 => ?_))
          · obtain ⟨set, po, rfl, hgs, -⟩ := consOf (d := []) hp3 (by omega)
            obtain ⟨q1, q2, q3⟩ := hXm set (by rw [hp3]; simp)
            have hmk := more_ok hbs q1 q2 q3
            have hpl := l21PutList_fn bs set (by omega)
            rw [more_ins hbs set] at hpl
            have hle := l27Least_fn n (more bs set) (hmk.sys h1 (by omega)) (by have := hmk.1; omega)
            have hput := l27PutSystem_fn (sortU cmpSS G3) (leastF (more bs set) (perms n)) (by omega) (fun z hz => by
              rw [(hG3o z ((sortU_mem cmpSS_tot _ _).1 hz)).1, (leastP hmk h1 (by omega)).1])
            repeat (first | (with_reducible first | refine SW.seq ?_ | refine SW.block ?_ | refine SW.rowC ?_ | refine SW.skip ?_ | refine SW.exit ?_ | refine PFn.use (hpl) ?_ | refine PFn.useq (hpl) ?_ | refine PFn.use (hle) ?_ | refine PFn.useq (hle) ?_ | refine PFn.use (hput) ?_ | refine PFn.useq (hput) ?_ | intro _ | refine And.intro (by omega) ?_) | simp (config := { maxSteps := 1000000 }) (disch := (first | omega | (simp only [go_sem]; try omega))) only [go_sem, Nat.reduceAdd, Nat.reduceEqDiff, Nat.reduceLeDiff, Nat.reduceMul, Nat.reduceLT, reduceIte, Int.reduceToNat, w64_id, cast_succ, hbsn, hgs])
            refine SLoop.next po.length (by simp) ⟨pr ++ [set], po, by simp [hp3], rfl, ?_, rfl⟩
            rw [hs3]; simp [go_sem]
          · obtain ⟨rfl, rfl⟩ := nilOf hp3 (by omega)
            rw [hfin rfl]
            repeat (first | (with_reducible first | refine SW.seq ?_ | refine SW.block ?_ | refine SW.rowC ?_ | refine SW.skip ?_ | refine SW.exit ?_ | intro _ | refine And.intro (by omega) ?_) | simp (config := { maxSteps := 1000000 }) (disch := (first | omega | (simp only [go_sem]; try omega))) only [go_sem, Nat.reduceAdd, Nat.reduceEqDiff, Nat.reduceLeDiff, Nat.reduceMul, Nat.reduceLT, reduceIte, Int.reduceToNat, w64_id, cast_succ])
            have hl3 : G.length + (L.take (i + 1)).length = Gi.length + 1 := by
              have := congrArg List.length hts
              rw [List.length_append, List.length_map, List.length_append] at this
              exact this
            exact SLoop.next (L.length - (i + 1)) (by omega) ⟨i + 1, by omega, rfl, by rw [hgr, hl3]; simp [go_sem], by rw [hts]⟩
        · have d4 : decide ((1 : Int) < (n : Int)) = false := decide_eq_false (by omega)
          rw [d4]
          refine SW.condF rfl ?_
          have hg1 : grow1 n 2 1 bs = [] := by
            have : n = 1 := by omega
            subst this
            have h0 : subsN 1 2 = [] := rfl
            unfold grow1 exts
            rw [h0]; rfl
          rw [hg1, List.append_nil] at hgr
          repeat (first | (with_reducible first | refine SW.seq ?_ | refine SW.block ?_ | refine SW.rowC ?_ | refine SW.skip ?_ | refine SW.exit ?_ | intro _ | refine And.intro (by omega) ?_) | simp (config := { maxSteps := 1000000 }) (disch := (first | omega | (simp only [go_sem]; try omega))) only [go_sem, Nat.reduceAdd, Nat.reduceEqDiff, Nat.reduceLeDiff, Nat.reduceMul, Nat.reduceLT, reduceIte, Int.reduceToNat, w64_id, cast_succ])
          refine SW.loopE (fun E0 H0 q E' H3 => q = 0 ∧ E' = E0 ∧ H3 = H0) 0 ⟨rfl, rfl, rfl⟩ ?_
          rintro q E' H3 ⟨rfl, rfl, rfl⟩
          simp (config := { maxSteps := 1000000 }) (disch := (first | omega | (simp only [go_sem]; try omega))) only [go_sem, Nat.reduceAdd, Nat.reduceEqDiff, Nat.reduceLeDiff, Nat.reduceMul, Nat.reduceLT, reduceIte, Int.reduceToNat, w64_id, cast_succ]
          repeat (first | (with_reducible first | refine SW.seq ?_ | refine SW.block ?_ | refine SW.rowC ?_ | refine SW.skip ?_ | refine SW.exit ?_ | intro _ | refine And.intro (by omega) ?_) | simp (config := { maxSteps := 1000000 }) (disch := (first | omega | (simp only [go_sem]; try omega))) only [go_sem, Nat.reduceAdd, Nat.reduceEqDiff, Nat.reduceLeDiff, Nat.reduceMul, Nat.reduceLT, reduceIte, Int.reduceToNat, w64_id, cast_succ])
          refine SW.condF rfl ?_
          repeat (first | (with_reducible first | refine SW.seq ?_ | refine SW.block ?_ | refine SW.rowC ?_ | refine SW.skip ?_ | refine SW.exit ?_ | intro _ | refine And.intro (by omega) ?_) | simp (config := { maxSteps := 1000000 }) (disch := (first | omega | (simp only [go_sem]; try omega))) only [go_sem, Nat.reduceAdd, Nat.reduceEqDiff, Nat.reduceLeDiff, Nat.reduceMul, Nat.reduceLT, reduceIte, Int.reduceToNat, w64_id, cast_succ])
          have hl3 : G.length + (L.take (i + 1)).length = Gi.length + 1 := by
            have := congrArg List.length hts
            rw [List.length_append, List.length_map, List.length_append] at this
            exact this
          exact SLoop.next (L.length - (i + 1)) (by omega) ⟨i + 1, by omega, rfl, by rw [hgr, hl3]; simp [go_sem], by rw [hts]⟩
    · have d2 : decide ((i : Int) < (L.length : Int)) = false := decide_eq_false (by omega)
      have : i = L.length := by omega
      subst this
      rw [List.take_length, ← gn]
      simp (config := { maxSteps := 1000000 }) (disch := (first | omega | (simp only [go_sem]; try omega))) only [go_sem, Nat.reduceAdd, Nat.reduceEqDiff, Nat.reduceLeDiff, Nat.reduceMul, Nat.reduceLT, reduceIte, Int.reduceToNat, w64_id, cast_succ]
      repeat (first | (with_reducible first | refine SW.seq ?_ | refine SW.block ?_ | refine SW.rowC ?_ | refine SW.skip ?_ | refine SW.exit ?_ | intro _ | refine And.intro (by omega) ?_) | simp (config := { maxSteps := 1000000 }) (disch := (first | omega | (simp only [go_sem]; try omega))) only [go_sem, Nat.reduceAdd, Nat.reduceEqDiff, Nat.reduceLeDiff, Nat.reduceMul, Nat.reduceLT, reduceIte, Int.reduceToNat, w64_id, cast_succ, d2])
      refine SW.condF rfl ?_
      repeat (first | (with_reducible first | refine SW.seq ?_ | refine SW.block ?_ | refine SW.rowC ?_ | refine SW.skip ?_ | refine SW.exit ?_ | intro _ | refine And.intro (by omega) ?_) | simp (config := { maxSteps := 1000000 }) (disch := (first | omega | (simp only [go_sem]; try omega))) only [go_sem, Nat.reduceAdd, Nat.reduceEqDiff, Nat.reduceLeDiff, Nat.reduceMul, Nat.reduceLT, reduceIte, Int.reduceToNat, w64_id, cast_succ])
      exact SLoop.next (11 - (j + 1)) (by omega) ⟨j + 1, by omega, rfl, by rw [gs]; unfold genS; simp [go_sem], rfl⟩
end Go.Proofs.YtmdeibdplpodpaaGreat
namespace Go.Proofs.YtmdeibdplpodpaaGreat
open Go.Av
abbrev f_laws_FnExactGenerateGraphs : Nat := 4
def c_laws_FnExactGenerateGraphs : SC :=
 .seq (.reg [
     ⟨(some 2), .mv (.const (.bool false)), none⟩] [0])
 (.seq (.reg [
     ⟨(some 12), .mv (.tmp 0), none⟩,
     ⟨(some 13), .call 14 [(.tmp 12)], none⟩,
     ⟨(some 11), .mv (.tmp 13), none⟩,
     ⟨(some 14), .ext (.tmp 11) 0, none⟩,
     ⟨(some 15), .ext (.tmp 11) 1, none⟩,
     ⟨(some 3), .mv (.tmp 14), none⟩,
     ⟨(some 4), .mv (.tmp 15), none⟩] [0, 3, 4])
 (.seq (.reg [
     ⟨(some 17), .mv (.tmp 0), none⟩,
     ⟨(some 18), .call 15 [(.tmp 17)], none⟩,
     ⟨(some 16), .mv (.tmp 18), none⟩,
     ⟨(some 19), .ext (.tmp 16) 0, none⟩,
     ⟨(some 20), .ext (.tmp 16) 1, none⟩,
     ⟨(some 5), .mv (.tmp 19), none⟩,
     ⟨(some 6), .mv (.tmp 20), none⟩] [0, 3, 4, 5, 6])
 (.seq (.seq (.reg [
     ⟨(some 21), .mv (.tmp 5), none⟩,
     ⟨(some 22), .mv (.tmp 3), none⟩,
     ⟨(some 23), .call 16 [(.tmp 21), (.tmp 22)], none⟩,
     ⟨(some 24), .un .not (.tmp 23), none⟩,
     ⟨(some 25), .mv (.tmp 24), none⟩,
     ⟨(some 26), .mv (.tmp 6), (some (25, false))⟩,
     ⟨(some 27), .mv (.tmp 4), (some (25, false))⟩,
     ⟨(some 28), .bin .neq (.tmp 26) (.tmp 27), (some (25, false))⟩,
     ⟨(some 29), .pick (.tmp 25) (.const (.bool true)) (.tmp 28), none⟩] [0, 3, 4, 5, 29])
 (.cond (.tmp 29)
  (.seq (.reg [
      ⟨(some 2), .mv (.const (.bool false)), none⟩] [2])
  (.ret))
  (.skip)))
 (.seq (.reg [
     ⟨(some 7), .mv (.const (.int .i64 1)), none⟩] [0, 3, 4, 5, 7])
 (.seq (.reg [
     ⟨(some 30), .mv (.tmp 5), none⟩,
     ⟨(some 31), .mv (.tmp 7), none⟩,
     ⟨(some 32), .call 17 [(.tmp 30), (.tmp 31)], none⟩,
     ⟨(some 7), .mv (.tmp 32), none⟩] [0, 3, 4, 5, 7])
 (.seq (.reg [
     ⟨(some 8), .mv (.const (.int .i64 1)), none⟩] [0, 3, 4, 5, 7, 8])
 (.seq (.reg [
     ⟨(some 33), .mv (.tmp 5), none⟩,
     ⟨(some 34), .mv (.tmp 8), none⟩,
     ⟨(some 35), .call 18 [(.tmp 33), (.tmp 34)], none⟩,
     ⟨(some 8), .mv (.tmp 35), none⟩] [0, 3, 4, 5, 7, 8])
 (.seq (.seq (.reg [
     ⟨(some 36), .mv (.tmp 8), none⟩,
     ⟨(some 37), .bin .lss (.tmp 36) (.const (.int .i64 0)), none⟩] [0, 3, 4, 5, 7, 8, 37])
 (.cond (.tmp 37)
  (.seq (.reg [
      ⟨(some 2), .mv (.const (.bool false)), none⟩] [2])
  (.ret))
  (.skip)))
 (.seq (.seq (.reg [
     ⟨(some 38), .mv (.tmp 8), none⟩,
     ⟨(some 39), .mv (.tmp 7), none⟩,
     ⟨(some 40), .bin .neq (.tmp 38) (.tmp 39), none⟩] [0, 3, 4, 5, 7, 40])
 (.cond (.tmp 40)
  (.seq (.reg [
      ⟨(some 2), .mv (.const (.bool false)), none⟩] [2])
  (.ret))
  (.skip)))
 (.seq (.reg [
     ⟨(some 42), .mv (.tmp 0), none⟩,
     ⟨(some 43), .call 15 [(.tmp 42)], none⟩,
     ⟨(some 41), .mv (.tmp 43), none⟩,
     ⟨(some 44), .ext (.tmp 41) 0, none⟩,
     ⟨(some 45), .ext (.tmp 41) 1, none⟩,
     ⟨(some 9), .mv (.tmp 44), none⟩,
     ⟨(some 10), .mv (.tmp 45), none⟩] [3, 4, 5, 7, 9, 10])
 (.seq (.seq (.reg [
     ⟨(some 46), .mv (.tmp 9), none⟩,
     ⟨(some 47), .mv (.tmp 3), none⟩,
     ⟨(some 48), .call 16 [(.tmp 46), (.tmp 47)], none⟩,
     ⟨(some 49), .un .not (.tmp 48), none⟩,
     ⟨(some 50), .mv (.tmp 49), none⟩,
     ⟨(some 51), .mv (.tmp 10), (some (50, false))⟩,
     ⟨(some 52), .mv (.tmp 4), (some (50, false))⟩,
     ⟨(some 53), .bin .neq (.tmp 51) (.tmp 52), (some (50, false))⟩,
     ⟨(some 54), .pick (.tmp 50) (.const (.bool true)) (.tmp 53), none⟩] [5, 7, 54])
 (.cond (.tmp 54)
  (.seq (.reg [
      ⟨(some 2), .mv (.const (.bool false)), none⟩] [2])
  (.ret))
  (.skip)))
 (.seq (.reg [
     ⟨(some 8), .mv (.const (.int .i64 1)), none⟩] [5, 7, 8])
 (.seq (.reg [
     ⟨(some 55), .mv (.tmp 5), none⟩,
     ⟨(some 56), .mv (.tmp 8), none⟩,
     ⟨(some 57), .call 18 [(.tmp 55), (.tmp 56)], none⟩,
     ⟨(some 8), .mv (.tmp 57), none⟩] [7, 8])
 (.seq (.seq (.reg [
     ⟨(some 58), .mv (.tmp 8), none⟩,
     ⟨(some 59), .bin .lss (.tmp 58) (.const (.int .i64 0)), none⟩] [7, 8, 59])
 (.cond (.tmp 59)
  (.seq (.reg [
      ⟨(some 2), .mv (.const (.bool false)), none⟩] [2])
  (.ret))
  (.skip)))
 (.seq (.seq (.reg [
     ⟨(some 60), .mv (.tmp 8), none⟩,
     ⟨(some 61), .mv (.tmp 7), none⟩,
     ⟨(some 62), .bin .neq (.tmp 60) (.tmp 61), none⟩] [62])
 (.cond (.tmp 62)
  (.seq (.reg [
      ⟨(some 2), .mv (.const (.bool false)), none⟩] [2])
  (.ret))
  (.skip)))
 (.seq (.reg [
     ⟨(some 2), .mv (.const (.bool true)), none⟩] [2])
 (.ret)))))))))))))))))
theorem s_laws_FnExactGenerateGraphs : stripF Tryz.prog 4 [[0], [0, 3, 4], [0, 3, 4, 5, 6], [0, 3, 4, 5, 29], [2], [0, 3, 4, 5, 7], [0, 3, 4, 5, 7], [0, 3, 4, 5, 7, 8], [0, 3, 4, 5, 7, 8], [0, 3, 4, 5, 7, 8, 37], [2], [0, 3, 4, 5, 7, 40], [2], [3, 4, 5, 7, 9, 10], [5, 7, 54], [2], [5, 7, 8], [7, 8], [7, 8, 59], [2], [62], [2], [2]] = some (c_laws_FnExactGenerateGraphs, [.tmp 2], 63) := by kernel_rfl
theorem OwnG.rd {H : List Blk} {N : Nat → Prop} {v : AV} {gs : List Gr} (h : OwnG H N v gs) : ∃ cells, RdG H v cells gs := by
  rcases h with ⟨t, ver, ty, cells, M, rfl, h⟩ | ⟨rfl, rfl⟩
  · exact ⟨cells, h.rd⟩
  · exact ⟨[], rfl, rfl, fun j hj => by simp at hj⟩
theorem OwnG.one {H : List Blk} {N : Nat → Prop} {v : AV} {gs : List Gr} (h : OwnG H N v gs) : v.cell1 = true ∧ partsOf v = [v] := by
  rcases h with ⟨t, ver, ty, cells, M, rfl, h⟩ | ⟨rfl, rfl⟩ <;> exact ⟨rfl, rfl⟩
theorem OwnG.same {H H' : List Blk} {N : Nat → Prop} {v : AV} {gs : List Gr} (h : OwnG H N v gs) (hs : ∀ j b, N j → H[j]? = some b → H'[j]? = some b) : OwnG H' N v gs := by
  rcases h with ⟨t, ver, ty, cells, M, rfl, h⟩ | h
  · exact .inl ⟨t, ver, ty, cells, M, rfl, h.same hs⟩
  · exact .inr h
theorem markG_ok (H : List Blk) (N : Nat → Prop) (v : AV) (gs : List Gr) (k : Int) (ho : OwnG H N v gs) (hk0 : 0 ≤ k) (hk : k + sizeG gs ≤ 4000000000000) (hg : okG gs) (hl : gs.length ≤ 1000000000) :
    ACalls Tryz.prog f_laws_markGraphS [v, I k] H (fun r H' => r = I (k + sizeG gs) ∧ OwnG H' N v (numG k gs) ∧ H'.length = H.length ∧ ∀ j, ¬ N j → H'[j]? = H[j]?) := by
  rcases ho with ⟨t, ver, ty, cells, M, rfl, h⟩ | ⟨rfl, rfl⟩
  · refine (markGraphS_ok H N M t ver ty cells gs k h hk0 hk hg hl).mono ?_
    rintro r H' ⟨rfl, h2, h3, h4⟩
    exact ⟨rfl, .inl ⟨t, ver, ty, cells, M, by rw [numG_len], h2⟩, h3, h4⟩
  · refine ACalls.introB s_laws_markGraphS (by simp) ?_; intro hB hA; unfold c_laws_markGraphS; simp (config := { maxSteps := 1000000 }) (disch := (first | omega | (simp only [go_sem]; try omega))) only [go_sem, Nat.reduceAdd, Nat.reduceEqDiff, Nat.reduceLeDiff, Nat.reduceMul, Nat.reduceLT, reduceIte, Int.reduceToNat, w64_id, cast_succ]
    repeat (first | (with_reducible first | refine SW.seq ?_ | refine SW.block ?_ | refine SW.rowC ?_ | refine SW.skip ?_ | refine SW.exit ?_ | intro _ | refine And.intro (by omega) ?_) | simp (config := { maxSteps := 1000000 }) (disch := (first | omega | (simp only [go_sem]; try omega))) only [go_sem, Nat.reduceAdd, Nat.reduceEqDiff, Nat.reduceLeDiff, Nat.reduceMul, Nat.reduceLT, reduceIte, Int.reduceToNat, w64_id, cast_succ])
    refine SW.loopE (fun E0 H0 q E' X => q = 0 ∧ E' = E0 ∧ X = H0) 0 ⟨rfl, rfl, rfl⟩ ?_
    rintro q E' X ⟨rfl, rfl, rfl⟩
    simp (config := { maxSteps := 1000000 }) (disch := (first | omega | (simp only [go_sem]; try omega))) only [go_sem, Nat.reduceAdd, Nat.reduceEqDiff, Nat.reduceLeDiff, Nat.reduceMul, Nat.reduceLT, reduceIte, Int.reduceToNat, w64_id, cast_succ]
    repeat (first | (with_reducible first | refine SW.seq ?_ | refine SW.block ?_ | refine SW.rowC ?_ | refine SW.skip ?_ | refine SW.exit ?_ | intro _ | refine And.intro (by omega) ?_) | simp (config := { maxSteps := 1000000 }) (disch := (first | omega | (simp only [go_sem]; try omega))) only [go_sem, Nat.reduceAdd, Nat.reduceEqDiff, Nat.reduceLeDiff, Nat.reduceMul, Nat.reduceLT, reduceIte, Int.reduceToNat, w64_id, cast_succ])
    refine SW.condF rfl ?_
    repeat (first | (with_reducible first | refine SW.seq ?_ | refine SW.block ?_ | refine SW.rowC ?_ | refine SW.skip ?_ | refine SW.exit ?_ | intro _ | refine And.intro (by omega) ?_) | simp (config := { maxSteps := 1000000 }) (disch := (first | omega | (simp only [go_sem]; try omega))) only [go_sem, Nat.reduceAdd, Nat.reduceEqDiff, Nat.reduceLeDiff, Nat.reduceMul, Nat.reduceLT, reduceIte, Int.reduceToNat, w64_id, cast_succ])
    refine SW.ret ?_; (try simp only [go_sem]); (first | refine FunPost.one ?_ | refine FunPost.two ?_ | refine FunPost.three ?_); (try simp (config := { maxSteps := 1000000 }) (disch := (first | omega | (simp only [go_sem]; try omega))) only [go_sem, Nat.reduceAdd, Nat.reduceEqDiff, Nat.reduceLeDiff, Nat.reduceMul, Nat.reduceLT, reduceIte, Int.reduceToNat, w64_id, cast_succ])
    exact GR.of ⟨by simp [sizeG], .inr ⟨rfl, rfl⟩, rfl, fun _ _ => rfl⟩
theorem lawGenGr_ok (H : List Blk) (n : Int) : ACalls Tryz.prog f_laws_FnExactGenerateGraphs [I n] H (fun r _ => r = Bv true) := by
  have hs := specGenGr_fn n
  have hi := implGenGr_ok n
  obtain ⟨hok, hlen, hsz⟩ := ggV_ok n
  generalize ggV n = gs at *
  generalize ggC n = code at *
  refine ACalls.introB s_laws_FnExactGenerateGraphs (by simp) ?_; intro hB hA; unfold c_laws_FnExactGenerateGraphs; simp (config := { maxSteps := 1000000 }) (disch := (first | omega | (simp only [go_sem]; try omega))) only [go_sem, Nat.reduceAdd, Nat.reduceEqDiff, Nat.reduceLeDiff, Nat.reduceMul, Nat.reduceLT, reduceIte, Int.reduceToNat, w64_id, cast_succ]
  repeat (first | (with_reducible first | refine SW.seq ?_ | refine SW.block ?_ | refine SW.rowC ?_ | refine SW.skip ?_ | refine SW.exit ?_ | refine PFn.use (hs) ?_ | refine PFn.useq (hs) ?_ | intro _ | refine And.intro (by omega) ?_) | simp (config := { maxSteps := 1000000 }) (disch := (first | omega | (simp only [go_sem]; try omega))) only [go_sem, Nat.reduceAdd, Nat.reduceEqDiff, Nat.reduceLeDiff, Nat.reduceMul, Nat.reduceLT, reduceIte, Int.reduceToNat, w64_id, cast_succ])
  refine (hi _).mono ?_
  rintro r H1 ⟨ext, v, rfl, rfl, og⟩
  obtain ⟨cs, hr⟩ := og.rd
  repeat (first | (with_reducible first | refine SW.seq ?_ | refine SW.block ?_ | refine SW.rowC ?_ | refine SW.skip ?_ | refine SW.exit ?_ | intro _ | refine And.intro (by omega) ?_) | simp (config := { maxSteps := 1000000 }) (disch := (first | omega | (simp only [go_sem]; try omega))) only [go_sem, Nat.reduceAdd, Nat.reduceEqDiff, Nat.reduceLeDiff, Nat.reduceMul, Nat.reduceLT, reduceIte, Int.reduceToNat, w64_id, cast_succ, og.one.1, og.one.2])
  refine ACalls.fn (eqGraphS_ok _ v (ilG gs) cs (flatG gs) gs hr (rd_ilG _ _) hok (by omega)) ?_
  repeat (first | (with_reducible first | refine SW.seq ?_ | refine SW.block ?_ | refine SW.rowC ?_ | refine SW.skip ?_ | refine SW.exit ?_ | intro _ | refine And.intro (by omega) ?_) | simp (config := { maxSteps := 1000000 }) (disch := (first | omega | (simp only [go_sem]; try omega))) only [go_sem, Nat.reduceAdd, Nat.reduceEqDiff, Nat.reduceLeDiff, Nat.reduceMul, Nat.reduceLT, reduceIte, Int.reduceToNat, w64_id, cast_succ])
  refine SW.condF rfl ?_
  repeat (first | (with_reducible first | refine SW.seq ?_ | refine SW.block ?_ | refine SW.rowC ?_ | refine SW.skip ?_ | refine SW.exit ?_ | intro _ | refine And.intro (by omega) ?_) | simp (config := { maxSteps := 1000000 }) (disch := (first | omega | (simp only [go_sem]; try omega))) only [go_sem, Nat.reduceAdd, Nat.reduceEqDiff, Nat.reduceLeDiff, Nat.reduceMul, Nat.reduceLT, reduceIte, Int.reduceToNat, w64_id, cast_succ])
  refine (markG_ok _ _ v gs 1 og (by omega) (by omega) hok (by omega)).mono ?_
  rintro r H2 ⟨rfl, og2, hl2, hf2⟩
  obtain ⟨cs2, hr2⟩ := og2.rd
  have hneg : decide ((1 : Int) + sizeG gs < 0) = false := decide_eq_false (by omega)
  repeat (first | (with_reducible first | refine SW.seq ?_ | refine SW.block ?_ | refine SW.rowC ?_ | refine SW.skip ?_ | refine SW.exit ?_ | intro _ | refine And.intro (by omega) ?_) | simp (config := { maxSteps := 1000000 }) (disch := (first | omega | (simp only [go_sem]; try omega))) only [go_sem, Nat.reduceAdd, Nat.reduceEqDiff, Nat.reduceLeDiff, Nat.reduceMul, Nat.reduceLT, reduceIte, Int.reduceToNat, w64_id, cast_succ, og2.one.1, og2.one.2])
  refine ACalls.fn (heldGraphS_ok _ v cs2 gs 1 hr2 (by omega) (by omega) hok (by omega)) ?_
  repeat (first | (with_reducible first | refine SW.seq ?_ | refine SW.block ?_ | refine SW.rowC ?_ | refine SW.skip ?_ | refine SW.exit ?_ | intro _ | refine And.intro (by omega) ?_) | simp (config := { maxSteps := 1000000 }) (disch := (first | omega | (simp only [go_sem]; try omega))) only [go_sem, Nat.reduceAdd, Nat.reduceEqDiff, Nat.reduceLeDiff, Nat.reduceMul, Nat.reduceLT, reduceIte, Int.reduceToNat, w64_id, cast_succ, hneg])
  refine SW.condF rfl ?_
  repeat (first | (with_reducible first | refine SW.seq ?_ | refine SW.block ?_ | refine SW.rowC ?_ | refine SW.skip ?_ | refine SW.exit ?_ | intro _ | refine And.intro (by omega) ?_) | simp (config := { maxSteps := 1000000 }) (disch := (first | omega | (simp only [go_sem]; try omega))) only [go_sem, Nat.reduceAdd, Nat.reduceEqDiff, Nat.reduceLeDiff, Nat.reduceMul, Nat.reduceLT, reduceIte, Int.reduceToNat, w64_id, cast_succ])
  refine SW.condF rfl ?_
  repeat (first | (with_reducible first | refine SW.seq ?_ | refine SW.block ?_ | refine SW.rowC ?_ | refine SW.skip ?_ | refine SW.exit ?_ | intro _ | refine And.intro (by omega) ?_) | simp (config := { maxSteps := 1000000 }) (disch := (first | omega | (simp only [go_sem]; try omega))) only [go_sem, Nat.reduceAdd, Nat.reduceEqDiff, Nat.reduceLeDiff, Nat.reduceMul, Nat.reduceLT, reduceIte, Int.reduceToNat, w64_id, cast_succ])
  refine (hi _).mono ?_
  rintro r H3 ⟨ext3, w, rfl, rfl, ow⟩
  obtain ⟨cs3, hr3⟩ := ow.rd
  obtain ⟨cs4, hr4⟩ := (og2.same (H' := H2 ++ ext3) (fun j b _ hb => get_appB2 hb _)).rd
  repeat (first | (with_reducible first | refine SW.seq ?_ | refine SW.block ?_ | refine SW.rowC ?_ | refine SW.skip ?_ | refine SW.exit ?_ | intro _ | refine And.intro (by omega) ?_) | simp (config := { maxSteps := 1000000 }) (disch := (first | omega | (simp only [go_sem]; try omega))) only [go_sem, Nat.reduceAdd, Nat.reduceEqDiff, Nat.reduceLeDiff, Nat.reduceMul, Nat.reduceLT, reduceIte, Int.reduceToNat, w64_id, cast_succ, ow.one.1, ow.one.2])
  refine ACalls.fn (eqGraphS_ok _ w (ilG gs) cs3 (flatG gs) gs hr3 (rd_ilG _ _) hok (by omega)) ?_
  repeat (first | (with_reducible first | refine SW.seq ?_ | refine SW.block ?_ | refine SW.rowC ?_ | refine SW.skip ?_ | refine SW.exit ?_ | intro _ | refine And.intro (by omega) ?_) | simp (config := { maxSteps := 1000000 }) (disch := (first | omega | (simp only [go_sem]; try omega))) only [go_sem, Nat.reduceAdd, Nat.reduceEqDiff, Nat.reduceLeDiff, Nat.reduceMul, Nat.reduceLT, reduceIte, Int.reduceToNat, w64_id, cast_succ])
  refine SW.condF rfl ?_
  repeat (first | (with_reducible first | refine SW.seq ?_ | refine SW.block ?_ | refine SW.rowC ?_ | refine SW.skip ?_ | refine SW.exit ?_ | intro _ | refine And.intro (by omega) ?_) | simp (config := { maxSteps := 1000000 }) (disch := (first | omega | (simp only [go_sem]; try omega))) only [go_sem, Nat.reduceAdd, Nat.reduceEqDiff, Nat.reduceLeDiff, Nat.reduceMul, Nat.reduceLT, reduceIte, Int.reduceToNat, w64_id, cast_succ, og2.one.1, og2.one.2])
  refine ACalls.fn (heldGraphS_ok _ v cs4 gs 1 hr4 (by omega) (by omega) hok (by omega)) ?_
  repeat (first | (with_reducible first | refine SW.seq ?_ | refine SW.block ?_ | refine SW.rowC ?_ | refine SW.skip ?_ | refine SW.exit ?_ | intro _ | refine And.intro (by omega) ?_) | simp (config := { maxSteps := 1000000 }) (disch := (first | omega | (simp only [go_sem]; try omega))) only [go_sem, Nat.reduceAdd, Nat.reduceEqDiff, Nat.reduceLeDiff, Nat.reduceMul, Nat.reduceLT, reduceIte, Int.reduceToNat, w64_id, cast_succ, hneg])
  refine SW.condF rfl ?_
  repeat (first | (with_reducible first | refine SW.seq ?_ | refine SW.block ?_ | refine SW.rowC ?_ | refine SW.skip ?_ | refine SW.exit ?_ | intro _ | refine And.intro (by omega) ?_) | simp (config := { maxSteps := 1000000 }) (disch := (first | omega | (simp only [go_sem]; try omega))) only [go_sem, Nat.reduceAdd, Nat.reduceEqDiff, Nat.reduceLeDiff, Nat.reduceMul, Nat.reduceLT, reduceIte, Int.reduceToNat, w64_id, cast_succ])
  refine SW.condF rfl ?_
  repeat (first | (with_reducible first | refine SW.seq ?_ | refine SW.block ?_ | refine SW.rowC ?_ | refine SW.skip ?_ | refine SW.exit ?_ | intro _ | refine And.intro (by omega) ?_) | simp (config := { maxSteps := 1000000 }) (disch := (first | omega | (simp only [go_sem]; try omega))) only [go_sem, Nat.reduceAdd, Nat.reduceEqDiff, Nat.reduceLeDiff, Nat.reduceMul, Nat.reduceLT, reduceIte, Int.reduceToNat, w64_id, cast_succ])
  refine SW.ret ?_; (try simp only [go_sem]); (first | refine FunPost.one ?_ | refine FunPost.two ?_ | refine FunPost.three ?_); (try simp (config := { maxSteps := 1000000 }) (disch := (first | omega | (simp only [go_sem]; try omega))) only [go_sem, Nat.reduceAdd, Nat.reduceEqDiff, Nat.reduceLeDiff, Nat.reduceMul, Nat.reduceLT, reduceIte, Int.reduceToNat, w64_id, cast_succ])
  exact GR.of rfl
end Go.Proofs.YtmdeibdplpodpaaGreat
