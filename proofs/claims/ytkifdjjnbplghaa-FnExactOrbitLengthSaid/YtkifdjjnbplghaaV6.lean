/- Groups of permutations: the closure in the reference. -/
import Derived.Test.YtkifdjjnbplghaaProg
import Derived.KernelRfl
import Derived.Test.YtkifdjjnbplghaaV5
set_option linter.unusedSimpArgs false
set_option linter.unusedVariables false
set_option maxHeartbeats 4000000
set_option maxRecDepth 100000
namespace Go.Proofs.Ytkifdjjnbplghaa
open Go.Av

/-! The abstract code of functions, printed by program and tied to the program by the kernel. -/
/-- loop.example/g00920/spec.l05Close -/
abbrev f_spec_l05Close : Nat := 68
def c_spec_l05Close : SC :=
 .seq (.reg [
     ⟨(some 6), .mv (.const (.slice none 0 0)), none⟩,
     ⟨(some 7), .mv (.const (.bool false)), none⟩] [0, 1, 2])
 (.seq (.reg [
     ⟨(some 16), .mv (.tmp 0), none⟩,
     ⟨(some 17), .call 65 [(.tmp 16)], none⟩,
     ⟨(some 8), .mv (.tmp 17), none⟩] [1, 2, 8])
 (.seq (.reg [
     ⟨(some 18), .mv (.tmp 8), none⟩,
     ⟨(some 19), .bslice 25 1 1 [(.slice none 0 0)] [(0, (.tmp 18))], none⟩,
     ⟨(some 9), .mv (.tmp 19), none⟩] [1, 2, 8, 9])
 (.seq (.reg [
     ⟨(some 20), .mv (.tmp 8), none⟩,
     ⟨(some 21), .bslice 25 1 1 [(.slice none 0 0)] [(0, (.tmp 20))], none⟩,
     ⟨(some 10), .mv (.tmp 21), none⟩] [1, 2, 9, 10])
 (.seq (.seq (.reg [
     ⟨(some 11), .mv (.const (.int .i64 0)), none⟩] [1, 2, 9, 10, 11])
 (.block 0 (.loop [1, 2, 9, 10, 11]
   (.seq (.seq (.reg [
       ⟨(some 22), .mv (.tmp 11), none⟩,
       ⟨(some 23), .mv (.tmp 10), none⟩,
       ⟨(some 24), .len (.tmp 23), none⟩,
       ⟨(some 25), .bin .lss (.tmp 22) (.tmp 24), none⟩] [1, 2, 9, 10, 11, 25])
   (.cond (.tmp 25)
    (.skip)
    (.exit 0)))
   (.seq (.block 1 (.seq (.reg [
        ⟨(some 12), .mv (.const (.int .i64 0)), none⟩] [1, 2, 9, 10, 11, 12])
    (.block 2 (.loop [1, 2, 9, 10, 11, 12]
      (.seq (.seq (.reg [
          ⟨(some 28), .mv (.tmp 12), none⟩,
          ⟨(some 29), .mv (.tmp 1), none⟩,
          ⟨(some 30), .len (.tmp 29), none⟩,
          ⟨(some 31), .bin .lss (.tmp 28) (.tmp 30), none⟩] [1, 2, 9, 10, 11, 12, 31])
      (.cond (.tmp 31)
       (.skip)
       (.exit 2)))
      (.seq (.block 3 (.seq (.reg [
           ⟨(some 34), .mv (.tmp 10), none⟩,
           ⟨(some 35), .mv (.tmp 11), none⟩,
           ⟨(some 36), .iaddr 1 (.tmp 34) (.tmp 35), none⟩,
           ⟨(some 37), .load 1 false (.tmp 36), none⟩,
           ⟨(some 38), .mv (.tmp 1), none⟩,
           ⟨(some 39), .mv (.tmp 12), none⟩,
           ⟨(some 40), .iaddr 1 (.tmp 38) (.tmp 39), none⟩,
           ⟨(some 41), .load 1 false (.tmp 40), none⟩,
           ⟨(some 42), .qcall 83 [(.tmp 37), (.tmp 41)], none⟩,
           ⟨(some 13), .mv (.tmp 42), none⟩] [1, 2, 9, 10, 11, 12, 13])
       (.seq (.reg [
           ⟨(some 44), .mv (.tmp 9), none⟩,
           ⟨(some 45), .mv (.tmp 13), none⟩,
           ⟨(some 46), .call 69 [(.tmp 44), (.tmp 45)], none⟩,
           ⟨(some 43), .mv (.tmp 46), none⟩,
           ⟨(some 47), .ext (.tmp 43) 0, none⟩,
           ⟨(some 48), .ext (.tmp 43) 1, none⟩,
           ⟨(some 14), .mv (.tmp 47), none⟩,
           ⟨(some 15), .mv (.tmp 48), none⟩] [1, 2, 9, 10, 11, 12, 13, 14, 15])
       (.seq (.seq (.reg [
           ⟨(some 49), .mv (.tmp 15), none⟩] [1, 2, 9, 10, 11, 12, 13, 14, 49])
       (.cond (.tmp 49)
        (.exit 3)
        (.skip)))
       (.seq (.seq (.reg [
           ⟨(some 50), .mv (.tmp 9), none⟩,
           ⟨(some 51), .len (.tmp 50), none⟩,
           ⟨(some 52), .mv (.tmp 2), none⟩,
           ⟨(some 53), .bin .eql (.tmp 51) (.tmp 52), none⟩] [1, 2, 9, 10, 11, 12, 13, 14, 53])
       (.cond (.tmp 53)
        (.seq (.reg [
            ⟨(some 6), .mv (.const (.slice none 0 0)), none⟩,
            ⟨(some 7), .mv (.const (.bool false)), none⟩] [6, 7])
        (.ret))
        (.skip)))
       (.seq (.reg [
           ⟨(some 54), .mv (.tmp 9), none⟩,
           ⟨(some 55), .mv (.tmp 14), none⟩,
           ⟨(some 56), .mv (.tmp 13), none⟩,
           ⟨(some 57), .call 84 [(.tmp 54), (.tmp 55), (.tmp 56)], none⟩,
           ⟨(some 9), .mv (.tmp 57), none⟩] [1, 2, 9, 10, 11, 12, 13])
       (.reg [
           ⟨(some 58), .mv (.tmp 10), none⟩,
           ⟨(some 59), .mv (.tmp 13), none⟩,
           ⟨(some 60), .bslice 25 1 1 [(.slice none 0 0)] [(0, (.tmp 59))], none⟩,
           ⟨(some 61), .app 25 1 24 (.tmp 58) (.tmp 60), none⟩,
           ⟨(some 10), .mv (.tmp 61), none⟩] [1, 2, 9, 10, 11, 12])))))))
      (.reg [
          ⟨(some 32), .mv (.tmp 12), none⟩,
          ⟨(some 33), .bin .add (.tmp 32) (.const (.int .i64 1)), none⟩,
          ⟨(some 12), .mv (.tmp 33), none⟩] [1, 2, 9, 10, 11, 12])))))))
   (.reg [
       ⟨(some 26), .mv (.tmp 11), none⟩,
       ⟨(some 27), .bin .add (.tmp 26) (.const (.int .i64 1)), none⟩,
       ⟨(some 11), .mv (.tmp 27), none⟩] [1, 2, 9, 10, 11]))))))
 (.seq (.reg [
     ⟨(some 62), .mv (.tmp 9), none⟩,
     ⟨(some 6), .mv (.tmp 62), none⟩,
     ⟨(some 7), .mv (.const (.bool true)), none⟩] [6, 7])
 (.ret))))))
theorem s_spec_l05Close : stripF Try.prog 68 [[0, 1, 2], [1, 2, 8], [1, 2, 8, 9], [1, 2, 9, 10], [1, 2, 9, 10, 11], [1, 2, 9, 10, 11], [1, 2, 9, 10, 11, 25], [1, 2, 9, 10, 11, 12], [1, 2, 9, 10, 11, 12], [1, 2, 9, 10, 11, 12, 31], [1, 2, 9, 10, 11, 12, 13], [1, 2, 9, 10, 11, 12, 13, 14, 15], [1, 2, 9, 10, 11, 12, 13, 14, 49], [1, 2, 9, 10, 11, 12, 13, 14, 53], [6, 7], [1, 2, 9, 10, 11, 12, 13], [1, 2, 9, 10, 11, 12], [1, 2, 9, 10, 11, 12], [1, 2, 9, 10, 11], [6, 7]] = some (c_spec_l05Close, [.tmp 6, .tmp 7], 63) := by kernel_rfl

/-- loop.example/g00920/spec.l05Find -/
abbrev f_spec_l05Find : Nat := 69
def c_spec_l05Find : SC :=
 .seq (.reg [
     ⟨(some 4), .mv (.const (.int .i64 0)), none⟩,
     ⟨(some 5), .mv (.const (.bool false)), none⟩] [0, 1])
 (.seq (.reg [
     ⟨(some 6), .mv (.const (.int .i64 0)), none⟩] [0, 1, 6])
 (.seq (.reg [
     ⟨(some 10), .mv (.tmp 0), none⟩,
     ⟨(some 11), .len (.tmp 10), none⟩,
     ⟨(some 7), .mv (.tmp 11), none⟩] [0, 1, 6, 7])
 (.seq (.block 0 (.loop [0, 1, 6, 7]
   (.seq (.seq (.reg [
       ⟨(some 12), .mv (.tmp 6), none⟩,
       ⟨(some 13), .mv (.tmp 7), none⟩,
       ⟨(some 14), .bin .lss (.tmp 12) (.tmp 13), none⟩] [0, 1, 6, 7, 14])
   (.cond (.tmp 14)
    (.skip)
    (.exit 0)))
   (.block 1 (.seq (.reg [
        ⟨(some 15), .mv (.tmp 6), none⟩,
        ⟨(some 16), .mv (.tmp 7), none⟩,
        ⟨(some 17), .bin .add (.tmp 15) (.tmp 16), none⟩,
        ⟨(some 18), .bin .quo (.tmp 17) (.const (.int .i64 2)), none⟩,
        ⟨(some 8), .mv (.tmp 18), none⟩] [0, 1, 6, 7, 8])
    (.seq (.reg [
        ⟨(some 19), .mv (.tmp 0), none⟩,
        ⟨(some 20), .mv (.tmp 8), none⟩,
        ⟨(some 21), .iaddr 1 (.tmp 19) (.tmp 20), none⟩,
        ⟨(some 22), .load 1 false (.tmp 21), none⟩,
        ⟨(some 23), .mv (.tmp 1), none⟩,
        ⟨(some 24), .call 47 [(.tmp 22), (.tmp 23)], none⟩,
        ⟨(some 9), .mv (.tmp 24), none⟩] [0, 1, 6, 7, 8, 9])
    (.seq (.seq (.reg [
        ⟨(some 25), .mv (.tmp 9), none⟩,
        ⟨(some 26), .bin .eql (.tmp 25) (.const (.int .i64 0)), none⟩] [0, 1, 6, 7, 8, 9, 26])
    (.cond (.tmp 26)
     (.seq (.reg [
         ⟨(some 27), .mv (.tmp 8), none⟩,
         ⟨(some 4), .mv (.tmp 27), none⟩,
         ⟨(some 5), .mv (.const (.bool true)), none⟩] [4, 5])
     (.ret))
     (.skip)))
    (.seq (.reg [
        ⟨(some 28), .mv (.tmp 9), none⟩,
        ⟨(some 29), .bin .lss (.tmp 28) (.const (.int .i64 0)), none⟩] [0, 1, 6, 7, 8, 29])
    (.cond (.tmp 29)
     (.reg [
         ⟨(some 30), .mv (.tmp 8), none⟩,
         ⟨(some 31), .bin .add (.tmp 30) (.const (.int .i64 1)), none⟩,
         ⟨(some 6), .mv (.tmp 31), none⟩] [0, 1, 6, 7])
     (.reg [
         ⟨(some 32), .mv (.tmp 8), none⟩,
         ⟨(some 7), .mv (.tmp 32), none⟩] [0, 1, 6, 7]))))))))))
 (.seq (.reg [
     ⟨(some 33), .mv (.tmp 6), none⟩,
     ⟨(some 4), .mv (.tmp 33), none⟩,
     ⟨(some 5), .mv (.const (.bool false)), none⟩] [4, 5])
 (.ret)))))
theorem s_spec_l05Find : stripF Try.prog 69 [[0, 1], [0, 1, 6], [0, 1, 6, 7], [0, 1, 6, 7], [0, 1, 6, 7, 14], [0, 1, 6, 7, 8], [0, 1, 6, 7, 8, 9], [0, 1, 6, 7, 8, 9, 26], [4, 5], [0, 1, 6, 7, 8, 29], [0, 1, 6, 7], [0, 1, 6, 7], [4, 5]] = some (c_spec_l05Find, [.tmp 4, .tmp 5], 34) := by kernel_rfl

/-- loop.example/g00920/spec.l05Put -/
abbrev f_spec_l05Put : Nat := 84
def c_spec_l05Put : SC :=
 .seq (.reg [
     ⟨(some 6), .mv (.const (.slice none 0 0)), none⟩] [0, 1, 2])
 (.seq (.reg [
     ⟨(some 8), .bslice 25 1 0 [] [], none⟩,
     ⟨(some 9), .mv (.tmp 0), none⟩,
     ⟨(some 10), .mv (.tmp 1), none⟩,
     ⟨(some 11), .slc 1 (.tmp 9) none (some (.tmp 10)), none⟩,
     ⟨(some 12), .app 25 1 24 (.tmp 8) (.tmp 11), none⟩,
     ⟨(some 7), .mv (.tmp 12), none⟩] [0, 1, 2, 7])
 (.seq (.reg [
     ⟨(some 13), .mv (.tmp 7), none⟩,
     ⟨(some 14), .mv (.tmp 2), none⟩,
     ⟨(some 15), .bslice 25 1 1 [(.slice none 0 0)] [(0, (.tmp 14))], none⟩,
     ⟨(some 16), .app 25 1 24 (.tmp 13) (.tmp 15), none⟩,
     ⟨(some 7), .mv (.tmp 16), none⟩] [0, 1, 7])
 (.seq (.reg [
     ⟨(some 17), .mv (.tmp 7), none⟩,
     ⟨(some 18), .mv (.tmp 0), none⟩,
     ⟨(some 19), .mv (.tmp 1), none⟩,
     ⟨(some 20), .slc 1 (.tmp 18) (some (.tmp 19)) none, none⟩,
     ⟨(some 21), .app 25 1 24 (.tmp 17) (.tmp 20), none⟩,
     ⟨(some 6), .mv (.tmp 21), none⟩] [6])
 (.ret))))
theorem s_spec_l05Put : stripF Try.prog 84 [[0, 1, 2], [0, 1, 2, 7], [0, 1, 7], [6]] = some (c_spec_l05Put, [.tmp 6], 22) := by kernel_rfl


theorem slcRows {H : List Blk} (K : AV → Prop) (xs : List (List Int)) (z y : Int) (h0 : 0 ≤ z) (h1 : z ≤ y) (h2 : y ≤ xs.length) : SlcG 1 (ilSS xs) z y H K (some (xs.length, xs.map ilS)) = K (ilSS ((xs.drop z.toNat).take (y.toNat - z.toNat))) := by
  unfold ilSS
  rw [SlcG_il (h0 := h0) (h1 := h1) (h2 := h2)]
  simp only [Nat.mul_one, ← List.map_drop, ← List.map_take, List.length_take, List.length_drop]
  rw [Nat.min_eq_left (by omega)]
theorem ren_oneS {H bs : List Blk} {i ver ty : Nat} {xss : List (List Int)} (hi : H.length ≤ i) (h : (H ++ bs)[i]? = some ⟨ver, ty, 1, xss.map ilS⟩) : RenOk (H ++ bs) H.length [some i] [⟨0, ty, 1, xss.map ilS⟩] := by
  refine ⟨rfl, ?_, ?_, ?_⟩
  · intro p q j hp hq
    have h1 := (List.getElem?_eq_some_iff.1 hp).1
    have h2 := (List.getElem?_eq_some_iff.1 hq).1
    simp at h1 h2; omega
  · intro p j nb hp hn
    have h1 := (List.getElem?_eq_some_iff.1 hp).1
    have : p = 0 := by simp at h1; omega
    subst this
    simp at hp hn
    subst hp; subst hn
    refine ⟨_, hi, h, by simp, rfl, rfl, rfl, Nat.le_refl _, fun i c' hc => ⟨c', hc, ?_⟩⟩
    obtain ⟨x, _, rfl⟩ := List.mem_map.1 (List.mem_of_getElem? hc)
    exact ren_ilS x
  · intro p nb hp
    have h1 := (List.getElem?_eq_some_iff.1 hp).1
    have : p = 0 := by simp at h1; omega
    subst this
    simp at hp
/-- One list of frozen rows is kept, as the first own block; the rest is told by content. -/
theorem SW.keepS {P : Program} {n k0 : Nat} {c : SC} {Q : SX → Env → List Blk → Prop} {E E' : Env} {H bs : List Blk} {i ver ty : Nat} {xss : List (List Int)} (hB : HB H) (h0 : k0 ≤ H.length) (hi : H.length ≤ i) (h : (H ++ bs)[i]? = some ⟨ver, ty, 1, xss.map ilS⟩)
    (hE : RE (H ++ bs) H.length [some i] E E') (hk : Go.Av.SW P n k0 c Q E' (H ++ [⟨0, ty, 1, xss.map ilS⟩])) : Go.Av.SW P n k0 c Q E (H ++ bs) := by
  have g := Gh.ren (k0 := k0) (k := H.length) h0 (by simp) (ren_oneS hi h) (by rw [List.take_left]; exact hB) (fun j => hE.get j)
  rw [List.take_left] at g
  exact Go.Av.SW.ghost g hk

theorem l05Find_fn (L : List (List Int)) (p : List Int) (ha : Asc cmpL L) (hl : L.length ≤ 1000000) : PFn Try.prog f_spec_l05Find [ilSS L, ilS p] (.tup [I (cntL L p), Bv (decide (p ∈ L))]) := by
  have hcl := cntL_le L p
  have hmem := cntL_mem (p := p) ha
  intro H; refine ACalls.introB s_spec_l05Find (by simp) ?_; intro hB hA; unfold c_spec_l05Find; simp (config := { maxSteps := 1000000 }) (disch := (first | omega | (simp only [go_sem]; try omega))) only [go_sem, Nat.reduceAdd, Nat.reduceEqDiff, Nat.reduceLeDiff, Nat.reduceMul, Nat.reduceLT, reduceIte, Int.reduceToNat, w64_id, cast_succ]
  repeat (first | (with_reducible first | refine SW.seq ?_ | refine SW.block ?_ | refine SW.rowC ?_ | refine SW.skip ?_ | refine SW.exit ?_ | intro _ | refine And.intro (by omega) ?_) | simp (config := { maxSteps := 1000000 }) (disch := (first | omega | (simp only [go_sem]; try omega))) only [go_sem, Nat.reduceAdd, Nat.reduceEqDiff, Nat.reduceLeDiff, Nat.reduceMul, Nat.reduceLT, reduceIte, Int.reduceToNat, w64_id, cast_succ])
  refine SW.loopE (fun E0 H0 q E' H' => ∃ i j : Nat, i ≤ cntL L p ∧ cntL L p ≤ j ∧ j ≤ L.length ∧ q = j - i ∧ E' = aput (aput E0 6 (I i)) 7 (I j) ∧ H' = H0 ∧ (p ∈ L → cntL L p < j)) L.length ⟨0, L.length, by omega, by omega, by omega, by omega, rfl, rfl, fun h => (hmem.1 h).1⟩ ?_
  rintro q E' H' ⟨i, j, hi, hj, hjl, rfl, rfl, rfl, hin⟩
  simp (config := { maxSteps := 1000000 }) (disch := (first | omega | (simp only [go_sem]; try omega))) only [go_sem, Nat.reduceAdd, Nat.reduceEqDiff, Nat.reduceLeDiff, Nat.reduceMul, Nat.reduceLT, reduceIte, Int.reduceToNat, w64_id, cast_succ]
  repeat (first | (with_reducible first | refine SW.seq ?_ | refine SW.block ?_ | refine SW.rowC ?_ | refine SW.skip ?_ | refine SW.exit ?_ | intro _ | refine And.intro (by omega) ?_) | simp (config := { maxSteps := 1000000 }) (disch := (first | omega | (simp only [go_sem]; try omega))) only [go_sem, Nat.reduceAdd, Nat.reduceEqDiff, Nat.reduceLeDiff, Nat.reduceMul, Nat.reduceLT, reduceIte, Int.reduceToNat, w64_id, cast_succ])
  (first | refine SW.condD rfl (fun h2 => ?_) (fun h2 => ?_) | refine SW.condN rfl (fun h2 => ?_) (fun h2 => ?_) | refine SW.condNB rfl (fun h2 => ?_) (fun h2 => ?_) | refine SW.condB rfl (fun h2 => ?_) (fun h2 => ?_))
  · have hf : ((i : Int) + (j : Int)).tdiv 2 = (((i + j) / 2 : Nat) : Int) := by
      rw [Int.tdiv_eq_ediv_of_nonneg (by omega)]; omega
    have hh : i ≤ (i + j) / 2 ∧ (i + j) / 2 < j := by omega
    generalize hm : (i + j) / 2 = m at *
    have hml : m < L.length := by omega
    have hgm : L.getD m [] = L[m] := by rw [List.getD_eq_getElem?_getD, List.getElem?_eq_getElem hml]; rfl
    have hlt := cntL_lt (p := p) ha hml
    rw [← hgm] at hlt
    have hcf := CompareLists_fn (L.getD m []) p
    repeat (first | (with_reducible first | refine SW.seq ?_ | refine SW.block ?_ | refine SW.rowC ?_ | refine SW.skip ?_ | refine SW.exit ?_ | refine PFn.use (hcf) ?_ | refine PFn.useq (hcf) ?_ | intro _ | refine And.intro (by omega) ?_) | simp (config := { maxSteps := 1000000 }) (disch := (first | omega | (simp only [go_sem]; try omega))) only [go_sem, Nat.reduceAdd, Nat.reduceEqDiff, Nat.reduceLeDiff, Nat.reduceMul, Nat.reduceLT, reduceIte, Int.reduceToNat, w64_id, cast_succ, hf])
    by_cases h0 : cmpL (L.getD m []) p = 0
    · have dd := decide_eq_true h0
      repeat (first | (with_reducible first | refine SW.seq ?_ | refine SW.block ?_ | refine SW.rowC ?_ | refine SW.skip ?_ | refine SW.exit ?_ | intro _ | refine And.intro (by omega) ?_) | simp (config := { maxSteps := 1000000 }) (disch := (first | omega | (simp only [go_sem]; try omega))) only [go_sem, Nat.reduceAdd, Nat.reduceEqDiff, Nat.reduceLeDiff, Nat.reduceMul, Nat.reduceLT, reduceIte, Int.reduceToNat, w64_id, cast_succ, dd])
      refine SW.condT rfl ?_
      have hpm : p ∈ L := by
        rw [← (cmpL_eq0 _ _).1 h0, hgm]; exact List.getElem_mem _
      have hmc : m = cntL L p := by
        rcases Nat.lt_or_ge (cntL L p) m with h | h
        · exfalso
          have h5 := cntL_lt (p := p) ha (h := cntL L p) (by omega)
          have h6 := List.pairwise_iff_getElem.1 ha (cntL L p) m (by omega) hml h
          rw [hgm] at h0
          rw [(cmpL_eq0 _ _).1 h0] at h6
          have := h5.1 h6
          omega
        · rcases Nat.lt_or_eq_of_le h with h7 | h7
          · have := hlt.2 h7; omega
          · exact h7
      repeat (first | (with_reducible first | refine SW.seq ?_ | refine SW.block ?_ | refine SW.rowC ?_ | refine SW.skip ?_ | refine SW.exit ?_ | intro _ | refine And.intro (by omega) ?_) | simp (config := { maxSteps := 1000000 }) (disch := (first | omega | (simp only [go_sem]; try omega))) only [go_sem, Nat.reduceAdd, Nat.reduceEqDiff, Nat.reduceLeDiff, Nat.reduceMul, Nat.reduceLT, reduceIte, Int.reduceToNat, w64_id, cast_succ])
      refine SW.ret ?_; (try simp only [go_sem]); (first | refine FunPost.one ?_ | refine FunPost.two ?_ | refine FunPost.three ?_); (try simp (config := { maxSteps := 1000000 }) (disch := (first | omega | (simp only [go_sem]; try omega))) only [go_sem, Nat.reduceAdd, Nat.reduceEqDiff, Nat.reduceLeDiff, Nat.reduceMul, Nat.reduceLT, reduceIte, Int.reduceToNat, w64_id, cast_succ]); (first | (with_reducible refine GR.drop ?_ ?_; (simp only [go_sem, and_self, and_true, true_and, implies_true, List.take_succ_cons, List.take_zero])) | refine GR.of ?_); refine ⟨?_, rfl⟩; (try with_reducible rfl)
      rw [hmc, decide_eq_true hpm]
    · have dd := decide_eq_false h0
      repeat (first | (with_reducible first | refine SW.seq ?_ | refine SW.block ?_ | refine SW.rowC ?_ | refine SW.skip ?_ | refine SW.exit ?_ | intro _ | refine And.intro (by omega) ?_) | simp (config := { maxSteps := 1000000 }) (disch := (first | omega | (simp only [go_sem]; try omega))) only [go_sem, Nat.reduceAdd, Nat.reduceEqDiff, Nat.reduceLeDiff, Nat.reduceMul, Nat.reduceLT, reduceIte, Int.reduceToNat, w64_id, cast_succ, dd])
      refine SW.condF rfl ?_
      repeat (first | (with_reducible first | refine SW.seq ?_ | refine SW.block ?_ | refine SW.rowC ?_ | refine SW.skip ?_ | refine SW.exit ?_ | intro _ | refine And.intro (by omega) ?_) | simp (config := { maxSteps := 1000000 }) (disch := (first | omega | (simp only [go_sem]; try omega))) only [go_sem, Nat.reduceAdd, Nat.reduceEqDiff, Nat.reduceLeDiff, Nat.reduceMul, Nat.reduceLT, reduceIte, Int.reduceToNat, w64_id, cast_succ])
      by_cases hlm : cmpL (L.getD m []) p < 0
      · have d2 := decide_eq_true hlm
        repeat (first | (with_reducible first | refine SW.seq ?_ | refine SW.block ?_ | refine SW.rowC ?_ | refine SW.skip ?_ | refine SW.exit ?_ | intro _ | refine And.intro (by omega) ?_) | simp (config := { maxSteps := 1000000 }) (disch := (first | omega | (simp only [go_sem]; try omega))) only [go_sem, Nat.reduceAdd, Nat.reduceEqDiff, Nat.reduceLeDiff, Nat.reduceMul, Nat.reduceLT, reduceIte, Int.reduceToNat, w64_id, cast_succ, d2])
        refine SW.condT rfl ?_
        repeat (first | (with_reducible first | refine SW.seq ?_ | refine SW.block ?_ | refine SW.rowC ?_ | refine SW.skip ?_ | refine SW.exit ?_ | intro _ | refine And.intro (by omega) ?_) | simp (config := { maxSteps := 1000000 }) (disch := (first | omega | (simp only [go_sem]; try omega))) only [go_sem, Nat.reduceAdd, Nat.reduceEqDiff, Nat.reduceLeDiff, Nat.reduceMul, Nat.reduceLT, reduceIte, Int.reduceToNat, w64_id, cast_succ])
        refine SLoop.next (j - (m + 1)) (by omega) ⟨m + 1, j, hlt.1 hlm, hj, hjl, rfl, by simp [go_sem], rfl, hin⟩
      · have d2 := decide_eq_false hlm
        repeat (first | (with_reducible first | refine SW.seq ?_ | refine SW.block ?_ | refine SW.rowC ?_ | refine SW.skip ?_ | refine SW.exit ?_ | intro _ | refine And.intro (by omega) ?_) | simp (config := { maxSteps := 1000000 }) (disch := (first | omega | (simp only [go_sem]; try omega))) only [go_sem, Nat.reduceAdd, Nat.reduceEqDiff, Nat.reduceLeDiff, Nat.reduceMul, Nat.reduceLT, reduceIte, Int.reduceToNat, w64_id, cast_succ, d2])
        refine SW.condF rfl ?_
        repeat (first | (with_reducible first | refine SW.seq ?_ | refine SW.block ?_ | refine SW.rowC ?_ | refine SW.skip ?_ | refine SW.exit ?_ | intro _ | refine And.intro (by omega) ?_) | simp (config := { maxSteps := 1000000 }) (disch := (first | omega | (simp only [go_sem]; try omega))) only [go_sem, Nat.reduceAdd, Nat.reduceEqDiff, Nat.reduceLeDiff, Nat.reduceMul, Nat.reduceLT, reduceIte, Int.reduceToNat, w64_id, cast_succ])
        refine SLoop.next (m - i) (by omega) ⟨i, m, hi, by omega, by omega, rfl, by simp [go_sem], rfl, fun hp => ?_⟩
        rcases Nat.lt_or_eq_of_le (show cntL L p ≤ m by omega) with h | h
        · exact h
        · exfalso
          obtain ⟨h8, h9⟩ := hmem.1 hp
          refine h0 ?_
          rw [hgm, ← h9]
          simp only [h]
  · have hij : i = j := by omega
    have hic : i = cntL L p := by omega
    repeat (first | (with_reducible first | refine SW.seq ?_ | refine SW.block ?_ | refine SW.rowC ?_ | refine SW.skip ?_ | refine SW.exit ?_ | intro _ | refine And.intro (by omega) ?_) | simp (config := { maxSteps := 1000000 }) (disch := (first | omega | (simp only [go_sem]; try omega))) only [go_sem, Nat.reduceAdd, Nat.reduceEqDiff, Nat.reduceLeDiff, Nat.reduceMul, Nat.reduceLT, reduceIte, Int.reduceToNat, w64_id, cast_succ])
    refine SW.ret ?_; (try simp only [go_sem]); (first | refine FunPost.one ?_ | refine FunPost.two ?_ | refine FunPost.three ?_); (try simp (config := { maxSteps := 1000000 }) (disch := (first | omega | (simp only [go_sem]; try omega))) only [go_sem, Nat.reduceAdd, Nat.reduceEqDiff, Nat.reduceLeDiff, Nat.reduceMul, Nat.reduceLT, reduceIte, Int.reduceToNat, w64_id, cast_succ]); (first | (with_reducible refine GR.drop ?_ ?_; (simp only [go_sem, and_self, and_true, true_and, implies_true, List.take_succ_cons, List.take_zero])) | refine GR.of ?_); refine ⟨?_, rfl⟩; (try with_reducible rfl)
    rw [hic, decide_eq_false (fun h => by have := hin h; omega)]

theorem l05Put_fn (L : List (List Int)) (p : List Int) (k : Nat) (hk : k ≤ L.length) (hl : L.length ≤ 1000000) : PFn Try.prog f_spec_l05Put [ilSS L, I k, ilS p] (ilSS (L.take k ++ p :: L.drop k)) := by
  have htk : (L.take k).length = k := by simp; omega
  have hdk : (L.drop k).length = L.length - k := by simp
  have htd : (L.drop k).take (L.length - k) = L.drop k := List.take_of_length_le (by simp)
  have htm : ((L.take k).map ilS).take k = (L.take k).map ilS := List.take_of_length_le (by simp; omega)
  have hlen : k + 1 + (L.length - k) = (L.take k ++ p :: L.drop k).length := by simp; omega
  intro H; refine ACalls.introB s_spec_l05Put (by simp) ?_; intro hB hA; unfold c_spec_l05Put; simp (config := { maxSteps := 1000000 }) (disch := (first | omega | (simp only [go_sem]; try omega))) only [go_sem, Nat.reduceAdd, Nat.reduceEqDiff, Nat.reduceLeDiff, Nat.reduceMul, Nat.reduceLT, reduceIte, Int.reduceToNat, w64_id, cast_succ]
  repeat (first | (with_reducible first | refine SW.seq ?_ | refine SW.block ?_ | refine SW.rowC ?_ | refine SW.skip ?_ | refine SW.exit ?_ | intro _ | refine And.intro (by omega) ?_) | simp (config := { maxSteps := 1000000 }) (disch := (first | omega | (simp only [go_sem]; try omega))) only [go_sem, Nat.reduceAdd, Nat.reduceEqDiff, Nat.reduceLeDiff, Nat.reduceMul, Nat.reduceLT, reduceIte, Int.reduceToNat, w64_id, cast_succ, htk, hdk, htd, htm, Option.map_some, Option.map_none, slcRows, List.drop_zero, Int.toNat_natCast, Nat.sub_zero, Int.toNat_zero])
  refine SW.ret ?_; (try simp only [go_sem]); (first | refine FunPost.one ?_ | refine FunPost.two ?_ | refine FunPost.three ?_); (try simp (config := { maxSteps := 1000000 }) (disch := (first | omega | (simp only [go_sem]; try omega))) only [go_sem, Nat.reduceAdd, Nat.reduceEqDiff, Nat.reduceLeDiff, Nat.reduceMul, Nat.reduceLT, reduceIte, Int.reduceToNat, w64_id, cast_succ])
  have htn : (List.map ilS (L.take k ++ [p])).take (k + 1) = List.map ilS (L.take k ++ [p]) := List.take_of_length_le (by simp; omega)
  have hcells : (List.map ilS (L.take k ++ [p])).take (k + 1) ++ List.map ilS (L.drop k) = (L.take k ++ p :: L.drop k).map ilS := by rw [htn]; simp
  rw [hcells, hlen]
  exact GR.froz (froz_rowsS (ver := 3) (ty := tyLL) (by omega) (by simp)) ⟨rfl, rfl⟩
theorem put_is {L : List (List Int)} {p : List Int} (ha : Asc cmpL L) (hp : p ∉ L) : L.take (cntL L p) ++ p :: L.drop (cntL L p) = insU cmpL p L := by
  refine asc_uniq cmpL_tot ?_ (insU_asc cmpL_tot p ha) (fun y => ?_)
  · unfold Asc
    have hsp : L = L.take (cntL L p) ++ L.drop (cntL L p) := (List.take_append_drop _ _).symm
    have ha2 := ha
    unfold Asc at ha2
    rw [hsp, List.pairwise_append] at ha2
    have h1 : ∀ x ∈ L.take (cntL L p), cmpL x p < 0 := by
      intro x hx
      obtain ⟨j, hj, rfl⟩ := List.getElem_of_mem hx
      have hjl : j < cntL L p ∧ j < L.length := by simp at hj; omega
      rw [List.getElem_take]
      exact (cntL_lt ha hjl.2).2 hjl.1
    have h2 : ∀ x ∈ L.drop (cntL L p), cmpL p x < 0 := by
      intro x hx
      obtain ⟨j, hj, rfl⟩ := List.getElem_of_mem hx
      have hjl : cntL L p + j < L.length := by simp at hj; omega
      rw [List.getElem_drop]
      have h3 := (cntL_lt (p := p) ha hjl)
      have h4 : cmpL L[cntL L p + j] p ≠ 0 := fun h => hp (by rw [← (cmpL_eq0 _ _).1 h]; exact List.getElem_mem _)
      have h5 := cmpL_tot.neg L[cntL L p + j] p
      have h6 : ¬ cmpL L[cntL L p + j] p < 0 := fun h => by have := h3.1 h; omega
      omega
    rw [List.pairwise_append]
    refine ⟨ha2.1, List.pairwise_cons.2 ⟨h2, ha2.2.1⟩, fun a h b hb => ?_⟩
    rcases List.mem_cons.1 hb with rfl | hb
    · exact h1 a h
    · exact cmpL_trans _ _ _ (h1 a h) (h2 b hb)
  · rw [insU_mem cmpL_tot, List.mem_append, List.mem_cons]
    have : y ∈ L ↔ y ∈ L.take (cntL L p) ∨ y ∈ L.drop (cntL L p) := by rw [← List.mem_append, List.take_append_drop]
    rw [this]
    constructor
    · rintro (h | h | h)
      · exact .inl (.inl h)
      · exact .inr h
      · exact .inl (.inr h)
    · rintro ((h | h) | h)
      · exact .inl h
      · exact .inr (.inr h)
      · exact .inr (.inl h)

theorem l05Close_ok (H : List Blk) (n m : Nat) (a : AV) (gs : List (List Int)) (hn1 : 1 ≤ n) (hn : n ≤ 32) (hm1 : 1 ≤ m) (hm : m ≤ 720) (ha : aview H a = some (gs.length, gs.map ilS)) (hg : ∀ g ∈ gs, permOk n g) (hgl : gs.length ≤ 1000000) :
    ACalls Try.prog f_spec_l05Close [I n, a, I m] H (fun r H' => r = closAV (genL n gs m) ∧ H' = H) := by
  have hav : ∀ ext, aview (H ++ ext) a = some (gs.length, gs.map ilS) := fun ext => aview_append ha ext
  refine ACalls.introB s_spec_l05Close (by simp) ?_; intro hB hA; unfold c_spec_l05Close; simp (config := { maxSteps := 1000000 }) (disch := (first | omega | (simp only [go_sem]; try omega))) only [go_sem, Nat.reduceAdd, Nat.reduceEqDiff, Nat.reduceLeDiff, Nat.reduceMul, Nat.reduceLT, reduceIte, Int.reduceToNat, w64_id, cast_succ]
  have hab : ∀ k, H.length ≤ k → Bel k a := fun k hk => (hA a (by simp)).mono hk
  have hi1 := l04One64_fn n (by omega)
  repeat (first | (with_reducible first | refine SW.seq ?_ | refine SW.block ?_ | refine SW.rowC ?_ | refine SW.skip ?_ | refine SW.exit ?_ | refine PFn.use (hi1) ?_ | refine PFn.useq (hi1) ?_ | intro _ | refine And.intro (by omega) ?_) | simp (config := { maxSteps := 1000000 }) (disch := (first | omega | (simp only [go_sem]; try omega))) only [go_sem, Nat.reduceAdd, Nat.reduceEqDiff, Nat.reduceLeDiff, Nat.reduceMul, Nat.reduceLT, reduceIte, Int.reduceToNat, w64_id, cast_succ])
  refine SW.keepS (E' := [(1, a), (2, I m), (9, ilSS [idL n]), (10, .nm H.length 0 0 1), (11, I 0)]) (i := H.length + 1) (ver := 0) (ty := tyLL) (xss := [idL n]) hB (Nat.le_refl _) (by omega) (by simp) ?_ ?_
  · refine .cons _ (.old _ (hab _ (Nat.le_refl _))) (.cons _ (ren_I _) (.cons _ ?_ (.cons _ ?_ (.cons _ (ren_I _) .nil))))
    · exact ren_rowS (H := H ++ [(⟨0, tyLL, 1, [ilS (idL n)]⟩ : Blk), ⟨0, tyLL, 1, [ilS (idL n)]⟩]) (r := H.length) (ver := 0) (ty := tyLL) (xs := [idL n]) (Nat.le_refl _) (by simp) (by simp)
    · exact .nm 0 (H.length + 1) 0 0 1 ⟨0, tyLL, 1, [ilS (idL n)]⟩ rfl (by simp) rfl
  refine SW.loopE (fun E0 H0 q E' H' => ∃ (L : List (List Int)) (k ver : Nat), k ≤ L.length ∧ L.length ≤ m ∧ q = m + 1 - k ∧ E' = aput (aput (aput E0 11 (I k)) 10 (.nm H.length ver 0 L.length)) 9 (ilSS (sortU cmpL L)) ∧ H' = H ++ [⟨ver, tyLL, 1, L.map ilS⟩] ∧ L.Nodup ∧ (∀ p ∈ L, Gen n gs p) ∧ idL n ∈ L ∧ ∀ j, j < k → ∀ g ∈ gs, mul (L.getD j []) g ∈ L) (m + 1) ⟨[idL n], 0, 0, by simp, by simpa using hm1, by omega, rfl, rfl, by simp, by simpa using Gen.one, by simp, by omega⟩ ?_
  rintro q E' H' ⟨L, k, ver, hk, hLl, rfl, rfl, rfl, hnd, hgen, hone, hcl⟩
  simp (config := { maxSteps := 1000000 }) (disch := (first | omega | (simp only [go_sem]; try omega))) only [go_sem, Nat.reduceAdd, Nat.reduceEqDiff, Nat.reduceLeDiff, Nat.reduceMul, Nat.reduceLT, reduceIte, Int.reduceToNat, w64_id, cast_succ]
  repeat (first | (with_reducible first | refine SW.seq ?_ | refine SW.block ?_ | refine SW.rowC ?_ | refine SW.skip ?_ | refine SW.exit ?_ | intro _ | refine And.intro (by omega) ?_) | simp (config := { maxSteps := 1000000 }) (disch := (first | omega | (simp only [go_sem]; try omega))) only [go_sem, Nat.reduceAdd, Nat.reduceEqDiff, Nat.reduceLeDiff, Nat.reduceMul, Nat.reduceLT, reduceIte, Int.reduceToNat, w64_id, cast_succ])
  (first | refine SW.condD rfl (fun h2 => ?_) (fun h2 => ?_) | refine SW.condN rfl (fun h2 => ?_) (fun h2 => ?_) | refine SW.condNB rfl (fun h2 => ?_) (fun h2 => ?_) | refine SW.condB rfl (fun h2 => ?_) (fun h2 => ?_))
  · have hklt : k < L.length := by omega
    have hLk : permOk n (L.getD k []) := (hgen _ (by rw [List.getD_eq_getElem?_getD, List.getElem?_eq_getElem hklt]; exact List.getElem_mem _)).ok hg
    repeat (first | (with_reducible first | refine SW.seq ?_ | refine SW.block ?_ | refine SW.rowC ?_ | refine SW.skip ?_ | refine SW.exit ?_ | intro _ | refine And.intro (by omega) ?_) | simp (config := { maxSteps := 1000000 }) (disch := (first | omega | (simp only [go_sem]; try omega))) only [go_sem, Nat.reduceAdd, Nat.reduceEqDiff, Nat.reduceLeDiff, Nat.reduceMul, Nat.reduceLT, reduceIte, Int.reduceToNat, w64_id, cast_succ])
    refine SW.loopE (fun E0 H0 q E' H' => ∃ (L2 pre post : List (List Int)) (ver : Nat), gs = pre ++ post ∧ q = post.length ∧ E' = aput (aput (aput E0 12 (I pre.length)) 10 (.nm H.length ver 0 L2.length)) 9 (ilSS (sortU cmpL L2)) ∧ H' = H ++ [⟨ver, tyLL, 1, L2.map ilS⟩] ∧ L2.Nodup ∧ (∀ p ∈ L2, Gen n gs p) ∧ (∃ M, L2 = L ++ M) ∧ L2.length ≤ m ∧ ∀ g ∈ pre, mul (L.getD k []) g ∈ L2) gs.length ⟨L, [], gs, ver, rfl, rfl, rfl, rfl, hnd, hgen, ⟨[], by simp⟩, by omega, by simp⟩ ?_
    rintro q E' H' ⟨L2, pre, post, ver, hgp, rfl, rfl, rfl, hnd2, hgen2, ⟨M, hLM⟩, hl2, hpre⟩
    have hkL2 : L2.getD k [] = L.getD k [] := by
      rw [hLM, List.getD_eq_getElem?_getD, List.getD_eq_getElem?_getD, List.getElem?_append_left hklt]
    have hL2l : L.length ≤ L2.length := by rw [hLM]; simp
    have hprel : pre.length ≤ 1000000 := by rw [hgp] at hgl; simp at hgl; omega
    have hsl : (sortU cmpL L2).length = L2.length := (sortU_perm cmpL_tot hnd2).length_eq
    have hsa := sortU_asc cmpL_tot L2
    simp (config := { maxSteps := 1000000 }) (disch := (first | omega | (simp only [go_sem]; try omega))) only [go_sem, Nat.reduceAdd, Nat.reduceEqDiff, Nat.reduceLeDiff, Nat.reduceMul, Nat.reduceLT, reduceIte, Int.reduceToNat, w64_id, cast_succ]
    repeat (first | (with_reducible first | refine SW.seq ?_ | refine SW.block ?_ | refine SW.rowC ?_ | refine SW.skip ?_ | refine SW.exit ?_ | intro _ | refine And.intro (by omega) ?_) | simp (config := { maxSteps := 1000000 }) (disch := (first | omega | (simp only [go_sem]; try omega))) only [go_sem, Nat.reduceAdd, Nat.reduceEqDiff, Nat.reduceLeDiff, Nat.reduceMul, Nat.reduceLT, reduceIte, Int.reduceToNat, w64_id, cast_succ, hav])
    (first | refine SW.condD rfl (fun h3 => ?_) (fun h3 => ?_) | refine SW.condN rfl (fun h3 => ?_) (fun h3 => ?_) | refine SW.condNB rfl (fun h3 => ?_) (fun h3 => ?_) | refine SW.condB rfl (fun h3 => ?_) (fun h3 => ?_))
    · obtain ⟨g, post, rfl, hgg, -⟩ := consOf (d := []) hgp (by omega)
      have hgm : g ∈ gs := by rw [hgp]; simp
      have hcm := l04Times_fn n (L.getD k []) g (by omega) hLk (hg g hgm)
      have hmo := mul_ok hLk (hg g hgm)
      have hgs : Gen n gs (mul (L.getD k []) g) := .step _ g hgm (hgen _ (by rw [List.getD_eq_getElem?_getD, List.getElem?_eq_getElem hklt]; exact List.getElem_mem _))
      generalize hmm : mul (L.getD k []) g = p at *
      have hfd := l05Find_fn (sortU cmpL L2) p hsa (by omega)
      by_cases hpm : p ∈ L2
      · rw [decide_eq_true ((sortU_mem cmpL_tot L2 p).2 hpm)] at hfd
        repeat (first | (with_reducible first | refine SW.seq ?_ | refine SW.block ?_ | refine SW.rowC ?_ | refine SW.skip ?_ | refine SW.exit ?_ | refine PFn.use (hcm) ?_ | refine PFn.useq (hcm) ?_ | refine PFn.use (hfd) ?_ | refine PFn.useq (hfd) ?_ | intro _ | refine And.intro (by omega) ?_) | simp (config := { maxSteps := 1000000 }) (disch := (first | omega | (simp only [go_sem]; try omega))) only [go_sem, Nat.reduceAdd, Nat.reduceEqDiff, Nat.reduceLeDiff, Nat.reduceMul, Nat.reduceLT, reduceIte, Int.reduceToNat, w64_id, cast_succ, hav, hgg, hkL2])
        refine SW.condT rfl ?_
        repeat (first | (with_reducible first | refine SW.seq ?_ | refine SW.block ?_ | refine SW.rowC ?_ | refine SW.skip ?_ | refine SW.exit ?_ | intro _ | refine And.intro (by omega) ?_) | simp (config := { maxSteps := 1000000 }) (disch := (first | omega | (simp only [go_sem]; try omega))) only [go_sem, Nat.reduceAdd, Nat.reduceEqDiff, Nat.reduceLeDiff, Nat.reduceMul, Nat.reduceLT, reduceIte, Int.reduceToNat, w64_id, cast_succ])
        refine SLoop.next post.length (by simp) ⟨L2, pre ++ [g], post, ver, by simp [hgp], rfl, by simp [go_sem], rfl, hnd2, hgen2, ⟨M, hLM⟩, hl2, ?_⟩
        intro g' hg'
        rcases List.mem_append.1 hg' with h | h
        · exact hpre g' h
        · rw [List.mem_singleton.1 h, hmm]; exact hpm
      · have hps : p ∉ sortU cmpL L2 := fun h => hpm ((sortU_mem cmpL_tot L2 p).1 h)
        rw [decide_eq_false hps] at hfd
        have hnd3 : (L2 ++ [p]).Nodup := by
          rw [List.nodup_append]
          refine ⟨hnd2, by simp, fun a h1 b h2 => ?_⟩
          rw [List.mem_singleton.1 h2]
          rintro rfl
          exact hpm h1
        have hgen3 : ∀ q ∈ L2 ++ [p], Gen n gs q := by
          intro q hq
          rcases List.mem_append.1 hq with h | h
          · exact hgen2 q h
          · rw [List.mem_singleton.1 h]; exact hgs
        by_cases hfull : L2.length = m
        · have dd : decide (((L2.length : Nat) : Int) = (m : Int)) = true := decide_eq_true (by omega)
          repeat (first | (with_reducible first | refine SW.seq ?_ | refine SW.block ?_ | refine SW.rowC ?_ | refine SW.skip ?_ | refine SW.exit ?_ | refine PFn.use (hcm) ?_ | refine PFn.useq (hcm) ?_ | refine PFn.use (hfd) ?_ | refine PFn.useq (hfd) ?_ | intro _ | refine And.intro (by omega) ?_) | simp (config := { maxSteps := 1000000 }) (disch := (first | omega | (simp only [go_sem]; try omega))) only [go_sem, Nat.reduceAdd, Nat.reduceEqDiff, Nat.reduceLeDiff, Nat.reduceMul, Nat.reduceLT, reduceIte, Int.reduceToNat, w64_id, cast_succ, hav, hgg, hkL2, hsl, dd])
          refine SW.condF rfl ?_
          repeat (first | (with_reducible first | refine SW.seq ?_ | refine SW.block ?_ | refine SW.rowC ?_ | refine SW.skip ?_ | refine SW.exit ?_ | intro _ | refine And.intro (by omega) ?_) | simp (config := { maxSteps := 1000000 }) (disch := (first | omega | (simp only [go_sem]; try omega))) only [go_sem, Nat.reduceAdd, Nat.reduceEqDiff, Nat.reduceLeDiff, Nat.reduceMul, Nat.reduceLT, reduceIte, Int.reduceToNat, w64_id, cast_succ, hsl, dd])
          refine SW.condT rfl ?_
          repeat (first | (with_reducible first | refine SW.seq ?_ | refine SW.block ?_ | refine SW.rowC ?_ | refine SW.skip ?_ | refine SW.exit ?_ | intro _ | refine And.intro (by omega) ?_) | simp (config := { maxSteps := 1000000 }) (disch := (first | omega | (simp only [go_sem]; try omega))) only [go_sem, Nat.reduceAdd, Nat.reduceEqDiff, Nat.reduceLeDiff, Nat.reduceMul, Nat.reduceLT, reduceIte, Int.reduceToNat, w64_id, cast_succ])
          refine SW.ret ?_; (try simp only [go_sem]); (first | refine FunPost.one ?_ | refine FunPost.two ?_ | refine FunPost.three ?_); (try simp (config := { maxSteps := 1000000 }) (disch := (first | omega | (simp only [go_sem]; try omega))) only [go_sem, Nat.reduceAdd, Nat.reduceEqDiff, Nat.reduceLeDiff, Nat.reduceMul, Nat.reduceLT, reduceIte, Int.reduceToNat, w64_id, cast_succ])
          rw [genL_none hnd3 hgen3 (by simp; omega)]
          exact GR.froz (r' := .tup [ilSS [], Bv false]) (froz_tup2 .nil (.old _ (.lit _))) ⟨rfl, rfl⟩
        · have dd : decide (((L2.length : Nat) : Int) = (m : Int)) = false := decide_eq_false (by omega)
          have hput := l05Put_fn (sortU cmpL L2) p (cntL (sortU cmpL L2) p) (cntL_le _ _) (by omega)
          rw [put_is hsa hps, ← sortU_snoc] at hput
          have htl : (L2.map ilS).take L2.length = L2.map ilS := List.take_of_length_le (by simp)
          repeat (first | (with_reducible first | refine SW.seq ?_ | refine SW.block ?_ | refine SW.rowC ?_ | refine SW.skip ?_ | refine SW.exit ?_ | refine PFn.use (hcm) ?_ | refine PFn.useq (hcm) ?_ | refine PFn.use (hfd) ?_ | refine PFn.useq (hfd) ?_ | intro _ | refine And.intro (by omega) ?_) | simp (config := { maxSteps := 1000000 }) (disch := (first | omega | (simp only [go_sem]; try omega))) only [go_sem, Nat.reduceAdd, Nat.reduceEqDiff, Nat.reduceLeDiff, Nat.reduceMul, Nat.reduceLT, reduceIte, Int.reduceToNat, w64_id, cast_succ, hav, hgg, hkL2, hsl, dd])
          refine SW.condF rfl ?_
          repeat (first | (with_reducible first | refine SW.seq ?_ | refine SW.block ?_ | refine SW.rowC ?_ | refine SW.skip ?_ | refine SW.exit ?_ | intro _ | refine And.intro (by omega) ?_) | simp (config := { maxSteps := 1000000 }) (disch := (first | omega | (simp only [go_sem]; try omega))) only [go_sem, Nat.reduceAdd, Nat.reduceEqDiff, Nat.reduceLeDiff, Nat.reduceMul, Nat.reduceLT, reduceIte, Int.reduceToNat, w64_id, cast_succ, hsl, dd])
          refine SW.condF rfl ?_
          repeat (first | (with_reducible first | refine SW.seq ?_ | refine SW.block ?_ | refine SW.rowC ?_ | refine SW.skip ?_ | refine SW.exit ?_ | refine PFn.use (hput) ?_ | refine PFn.useq (hput) ?_ | intro _ | refine And.intro (by omega) ?_) | simp (config := { maxSteps := 1000000 }) (disch := (first | omega | (simp only [go_sem]; try omega))) only [go_sem, Nat.reduceAdd, Nat.reduceEqDiff, Nat.reduceLeDiff, Nat.reduceMul, Nat.reduceLT, reduceIte, Int.reduceToNat, w64_id, cast_succ, htl])
          refine SLoop.nextT 1 post.length hB (by omega) (by simp) (by simp) ?_ ?_ ⟨L2 ++ [p], pre ++ [g], post, ver + 1, by simp [hgp], rfl, ?_, ?_, hnd3, hgen3, ⟨M ++ [p], by rw [hLM]; simp⟩, by simp; omega, ?_⟩
          · have hab2 := hab (H.length + 1) (by omega)
            (simp only [go_sem, Nat.reduceAdd, Nat.reduceEqDiff, reduceIte, go_sem, and_self, and_true, true_and, implies_true, List.take_succ_cons, List.take_zero, and_true, true_and, hab2]; try omega)
          · simp only [List.take_succ_cons, List.take_zero, BB_cons, BB_nil, and_true]
            intro c hc
            obtain ⟨x, _, rfl⟩ := List.mem_map.1 hc
            rw [Bel_ilS]; trivial
          · simp [go_sem]
          · simp
          · intro g' hg'
            rcases List.mem_append.1 hg' with h | h
            · exact List.mem_append_left _ (hpre g' h)
            · rw [List.mem_singleton.1 h, hmm]; simp
    · obtain ⟨rfl, rfl⟩ := nilOf hgp (by omega)
      repeat (first | (with_reducible first | refine SW.seq ?_ | refine SW.block ?_ | refine SW.rowC ?_ | refine SW.skip ?_ | refine SW.exit ?_ | intro _ | refine And.intro (by omega) ?_) | simp (config := { maxSteps := 1000000 }) (disch := (first | omega | (simp only [go_sem]; try omega))) only [go_sem, Nat.reduceAdd, Nat.reduceEqDiff, Nat.reduceLeDiff, Nat.reduceMul, Nat.reduceLT, reduceIte, Int.reduceToNat, w64_id, cast_succ])
      refine SLoop.next (m + 1 - (k + 1)) (by omega) ⟨L2, k + 1, ver, by omega, by omega, rfl, by simp [go_sem], rfl, hnd2, hgen2, by rw [hLM]; exact List.mem_append_left _ hone, ?_⟩
      intro j hj g hgm
      rcases Nat.lt_or_eq_of_le (Nat.le_of_lt_succ hj) with h5 | rfl
      · have e : L2.getD j [] = L.getD j [] := by
          rw [hLM, List.getD_eq_getElem?_getD, List.getD_eq_getElem?_getD, List.getElem?_append_left (by omega)]
        rw [e, hLM]
        exact List.mem_append_left _ (hcl j h5 g hgm)
      · rw [hkL2]; exact hpre g hgm
  · have hkL : k = L.length := by omega
    subst hkL
    have hG : GenList n gs (sortU cmpL L) := by
      refine ⟨sortU_asc cmpL_tot _, fun p => ?_⟩
      rw [sortU_mem cmpL_tot]
      refine ⟨hgen p, fun h => ?_⟩
      induction h with
      | one => exact hone
      | step p g hgm _ ih =>
        obtain ⟨j, hj, he⟩ := List.getElem_of_mem ih
        have := hcl j hj g hgm
        rw [List.getD_eq_getElem?_getD, List.getElem?_eq_getElem hj] at this
        simp only [Option.getD_some, he] at this
        exact this
    have hGl : (sortU cmpL L).length ≤ m := Nat.le_trans (sortU_len (cf := cmpL) L) hLl
    rw [genL_some hG hGl]
    repeat (first | (with_reducible first | refine SW.seq ?_ | refine SW.block ?_ | refine SW.rowC ?_ | refine SW.skip ?_ | refine SW.exit ?_ | intro _ | refine And.intro (by omega) ?_) | simp (config := { maxSteps := 1000000 }) (disch := (first | omega | (simp only [go_sem]; try omega))) only [go_sem, Nat.reduceAdd, Nat.reduceEqDiff, Nat.reduceLeDiff, Nat.reduceMul, Nat.reduceLT, reduceIte, Int.reduceToNat, w64_id, cast_succ])
    refine SW.ret ?_; (try simp only [go_sem]); (first | refine FunPost.one ?_ | refine FunPost.two ?_ | refine FunPost.three ?_); (try simp (config := { maxSteps := 1000000 }) (disch := (first | omega | (simp only [go_sem]; try omega))) only [go_sem, Nat.reduceAdd, Nat.reduceEqDiff, Nat.reduceLeDiff, Nat.reduceMul, Nat.reduceLT, reduceIte, Int.reduceToNat, w64_id, cast_succ])
    refine GR.drop ?_ ⟨rfl, rfl⟩
    simp [go_sem]
end Go.Proofs.Ytkifdjjnbplghaa
