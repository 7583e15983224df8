/- Exact covers: the reference marks and chooses. -/
import Derived.Test.YtpaagkipnlbibaaProg
import Derived.KernelRfl
import Derived.Test.YtpaagkipnlbibaazCG
set_option linter.unusedSimpArgs false
set_option linter.unusedVariables false
set_option maxHeartbeats 4000000
set_option maxRecDepth 100000
namespace Go.Proofs.Ytpaagkipnlbibaa
open Go.Av
abbrev f_spec_l24Search_mark : Nat := 123
def c_spec_l24Search_mark : SC :=
 .seq (.reg [
     ⟨(some 9), .mv (.tmp 0), none⟩,
     ⟨(some 10), .nilc (.tmp 9), none⟩,
     ⟨(some 11), .faddr 0 (.tmp 10), none⟩,
     ⟨(some 12), .load 1 false (.tmp 11), none⟩,
     ⟨(some 13), .nilc (.tmp 12), none⟩,
     ⟨(some 14), .faddr 1 (.tmp 13), none⟩,
     ⟨(some 15), .load 1 false (.tmp 14), none⟩,
     ⟨(some 16), .mv (.tmp 1), none⟩,
     ⟨(some 17), .iaddr 1 (.tmp 15) (.tmp 16), none⟩,
     ⟨(some 18), .load 1 false (.tmp 17), none⟩,
     ⟨(some 6), .mv (.tmp 18), none⟩] [0, 2, 6])
 (.seq (.seq (.reg [
     ⟨(some 7), .mv (.const (.int .i64 0)), none⟩] [0, 2, 6, 7])
 (.block 0 (.loop [0, 2, 6, 7]
   (.seq (.seq (.reg [
       ⟨(some 19), .mv (.tmp 7), none⟩,
       ⟨(some 20), .mv (.tmp 6), none⟩,
       ⟨(some 21), .len (.tmp 20), none⟩,
       ⟨(some 22), .bin .lss (.tmp 19) (.tmp 21), none⟩] [0, 2, 6, 7, 22])
   (.cond (.tmp 22)
    (.skip)
    (.exit 0)))
   (.seq (.block 1 (.reg [
        ⟨(some 25), .mv (.tmp 0), none⟩,
        ⟨(some 26), .nilc (.tmp 25), none⟩,
        ⟨(some 27), .faddr 1 (.tmp 26), none⟩,
        ⟨(some 28), .load 1 false (.tmp 27), none⟩,
        ⟨(some 29), .mv (.tmp 6), none⟩,
        ⟨(some 30), .mv (.tmp 7), none⟩,
        ⟨(some 31), .iaddr 1 (.tmp 29) (.tmp 30), none⟩,
        ⟨(some 32), .load 1 false (.tmp 31), none⟩,
        ⟨(some 33), .mv (.tmp 2), none⟩,
        ⟨(some 34), .bin .gtr (.tmp 33) (.const (.int .i64 0)), none⟩,
        ⟨(some 35), .iaddr 1 (.tmp 28) (.tmp 32), none⟩,
        ⟨none, .store 1 (.tmp 35) (.tmp 34), none⟩] [0, 2, 6, 7]))
   (.reg [
       ⟨(some 23), .mv (.tmp 7), none⟩,
       ⟨(some 24), .bin .add (.tmp 23) (.const (.int .i64 1)), none⟩,
       ⟨(some 7), .mv (.tmp 24), none⟩] [0, 2, 6, 7]))))))
 (.seq (.reg [
     ⟨(some 8), .mv (.const (.int .i64 0)), none⟩] [0, 2, 6, 8])
 (.block 2 (.loop [0, 2, 6, 8]
   (.seq (.seq (.reg [
       ⟨(some 36), .mv (.tmp 8), none⟩,
       ⟨(some 37), .mv (.tmp 0), none⟩,
       ⟨(some 38), .nilc (.tmp 37), none⟩,
       ⟨(some 39), .faddr 0 (.tmp 38), none⟩,
       ⟨(some 40), .load 1 false (.tmp 39), none⟩,
       ⟨(some 41), .nilc (.tmp 40), none⟩,
       ⟨(some 42), .faddr 1 (.tmp 41), none⟩,
       ⟨(some 43), .load 1 false (.tmp 42), none⟩,
       ⟨(some 44), .len (.tmp 43), none⟩,
       ⟨(some 45), .bin .lss (.tmp 36) (.tmp 44), none⟩] [0, 2, 6, 8, 45])
   (.cond (.tmp 45)
    (.skip)
    (.exit 2)))
   (.seq (.block 3 (.seq (.reg [
        ⟨(some 48), .mv (.tmp 0), none⟩,
        ⟨(some 49), .nilc (.tmp 48), none⟩,
        ⟨(some 50), .faddr 0 (.tmp 49), none⟩,
        ⟨(some 51), .load 1 false (.tmp 50), none⟩,
        ⟨(some 52), .nilc (.tmp 51), none⟩,
        ⟨(some 53), .faddr 1 (.tmp 52), none⟩,
        ⟨(some 54), .load 1 false (.tmp 53), none⟩,
        ⟨(some 55), .mv (.tmp 8), none⟩,
        ⟨(some 56), .iaddr 1 (.tmp 54) (.tmp 55), none⟩,
        ⟨(some 57), .load 1 false (.tmp 56), none⟩,
        ⟨(some 58), .mv (.tmp 6), none⟩,
        ⟨(some 59), .call 142 [(.tmp 57), (.tmp 58)], none⟩] [0, 2, 6, 8, 59])
    (.cond (.tmp 59)
     (.reg [
         ⟨(some 60), .mv (.tmp 0), none⟩,
         ⟨(some 61), .nilc (.tmp 60), none⟩,
         ⟨(some 62), .faddr 2 (.tmp 61), none⟩,
         ⟨(some 63), .load 1 false (.tmp 62), none⟩,
         ⟨(some 64), .mv (.tmp 8), none⟩,
         ⟨(some 65), .iaddr 1 (.tmp 63) (.tmp 64), none⟩,
         ⟨(some 66), .load 1 false (.tmp 65), none⟩,
         ⟨(some 67), .mv (.tmp 2), none⟩,
         ⟨(some 68), .bin .add (.tmp 66) (.tmp 67), none⟩,
         ⟨(some 69), .iaddr 1 (.tmp 63) (.tmp 64), none⟩,
         ⟨none, .store 1 (.tmp 69) (.tmp 68), none⟩] [0, 2, 6, 8])
     (.skip))))
   (.reg [
       ⟨(some 46), .mv (.tmp 8), none⟩,
       ⟨(some 47), .bin .add (.tmp 46) (.const (.int .i64 1)), none⟩,
       ⟨(some 8), .mv (.tmp 47), none⟩] [0, 2, 6, 8])))))))
theorem s_spec_l24Search_mark : stripF Try.prog 123 [[0, 2, 6], [0, 2, 6, 7], [0, 2, 6, 7], [0, 2, 6, 7, 22], [0, 2, 6, 7], [0, 2, 6, 7], [0, 2, 6, 8], [0, 2, 6, 8], [0, 2, 6, 8, 45], [0, 2, 6, 8, 59], [0, 2, 6, 8], [0, 2, 6, 8]] = some (c_spec_l24Search_mark, [], 70) := by kernel_rfl
abbrev tySp : Nat := 96
abbrev spB (p pc n m : Nat) (v : AV) (cnt nodes b : Int) : Blk := ⟨0, tySp, 1, [.pc pc 0 0, .nm (p + 1) 0 0 n, .nm (p + 2) 0 0 m, v, nilS, I cnt, I nodes, I b, I 0]⟩
structure SpH (H : List Blk) (p pc n : Nat) (O : List (List Int)) (ds : List Bool) (os : List Int) (v : AV) (cnt nodes b : Int) : Prop where
  lt : pc < p
  box : H[p]? = some (spB p pc n O.length v cnt nodes b)
  cov : H[pc]? = some ⟨0, 45, 1, [I n, ilSS O]⟩
  done : H[p + 1]? = some ⟨0, 4, 1, ds.map Bv⟩
  off : H[p + 2]? = some ⟨0, 2, 1, os.map I⟩
  dl : ds.length = n
  ol : os.length = O.length
def offTo (O : List (List Int)) (os : List Int) (k : Int) (by_ : Int) (i : Nat) : List Int := (List.range O.length).map fun (j : Nat) => if j < i ∧ meetC O j k = true then os.getD j 0 + by_ else os.getD j 0
theorem offTo_len (O : List (List Int)) (os : List Int) (k by_ : Int) (i : Nat) : (offTo O os k by_ i).length = O.length := by simp [offTo]
theorem offTo_zero {O : List (List Int)} {os : List Int} {k by_ : Int} (h : os.length = O.length) : offTo O os k by_ 0 = os := by
  refine List.ext_getElem? fun j => ?_
  unfold offTo
  rw [List.getElem?_map]
  by_cases hj : j < O.length
  · rw [List.getElem?_range hj, List.getElem?_eq_getElem (by omega)]
    simp only [Option.map_some]
    rw [if_neg (by omega), getD_get (by omega)]
  · rw [List.getElem?_eq_none (by simp; omega), List.getElem?_eq_none (by omega)]; rfl
theorem offTo_all (O : List (List Int)) (os : List Int) (k by_ : Int) : offTo O os k by_ O.length = offBy O os k by_ := by
  unfold offTo offBy
  refine List.map_congr_left fun j hj => ?_
  have hj := List.mem_range.1 hj
  by_cases hm : meetC O j k = true
  · rw [if_pos ⟨hj, hm⟩, if_pos hm]
  · rw [if_neg (fun h => hm h.2), if_neg hm]
theorem offTo_skip {O : List (List Int)} {os : List Int} {k by_ : Int} {i : Nat} (hm : meetC O i k = false) : offTo O os k by_ (i + 1) = offTo O os k by_ i := by
  unfold offTo
  refine List.map_congr_left fun j _ => ?_
  by_cases hj : j < i ∧ meetC O j k = true
  · rw [if_pos hj, if_pos ⟨by omega, hj.2⟩]
  · rw [if_neg hj, if_neg]
    rintro ⟨h1, h2⟩
    by_cases e : j = i
    · subst e; rw [hm] at h2; cases h2
    · exact hj ⟨by omega, h2⟩
theorem offTo_get {O : List (List Int)} {os : List Int} {k by_ : Int} {i : Nat} (hi : i < O.length) : (offTo O os k by_ i).getD i 0 = os.getD i 0 := by
  rw [getD_get (by rw [offTo_len]; exact hi)]
  simp [offTo]
theorem offTo_put {O : List (List Int)} {os : List Int} {k by_ : Int} {i : Nat} (hm : meetC O i k = true) : (offTo O os k by_ i).set i (os.getD i 0 + by_) = offTo O os k by_ (i + 1) := by
  refine List.ext_getElem? fun j => ?_
  rw [List.getElem?_set, offTo_len]
  unfold offTo
  rw [List.getElem?_map, List.getElem?_map]
  by_cases hj : j < O.length
  · rw [List.getElem?_range hj]
    simp only [Option.map_some]
    split
    · rename_i e; subst e
      rw [if_pos hj, if_pos ⟨by omega, hm⟩]
    · rename_i e
      congr 1
      by_cases h2 : j < i ∧ meetC O j k = true
      · rw [if_pos h2, if_pos ⟨by omega, h2.2⟩]
      · rw [if_neg h2, if_neg (fun h => h2 ⟨by omega, h.2⟩)]
  · rw [List.getElem?_eq_none (by simp; omega)]
    split
    · rw [if_neg (by omega)]; rfl
    · rfl
section
variable {H : List Blk} {p pc n : Nat} {O : List (List Int)} {ds : List Bool} {os : List Int} {v : AV} {cnt nodes b : Int}
theorem SpH.setD (h : SpH H p pc n O ds os v cnt nodes b) {ds' : List Bool} (hl : ds'.length = n) : SpH (H.set (p + 1) ⟨0, 4, 1, ds'.map Bv⟩) p pc n O ds' os v cnt nodes b := by
  have := h.lt
  exact ⟨h.lt, by rw [List.getElem?_set_ne (by omega)]; exact h.box, by rw [List.getElem?_set_ne (by omega)]; exact h.cov, List.getElem?_set_self (List.getElem?_eq_some_iff.1 h.done).1, by rw [List.getElem?_set_ne (by omega)]; exact h.off, hl, h.ol⟩
theorem SpH.setO (h : SpH H p pc n O ds os v cnt nodes b) {os' : List Int} (hl : os'.length = O.length) : SpH (H.set (p + 2) ⟨0, 2, 1, os'.map I⟩) p pc n O ds os' v cnt nodes b := by
  have := h.lt
  exact ⟨h.lt, by rw [List.getElem?_set_ne (by omega)]; exact h.box, by rw [List.getElem?_set_ne (by omega)]; exact h.cov, by rw [List.getElem?_set_ne (by omega)]; exact h.done, List.getElem?_set_self (List.getElem?_eq_some_iff.1 h.off).1, h.dl, hl⟩
theorem SpH.setB (h : SpH H p pc n O ds os v cnt nodes b) (v' : AV) (cnt' nodes' : Int) : SpH (H.set p (spB p pc n O.length v' cnt' nodes' b)) p pc n O ds os v' cnt' nodes' b := by
  have := h.lt
  exact ⟨h.lt, List.getElem?_set_self (List.getElem?_eq_some_iff.1 h.box).1, by rw [List.getElem?_set_ne (by omega)]; exact h.cov, by rw [List.getElem?_set_ne (by omega)]; exact h.done, by rw [List.getElem?_set_ne (by omega)]; exact h.off, h.dl, h.ol⟩
theorem SpH.same (h : SpH H p pc n O ds os v cnt nodes b) {H' : List Blk} (hs : ∀ j, j < p + 3 → H'[j]? = H[j]?) : SpH H' p pc n O ds os v cnt nodes b := by
  have := h.lt
  exact ⟨h.lt, by rw [hs _ (by omega)]; exact h.box, by rw [hs _ (by omega)]; exact h.cov, by rw [hs _ (by omega)]; exact h.done, by rw [hs _ (by omega)]; exact h.off, h.dl, h.ol⟩
theorem SpH.lens (h : SpH H p pc n O ds os v cnt nodes b) : p + 2 < H.length := (List.getElem?_eq_some_iff.1 h.off).1
theorem spMark_ok (h : SpH H p pc n O ds os v cnt nodes b) (hO : ∀ o ∈ O, ∀ x ∈ o, 0 ≤ x ∧ x < (n : Int)) (hr : ∀ x ∈ os, 0 ≤ x ∧ x ≤ 1000) {k : Nat} (hk : k < O.length) (by_ : Int) (hby : -1 ≤ by_ ∧ by_ ≤ 1) (hOl : O.length ≤ 256) :
    ACalls Try.prog f_spec_l24Search_mark [.pc p 0 0, I k, I by_] H (fun r H' => r = .tup [] ∧ SpH H' p pc n O (setAll ds (O.getD k []) (decide (0 < by_))) (offBy O os k by_) v cnt nodes b ∧ H'.length = H.length ∧ ∀ j, j ≠ p + 1 → j ≠ p + 2 → H'[j]? = H[j]?) := by
  have hpa := fun o => pc_alive (off := o) h.box
  have hpl := fun o => pc_ld (off := o) h.box
  have hca := fun o => pc_alive (off := o) h.cov
  have hcl := fun o => pc_ld (off := o) h.cov
  have hkm : O.getD k [] ∈ O := by rw [getD_get hk]; exact List.getElem_mem _
  have hom := hO _ hkm
  generalize hL : O.getD k [] = L at *
  refine ACalls.introB s_spec_l24Search_mark (by simp) ?_; intro hB hA; unfold c_spec_l24Search_mark; simp (config := { maxSteps := 1000000 }) (disch := (first | omega | (simp only [go_sem]; try omega))) only [go_sem, Nat.reduceAdd, Nat.reduceEqDiff, Nat.reduceLeDiff, Nat.reduceMul, Nat.reduceLT, reduceIte, Int.reduceToNat, w64_id, cast_succ]
  repeat (first | (with_reducible first | refine SW.seq ?_ | refine SW.block ?_ | refine SW.rowC ?_ | refine SW.skip ?_ | refine SW.exit ?_ | intro _ | refine And.intro (by omega) ?_) | simp (config := { maxSteps := 1000000 }) (disch := (first | omega | (simp only [go_sem]; try omega))) only [go_sem, Nat.reduceAdd, Nat.reduceEqDiff, Nat.reduceLeDiff, Nat.reduceMul, Nat.reduceLT, reduceIte, Int.reduceToNat, w64_id, cast_succ, hpa, hpl, hca, hcl, hL])
  refine SW.loopE (fun E0 H0 m E' H' => ∃ (pre post : List Int), L = pre ++ post ∧ m = post.length ∧ E' = aput E0 7 (I pre.length) ∧ SpH H' p pc n O (setAll ds pre (decide (0 < by_))) os v cnt nodes b ∧ H'.length = H.length ∧ ∀ j, j ≠ p + 1 → j ≠ p + 2 → H'[j]? = H[j]?) L.length
    ⟨[], L, rfl, rfl, rfl, h, rfl, fun _ _ _ => rfl⟩ ?_
  rintro m E' X ⟨pre, post, hpq, rfl, rfl, hX, hl, hf⟩
  have hpa1 := fun o => pc_alive (off := o) hX.box
  have hpl1 := fun o => pc_ld (off := o) hX.box
  have hv1 := view_nm (n := n) hX.done (by rw [List.length_map, hX.dl])
  simp (config := { maxSteps := 1000000 }) (disch := (first | omega | (simp only [go_sem]; try omega))) only [go_sem, Nat.reduceAdd, Nat.reduceEqDiff, Nat.reduceLeDiff, Nat.reduceMul, Nat.reduceLT, reduceIte, Int.reduceToNat, w64_id, cast_succ]
  repeat (first | (with_reducible first | refine SW.seq ?_ | refine SW.block ?_ | refine SW.rowC ?_ | refine SW.skip ?_ | refine SW.exit ?_ | intro _ | refine And.intro (by omega) ?_) | simp (config := { maxSteps := 1000000 }) (disch := (first | omega | (simp only [go_sem]; try omega))) only [go_sem, Nat.reduceAdd, Nat.reduceEqDiff, Nat.reduceLeDiff, Nat.reduceMul, Nat.reduceLT, reduceIte, Int.reduceToNat, w64_id, cast_succ])
  (first | refine SW.condD rfl (fun h2 => ?_) (fun h2 => ?_) | refine SW.condN rfl (fun h2 => ?_) (fun h2 => ?_) | refine SW.condNB rfl (fun h2 => ?_) (fun h2 => ?_) | refine SW.condB rfl (fun h2 => ?_) (fun h2 => ?_))
  · obtain ⟨x, post, rfl, hg, -⟩ := consOf (d := 0) hpq (by omega)
    have hxm := hom x (by rw [hpq]; simp)
    have hst := store_nm (c := Bv (decide (0 < by_))) hX.done (i := x.toNat) (by rw [List.length_map, hX.dl]; omega) (n := n)
    rw [← List.map_set, ← setAll_snoc] at hst
    have hX2 := hX.setD (ds' := setAll ds (pre ++ [x]) (decide (0 < by_))) (by rw [setAll_len]; exact h.dl)
    obtain ⟨x, rfl⟩ := Int.eq_ofNat_of_zero_le hxm.1
    rw [Int.toNat_natCast] at hst
    repeat (first | (with_reducible first | refine SW.seq ?_ | refine SW.block ?_ | refine SW.rowC ?_ | refine SW.skip ?_ | refine SW.exit ?_ | intro _ | refine And.intro (by omega) ?_) | simp (config := { maxSteps := 1000000 }) (disch := (first | omega | (simp only [go_sem]; try omega))) only [go_sem, Nat.reduceAdd, Nat.reduceEqDiff, Nat.reduceLeDiff, Nat.reduceMul, Nat.reduceLT, reduceIte, Int.reduceToNat, w64_id, cast_succ, hg, hpa1, hpl1, hv1, hst])
    refine SLoop.next post.length (by simp) ⟨pre ++ [(x : Int)], post, by simp [hpq], rfl, by simp [go_sem], hX2, by rw [List.length_set]; exact hl, fun j h1 h2 => by rw [List.getElem?_set_ne (by omega)]; exact hf j h1 h2⟩
  · obtain ⟨rfl, rfl⟩ := nilOf hpq (by omega)
    repeat (first | (with_reducible first | refine SW.seq ?_ | refine SW.block ?_ | refine SW.rowC ?_ | refine SW.skip ?_ | refine SW.exit ?_ | intro _ | refine And.intro (by omega) ?_) | simp (config := { maxSteps := 1000000 }) (disch := (first | omega | (simp only [go_sem]; try omega))) only [go_sem, Nat.reduceAdd, Nat.reduceEqDiff, Nat.reduceLeDiff, Nat.reduceMul, Nat.reduceLT, reduceIte, Int.reduceToNat, w64_id, cast_succ])
    have hm2 : ∀ i : Nat, meetC O i (k : Int) = (O.getD i []).any fun x => pre.contains x := fun i => by unfold meetC; rw [Int.toNat_natCast, hL]
    refine SW.loopE (fun E0 H0 m E' H' => ∃ (i : Nat), i ≤ O.length ∧ m = O.length - i ∧ E' = aput E0 8 (I i) ∧ SpH H' p pc n O (setAll ds pre (decide (0 < by_))) (offTo O os (k : Int) by_ i) v cnt nodes b ∧ H'.length = H.length ∧ ∀ j, j ≠ p + 1 → j ≠ p + 2 → H'[j]? = H[j]?) O.length
      ⟨0, by omega, by omega, rfl, by rw [offTo_zero h.ol]; exact hX, hl, hf⟩ ?_
    rintro m E' Y ⟨i, hi, rfl, rfl, hY, hl2, hf2⟩
    have hpa2 := fun o => pc_alive (off := o) hY.box
    have hpl2 := fun o => pc_ld (off := o) hY.box
    have hca2 := fun o => pc_alive (off := o) hY.cov
    have hcl2 := fun o => pc_ld (off := o) hY.cov
    have hv2 := view_nm (n := O.length) hY.off (by rw [List.length_map, offTo_len])
    simp (config := { maxSteps := 1000000 }) (disch := (first | omega | (simp only [go_sem]; try omega))) only [go_sem, Nat.reduceAdd, Nat.reduceEqDiff, Nat.reduceLeDiff, Nat.reduceMul, Nat.reduceLT, reduceIte, Int.reduceToNat, w64_id, cast_succ]
    repeat (first | (with_reducible first | refine SW.seq ?_ | refine SW.block ?_ | refine SW.rowC ?_ | refine SW.skip ?_ | refine SW.exit ?_ | intro _ | refine And.intro (by omega) ?_) | simp (config := { maxSteps := 1000000 }) (disch := (first | omega | (simp only [go_sem]; try omega))) only [go_sem, Nat.reduceAdd, Nat.reduceEqDiff, Nat.reduceLeDiff, Nat.reduceMul, Nat.reduceLT, reduceIte, Int.reduceToNat, w64_id, cast_succ, hpa2, hpl2, hca2, hcl2])
    (first | refine SW.condD rfl (fun h3 => ?_) (fun h3 => ?_) | refine SW.condN rfl (fun h3 => ?_) (fun h3 => ?_) | refine SW.condNB rfl (fun h3 => ?_) (fun h3 => ?_) | refine SW.condB rfl (fun h3 => ?_) (fun h3 => ?_))
    · have hin : i < O.length := by omega
      have hmt := l24Meets_fn (O.getD i []) pre
      rw [← hm2] at hmt
      have hg : ((offTo O os (k : Int) by_ i).map I)[i]? = some (I (os.getD i 0)) := by
        rw [List.getElem?_map, List.getElem?_eq_getElem (by rw [offTo_len]; exact hin), ← getD_get (d := 0) (by rw [offTo_len]; exact hin), offTo_get hin]; rfl
      have hor : 0 ≤ os.getD i 0 ∧ os.getD i 0 ≤ 1000 := hr _ (by rw [getD_get (by rw [h.ol]; exact hin)]; exact List.getElem_mem _)
      cases hmm : meetC O i (k : Int)
      · rw [hmm] at hmt
        repeat (first | (with_reducible first | refine SW.seq ?_ | refine SW.block ?_ | refine SW.rowC ?_ | refine SW.skip ?_ | refine SW.exit ?_ | refine PFn.use (hmt) ?_ | refine PFn.useq (hmt) ?_ | intro _ | refine And.intro (by omega) ?_) | simp (config := { maxSteps := 1000000 }) (disch := (first | omega | (simp only [go_sem]; try omega))) only [go_sem, Nat.reduceAdd, Nat.reduceEqDiff, Nat.reduceLeDiff, Nat.reduceMul, Nat.reduceLT, reduceIte, Int.reduceToNat, w64_id, cast_succ, hpa2, hpl2, hca2, hcl2])
        refine SW.condF rfl ?_
        repeat (first | (with_reducible first | refine SW.seq ?_ | refine SW.block ?_ | refine SW.rowC ?_ | refine SW.skip ?_ | refine SW.exit ?_ | intro _ | refine And.intro (by omega) ?_) | simp (config := { maxSteps := 1000000 }) (disch := (first | omega | (simp only [go_sem]; try omega))) only [go_sem, Nat.reduceAdd, Nat.reduceEqDiff, Nat.reduceLeDiff, Nat.reduceMul, Nat.reduceLT, reduceIte, Int.reduceToNat, w64_id, cast_succ])
        refine SLoop.next (O.length - (i + 1)) (by omega) ⟨i + 1, by omega, rfl, by simp [go_sem], by rw [offTo_skip hmm]; exact hY, hl2, hf2⟩
      · rw [hmm] at hmt
        have hw : w64 (os.getD i 0 + by_) = os.getD i 0 + by_ := w64_id (by omega) (by omega)
        have hst := store_nm (c := I (os.getD i 0 + by_)) hY.off (i := i) (by rw [List.length_map, offTo_len]; exact hin) (n := O.length)
        rw [← List.map_set, offTo_put hmm] at hst
        have hY2 := hY.setO (os' := offTo O os (k : Int) by_ (i + 1)) (offTo_len _ _ _ _ _)
        repeat (first | (with_reducible first | refine SW.seq ?_ | refine SW.block ?_ | refine SW.rowC ?_ | refine SW.skip ?_ | refine SW.exit ?_ | refine PFn.use (hmt) ?_ | refine PFn.useq (hmt) ?_ | intro _ | refine And.intro (by omega) ?_) | simp (config := { maxSteps := 1000000 }) (disch := (first | omega | (simp only [go_sem]; try omega))) only [go_sem, Nat.reduceAdd, Nat.reduceEqDiff, Nat.reduceLeDiff, Nat.reduceMul, Nat.reduceLT, reduceIte, Int.reduceToNat, w64_id, cast_succ, hpa2, hpl2, hca2, hcl2])
        refine SW.condT rfl ?_
        repeat (first | (with_reducible first | refine SW.seq ?_ | refine SW.block ?_ | refine SW.rowC ?_ | refine SW.skip ?_ | refine SW.exit ?_ | intro _ | refine And.intro (by omega) ?_) | simp (config := { maxSteps := 1000000 }) (disch := (first | omega | (simp only [go_sem]; try omega))) only [go_sem, Nat.reduceAdd, Nat.reduceEqDiff, Nat.reduceLeDiff, Nat.reduceMul, Nat.reduceLT, reduceIte, Int.reduceToNat, w64_id, cast_succ, hpa2, hpl2, hv2, hg, hw, hst])
        refine SLoop.next (O.length - (i + 1)) (by omega) ⟨i + 1, by omega, rfl, by simp [go_sem], hY2, by rw [List.length_set]; exact hl2, fun j h1 h2 => by rw [List.getElem?_set_ne (by omega)]; exact hf2 j h1 h2⟩
    · have : i = O.length := by omega
      subst this
      repeat (first | (with_reducible first | refine SW.seq ?_ | refine SW.block ?_ | refine SW.rowC ?_ | refine SW.skip ?_ | refine SW.exit ?_ | intro _ | refine And.intro (by omega) ?_) | simp (config := { maxSteps := 1000000 }) (disch := (first | omega | (simp only [go_sem]; try omega))) only [go_sem, Nat.reduceAdd, Nat.reduceEqDiff, Nat.reduceLeDiff, Nat.reduceMul, Nat.reduceLT, reduceIte, Int.reduceToNat, w64_id, cast_succ])
      rw [offTo_all] at hY
      exact ⟨_, rfl, GR.of ⟨rfl, hY, hl2, hf2⟩⟩
end
end Go.Proofs.Ytpaagkipnlbibaa
