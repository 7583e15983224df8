/- Exact covers: the parts of the program's search. -/
import Derived.Test.YtnlfokkljgbaaaaProg
import Derived.KernelRfl
import Derived.Test.YtnlfokkljgbaaaazCA
import Derived.Test.YtnlfokkljgbaaaazUG
import Derived.Test.YtnlfokkljgbaaaazNF
set_option linter.unusedSimpArgs false
set_option linter.unusedVariables false
set_option maxHeartbeats 4000000
set_option maxRecDepth 100000
namespace Go.Proofs.Ytnlfokkljgbaaaa
open Go.Av
abbrev f_impl_coverer_mark : Nat := 80
def c_impl_coverer_mark : SC :=
 .seq (.reg [
     ⟨(some 8), .mv (.tmp 0), none⟩,
     ⟨(some 9), .nilc (.tmp 8), none⟩,
     ⟨(some 10), .faddr 2 (.tmp 9), none⟩,
     ⟨(some 11), .faddr 1 (.tmp 10), none⟩,
     ⟨(some 12), .load 1 false (.tmp 11), none⟩,
     ⟨(some 13), .mv (.tmp 1), none⟩,
     ⟨(some 14), .iaddr 1 (.tmp 12) (.tmp 13), none⟩,
     ⟨(some 15), .load 1 false (.tmp 14), none⟩,
     ⟨(some 16), .len (.tmp 15), none⟩,
     ⟨(some 17), .mv (.const (.int .i64 0)), none⟩] [0, 2, 15, 16, 17])
 (.block 0 (.loop [0, 2, 15, 16, 17]
   (.seq (.reg [
       ⟨(some 18), .bin .lss (.tmp 17) (.tmp 16), none⟩] [0, 2, 15, 16, 17, 18])
   (.seq (.cond (.tmp 18)
    (.skip)
    (.exit 0))
   (.seq (.block 1 (.seq (.reg [
        ⟨(some 19), .iaddr 1 (.tmp 15) (.tmp 17), none⟩,
        ⟨(some 20), .load 1 false (.tmp 19), none⟩,
        ⟨(some 7), .mv (.tmp 20), none⟩] [0, 2, 7, 15, 16, 17])
    (.reg [
        ⟨(some 21), .mv (.tmp 0), none⟩,
        ⟨(some 22), .nilc (.tmp 21), none⟩,
        ⟨(some 23), .faddr 6 (.tmp 22), none⟩,
        ⟨(some 24), .load 1 false (.tmp 23), none⟩,
        ⟨(some 25), .mv (.tmp 7), none⟩,
        ⟨(some 26), .mv (.tmp 2), none⟩,
        ⟨(some 27), .iaddr 1 (.tmp 24) (.tmp 25), none⟩,
        ⟨none, .store 1 (.tmp 27) (.tmp 26), none⟩] [0, 2, 15, 16, 17])))
   (.reg [
       ⟨(some 28), .bin .add (.tmp 17) (.const (.int .i64 1)), none⟩,
       ⟨(some 17), .mv (.tmp 28), none⟩] [0, 2, 15, 16, 17]))))))
theorem s_impl_coverer_mark : stripF Try.prog 80 [[0, 2, 15, 16, 17], [0, 2, 15, 16, 17], [0, 2, 15, 16, 17, 18], [0, 2, 7, 15, 16, 17], [0, 2, 15, 16, 17], [0, 2, 15, 16, 17]] = some (c_impl_coverer_mark, [], 29) := by kernel_rfl
abbrev f_impl_coverer_open : Nat := 97
def c_impl_coverer_open : SC :=
 .seq (.reg [
     ⟨(some 2), .box 56 (.tmp 0), none⟩,
     ⟨(some 4), .mv (.const (.bool false)), none⟩] [1, 2])
 (.seq (.reg [
     ⟨(some 5), .load 1 false (.tmp 2), none⟩,
     ⟨(some 6), .nilc (.tmp 5), none⟩,
     ⟨(some 7), .faddr 2 (.tmp 6), none⟩,
     ⟨(some 8), .faddr 1 (.tmp 7), none⟩,
     ⟨(some 9), .load 1 false (.tmp 8), none⟩,
     ⟨(some 10), .mv (.tmp 1), none⟩,
     ⟨(some 11), .iaddr 1 (.tmp 9) (.tmp 10), none⟩,
     ⟨(some 12), .load 1 false (.tmp 11), none⟩,
     ⟨(some 13), .mkf 111 [(.tmp 2)], none⟩,
     ⟨(some 14), .call 33 [(.tmp 12), (.tmp 13)], none⟩,
     ⟨(some 15), .un .not (.tmp 14), none⟩,
     ⟨(some 4), .mv (.tmp 15), none⟩] [4])
 (.ret))
theorem s_impl_coverer_open : stripF Try.prog 97 [[1, 2], [4]] = some (c_impl_coverer_open, [.tmp 4], 16) := by kernel_rfl
abbrev f_impl_coverer_open_c1 : Nat := 111
def c_impl_coverer_open_c1 : SC :=
 .seq (.reg [
     ⟨(some 3), .mv (.const (.bool false)), none⟩] [0, 1])
 (.seq (.reg [
     ⟨(some 4), .load 1 false (.tmp 1), none⟩,
     ⟨(some 5), .nilc (.tmp 4), none⟩,
     ⟨(some 6), .faddr 6 (.tmp 5), none⟩,
     ⟨(some 7), .load 1 false (.tmp 6), none⟩,
     ⟨(some 8), .mv (.tmp 0), none⟩,
     ⟨(some 9), .iaddr 1 (.tmp 7) (.tmp 8), none⟩,
     ⟨(some 10), .load 1 false (.tmp 9), none⟩,
     ⟨(some 3), .mv (.tmp 10), none⟩] [3])
 (.ret))
theorem s_impl_coverer_open_c1 : stripF Try.prog 111 [[0, 1], [3]] = some (c_impl_coverer_open_c1, [.tmp 3], 11) := by kernel_rfl
abbrev tyCv : Nat := 63
abbrev cvB (q n : Nat) (O W : List (List Int)) (one : Bool) (b0 : Nat) (st : VS) (v fv : AV) : Blk :=
  ⟨0, tyCv, 1, [I st.left, Bv st.spent, I n, ilSS O, ilSS W, Bv one, .nm q 0 0 n, v, I ((b0 - st.left : Nat) : Int), fv]⟩
structure CvH (H : List Blk) (q p n : Nat) (O W : List (List Int)) (one : Bool) (b0 : Nat) (D : List Int) (st : VS) (v fv : AV) : Prop where
  box : H[p]? = some (cvB q n O W one b0 st v fv)
  cov : H[q]? = some ⟨0, 4, 1, (marks n D).map Bv⟩
section
variable {H : List Blk} {q p n : Nat} {O W : List (List Int)} {one : Bool} {b0 : Nat} {D : List Int} {st : VS} {v fv : AV}
theorem CvH.append (h : CvH H q p n O W one b0 D st v fv) (ext : List Blk) : CvH (H ++ ext) q p n O W one b0 D st v fv := ⟨get_appU h.box ext, get_appU h.cov ext⟩
theorem CvH.view (h : CvH H q p n O W one b0 D st v fv) : aview H (.nm q 0 0 n) = some (n, (marks n D).map Bv) := view_nm h.cov (by rw [List.length_map, marks_length])
theorem marksB_get {n : Nat} {D : List Int} {x : Int} (h0 : 0 ≤ x) (h1 : x < n) : ((marks n D).map Bv)[x.toNat]? = some (Bv (D.contains x)) := by
  rw [List.getElem?_map, List.getElem?_eq_getElem (by rw [marks_length]; omega), ← getD_get (d := false) (by rw [marks_length]; omega), marks_get n D x h0 h1]; rfl
theorem cvOpen_c1_ok (h : CvH H q p n O W one b0 D st v fv) {bx tb : Nat} {x : Int} (h0 : 0 ≤ x) (h1 : x < n) (hb : H[bx]? = some ⟨0, tb, 1, [.pc p 0 0]⟩) :
    ACalls Try.prog f_impl_coverer_open_c1 [I x, .pc bx 0 0] H (fun r H' => r = Bv (D.contains x) ∧ H' = H) := by
  have hpa := fun o => pc_alive (off := o) h.box
  have hpl := fun o => pc_ld (off := o) h.box
  have hv := h.view
  have hg := marksB_get (D := D) h0 h1
  refine ACalls.introB s_impl_coverer_open_c1 (by simp) ?_; intro hB hA; unfold c_impl_coverer_open_c1; simp (config := { maxSteps := 1000000 }) (disch := (first | omega | (simp only [go_sem]; try omega))) only [go_sem, Nat.reduceAdd, Nat.reduceEqDiff, Nat.reduceLeDiff, Nat.reduceMul, Nat.reduceLT, reduceIte, Int.reduceToNat, w64_id, cast_succ]
  repeat (first | (with_reducible first | refine SW.seq ?_ | refine SW.block ?_ | refine SW.rowC ?_ | refine SW.skip ?_ | refine SW.exit ?_ | intro _ | refine And.intro (by omega) ?_) | simp (config := { maxSteps := 1000000 }) (disch := (first | omega | (simp only [go_sem]; try omega))) only [go_sem, Nat.reduceAdd, Nat.reduceEqDiff, Nat.reduceLeDiff, Nat.reduceMul, Nat.reduceLT, reduceIte, Int.reduceToNat, w64_id, cast_succ, pc_ld hb, pc_alive hb, hpa, hpl, hv, hg])
  refine SW.ret ?_; (try simp only [go_sem]); (first | refine FunPost.one ?_ | refine FunPost.two ?_ | refine FunPost.three ?_); (try simp (config := { maxSteps := 1000000 }) (disch := (first | omega | (simp only [go_sem]; try omega))) only [go_sem, Nat.reduceAdd, Nat.reduceEqDiff, Nat.reduceLeDiff, Nat.reduceMul, Nat.reduceLT, reduceIte, Int.reduceToNat, w64_id, cast_succ])
  exact GR.of ⟨rfl, rfl⟩
theorem cvOpen_ok (h : CvH H q p n O W one b0 D st v fv) {k : Int} (hk : 0 ≤ k ∧ k < O.length) (hO : ∀ x ∈ O.getD k.toNat [], 0 ≤ x ∧ x < (n : Int)) :
    ACalls Try.prog f_impl_coverer_open [.pc p 0 0, I k] H (fun r H' => r = Bv (opI O D k) ∧ H' = H) := by
  have hpa := fun o ext => pc_alive (off := o) (h.append ext).box
  have hpl := fun o ext => pc_ld (off := o) (h.append ext).box
  obtain ⟨k, rfl⟩ := Int.eq_ofNat_of_zero_le hk.1
  rw [Int.toNat_natCast] at hO
  refine ACalls.introB s_impl_coverer_open (by simp) ?_; intro hB hA; unfold c_impl_coverer_open; simp (config := { maxSteps := 1000000 }) (disch := (first | omega | (simp only [go_sem]; try omega))) only [go_sem, Nat.reduceAdd, Nat.reduceEqDiff, Nat.reduceLeDiff, Nat.reduceMul, Nat.reduceLT, reduceIte, Int.reduceToNat, w64_id, cast_succ]
  have hpp : partsOf (AV.pc p 0 0) = [AV.pc p 0 0] := rfl
  have hp1 : (AV.pc p 0 0).cell1 = true := rfl
  repeat (first | (with_reducible first | refine SW.seq ?_ | refine SW.block ?_ | refine SW.rowC ?_ | refine SW.skip ?_ | refine SW.exit ?_ | intro _ | refine And.intro (by omega) ?_) | simp (config := { maxSteps := 1000000 }) (disch := (first | omega | (simp only [go_sem]; try omega))) only [go_sem, Nat.reduceAdd, Nat.reduceEqDiff, Nat.reduceLeDiff, Nat.reduceMul, Nat.reduceLT, reduceIte, Int.reduceToNat, w64_id, cast_succ, hpp, hp1])
  repeat (first | (with_reducible first | refine SW.seq ?_ | refine SW.block ?_ | refine SW.rowC ?_ | refine SW.skip ?_ | refine SW.exit ?_ | intro _ | refine And.intro (by omega) ?_) | simp (config := { maxSteps := 1000000 }) (disch := (first | omega | (simp only [go_sem]; try omega))) only [go_sem, Nat.reduceAdd, Nat.reduceEqDiff, Nat.reduceLeDiff, Nat.reduceMul, Nat.reduceLT, reduceIte, Int.reduceToNat, w64_id, cast_succ, hpa, hpl])
  refine (conS_ok I _ _ (O.getD k []) rfl _ _ (by kernel_rfl) (fun x => D.contains x) (fun x hx => cvOpen_c1_ok (h.append _) (hO x hx).1 (hO x hx).2 (bx := H.length) (by rw [List.getElem?_append_right (Nat.le_refl _), Nat.sub_self]; rfl))).mono ?_
  rintro r H' ⟨rfl, rfl⟩
  repeat (first | (with_reducible first | refine SW.seq ?_ | refine SW.block ?_ | refine SW.rowC ?_ | refine SW.skip ?_ | refine SW.exit ?_ | intro _ | refine And.intro (by omega) ?_) | simp (config := { maxSteps := 1000000 }) (disch := (first | omega | (simp only [go_sem]; try omega))) only [go_sem, Nat.reduceAdd, Nat.reduceEqDiff, Nat.reduceLeDiff, Nat.reduceMul, Nat.reduceLT, reduceIte, Int.reduceToNat, w64_id, cast_succ])
  refine SW.ret ?_; (try simp only [go_sem]); (first | refine FunPost.one ?_ | refine FunPost.two ?_ | refine FunPost.three ?_); (try simp (config := { maxSteps := 1000000 }) (disch := (first | omega | (simp only [go_sem]; try omega))) only [go_sem, Nat.reduceAdd, Nat.reduceEqDiff, Nat.reduceLeDiff, Nat.reduceMul, Nat.reduceLT, reduceIte, Int.reduceToNat, w64_id, cast_succ])
  exact GR.froz (froz_B' _) ⟨rfl, rfl⟩
theorem cvMarkT_ok (h : CvH H q p n O W one b0 D st v fv) (hqp : q ≠ p) {k : Int} (hk : 0 ≤ k ∧ k < O.length) (hO : ∀ x ∈ O.getD k.toNat [], 0 ≤ x ∧ x < (n : Int)) :
    ACalls Try.prog f_impl_coverer_mark [.pc p 0 0, I k, Bv true] H (fun r H' => r = .tup [] ∧ H' = H.set q ⟨0, 4, 1, (marks n (D ++ O.getD k.toNat [])).map Bv⟩) := by
  have hpa := fun o => pc_alive (off := o) h.box
  have hpl := fun o => pc_ld (off := o) h.box
  obtain ⟨k, rfl⟩ := Int.eq_ofNat_of_zero_le hk.1
  rw [Int.toNat_natCast] at hO ⊢
  have hkO : k < O.length := by omega
  have hlt := (List.getElem?_eq_some_iff.1 h.cov).1
  have hself : H.set q ⟨0, 4, 1, (marks n D).map Bv⟩ = H := by
    obtain ⟨g1, g2⟩ := List.getElem?_eq_some_iff.1 h.cov
    rw [← g2]; exact List.set_getElem_self g1
  generalize hL : O.getD k [] = L at *
  refine ACalls.introB s_impl_coverer_mark (by simp) ?_; intro hB hA; unfold c_impl_coverer_mark; simp (config := { maxSteps := 1000000 }) (disch := (first | omega | (simp only [go_sem]; try omega))) only [go_sem, Nat.reduceAdd, Nat.reduceEqDiff, Nat.reduceLeDiff, Nat.reduceMul, Nat.reduceLT, reduceIte, Int.reduceToNat, w64_id, cast_succ]
  repeat (first | (with_reducible first | refine SW.seq ?_ | refine SW.block ?_ | refine SW.rowC ?_ | refine SW.skip ?_ | refine SW.exit ?_ | intro _ | refine And.intro (by omega) ?_) | simp (config := { maxSteps := 1000000 }) (disch := (first | omega | (simp only [go_sem]; try omega))) only [go_sem, Nat.reduceAdd, Nat.reduceEqDiff, Nat.reduceLeDiff, Nat.reduceMul, Nat.reduceLT, reduceIte, Int.reduceToNat, w64_id, cast_succ, hpa, hpl, hL])
  refine SW.loopE (fun E0 H0 m E' H' => ∃ (pre post : List Int), L = pre ++ post ∧ m = post.length ∧ E' = aput E0 17 (I pre.length) ∧ H' = H.set q ⟨0, 4, 1, (marks n (D ++ pre)).map Bv⟩) L.length
    ⟨[], L, rfl, rfl, rfl, by rw [List.append_nil, hself]⟩ ?_
  rintro m E' H' ⟨pre, post, hpq, rfl, rfl, rfl⟩
  have hb2 : (H.set q ⟨0, 4, 1, (marks n (D ++ pre)).map Bv⟩)[p]? = some (cvB q n O W one b0 st v fv) := by rw [List.getElem?_set_ne hqp]; exact h.box
  have hq2 : (H.set q ⟨0, 4, 1, (marks n (D ++ pre)).map Bv⟩)[q]? = some ⟨0, 4, 1, (marks n (D ++ pre)).map Bv⟩ := List.getElem?_set_self hlt
  have hpa2 := fun o => pc_alive (off := o) hb2
  have hpl2 := fun o => pc_ld (off := o) hb2
  have hv2 := view_nm (n := n) hq2 (by rw [List.length_map, marks_length])
  simp (config := { maxSteps := 1000000 }) (disch := (first | omega | (simp only [go_sem]; try omega))) only [go_sem, Nat.reduceAdd, Nat.reduceEqDiff, Nat.reduceLeDiff, Nat.reduceMul, Nat.reduceLT, reduceIte, Int.reduceToNat, w64_id, cast_succ]
  repeat (first | (with_reducible first | refine SW.seq ?_ | refine SW.block ?_ | refine SW.rowC ?_ | refine SW.skip ?_ | refine SW.exit ?_ | intro _ | refine And.intro (by omega) ?_) | simp (config := { maxSteps := 1000000 }) (disch := (first | omega | (simp only [go_sem]; try omega))) only [go_sem, Nat.reduceAdd, Nat.reduceEqDiff, Nat.reduceLeDiff, Nat.reduceMul, Nat.reduceLT, reduceIte, Int.reduceToNat, w64_id, cast_succ])
  (first | refine SW.condD rfl (fun h2 => ?_) (fun h2 => ?_) | refine SW.condN rfl (fun h2 => ?_) (fun h2 => ?_) | refine SW.condNB rfl (fun h2 => ?_) (fun h2 => ?_) | refine SW.condB rfl (fun h2 => ?_) (fun h2 => ?_))
  · obtain ⟨x, post, rfl, hg, -⟩ := consOf (d := 0) hpq (by omega)
    have hxm := hO x (by rw [hpq]; simp)
    have hst := store_nm (c := Bv true) hq2 (i := x.toNat) (by rw [List.length_map, marks_length]; omega) (n := n)
    rw [List.set_set, ← List.map_set, marks_set _ _ _ hxm.1, List.append_assoc] at hst
    obtain ⟨x, rfl⟩ := Int.eq_ofNat_of_zero_le hxm.1
    rw [Int.toNat_natCast] at hst
    repeat (first | (with_reducible first | refine SW.seq ?_ | refine SW.block ?_ | refine SW.rowC ?_ | refine SW.skip ?_ | refine SW.exit ?_ | intro _ | refine And.intro (by omega) ?_) | simp (config := { maxSteps := 1000000 }) (disch := (first | omega | (simp only [go_sem]; try omega))) only [go_sem, Nat.reduceAdd, Nat.reduceEqDiff, Nat.reduceLeDiff, Nat.reduceMul, Nat.reduceLT, reduceIte, Int.reduceToNat, w64_id, cast_succ, hg, hpa2, hpl2, hv2, hst])
    refine SLoop.next post.length (by simp) ⟨pre ++ [(x : Int)], post, by simp [hpq], rfl, by simp [go_sem], rfl⟩
  · obtain ⟨rfl, rfl⟩ := nilOf hpq (by omega)
    repeat (first | (with_reducible first | refine SW.seq ?_ | refine SW.block ?_ | refine SW.rowC ?_ | refine SW.skip ?_ | refine SW.exit ?_ | intro _ | refine And.intro (by omega) ?_) | simp (config := { maxSteps := 1000000 }) (disch := (first | omega | (simp only [go_sem]; try omega))) only [go_sem, Nat.reduceAdd, Nat.reduceEqDiff, Nat.reduceLeDiff, Nat.reduceMul, Nat.reduceLT, reduceIte, Int.reduceToNat, w64_id, cast_succ])
    exact ⟨_, rfl, GR.of ⟨rfl, rfl⟩⟩
def marksF (n : Nat) (D o pre : List Int) : List Bool := (List.range n).map fun (i : Nat) => D.contains (i : Int) || (o.contains (i : Int) && !pre.contains (i : Int))
theorem marksF_length (n : Nat) (D o pre : List Int) : (marksF n D o pre).length = n := by simp [marksF]
theorem marksF_nil (n : Nat) (D o : List Int) : marksF n D o [] = marks n (D ++ o) := by
  unfold marksF marks
  refine List.map_congr_left fun i _ => ?_
  rw [List.contains_append]; simp
theorem marksF_all (n : Nat) (D o : List Int) : marksF n D o o = marks n D := by
  unfold marksF marks
  refine List.map_congr_left fun i _ => ?_
  cases D.contains (i : Int) <;> simp
theorem marksF_set {n : Nat} {D o pre : List Int} {x : Nat} (hx : D.contains (x : Int) = false) : (marksF n D o pre).set x false = marksF n D o (pre ++ [(x : Int)]) := by
  refine List.ext_getElem? fun i => ?_
  rw [List.getElem?_set, marksF_length]
  unfold marksF
  rw [List.getElem?_map, List.getElem?_map]
  by_cases hi : i < n
  · rw [List.getElem?_range hi]
    split
    · rename_i e; subst e
      rw [if_pos hi]
      simp only [Option.map_some, hx]
      simp
    · rename_i e
      simp only [Option.map_some, Option.some.injEq]
      have : (pre ++ [(x : Int)]).contains (i : Int) = pre.contains (i : Int) := by
        rw [Bool.eq_iff_iff, List.contains_iff_mem, List.contains_iff_mem, List.mem_append, List.mem_singleton]
        constructor
        · rintro (h | h)
          · exact h
          · omega
        · exact .inl
      rw [this]
  · rw [List.getElem?_eq_none (by simp; omega)]
    split
    · rw [if_neg (by omega)]; rfl
    · rfl
theorem cvMarkF_ok (hqp : q ≠ p) {k : Int} (hk : 0 ≤ k ∧ k < O.length) (hO : ∀ x ∈ O.getD k.toNat [], 0 ≤ x ∧ x < (n : Int)) (hd : ∀ x ∈ O.getD k.toNat [], D.contains x = false) (h : CvH H q p n O W one b0 (D ++ O.getD k.toNat []) st v fv) :
    ACalls Try.prog f_impl_coverer_mark [.pc p 0 0, I k, Bv false] H (fun r H' => r = .tup [] ∧ H' = H.set q ⟨0, 4, 1, (marks n D).map Bv⟩) := by
  have hpa := fun o => pc_alive (off := o) h.box
  have hpl := fun o => pc_ld (off := o) h.box
  obtain ⟨k, rfl⟩ := Int.eq_ofNat_of_zero_le hk.1
  rw [Int.toNat_natCast] at hO hd h
  have hkO : k < O.length := by omega
  have hlt := (List.getElem?_eq_some_iff.1 h.cov).1
  generalize hL : O.getD k [] = L at *
  have hself : H.set q ⟨0, 4, 1, (marks n (D ++ L)).map Bv⟩ = H := by
    obtain ⟨g1, g2⟩ := List.getElem?_eq_some_iff.1 h.cov
    rw [← g2]; exact List.set_getElem_self g1
  refine ACalls.introB s_impl_coverer_mark (by simp) ?_; intro hB hA; unfold c_impl_coverer_mark; simp (config := { maxSteps := 1000000 }) (disch := (first | omega | (simp only [go_sem]; try omega))) only [go_sem, Nat.reduceAdd, Nat.reduceEqDiff, Nat.reduceLeDiff, Nat.reduceMul, Nat.reduceLT, reduceIte, Int.reduceToNat, w64_id, cast_succ]
  repeat (first | (with_reducible first | refine SW.seq ?_ | refine SW.block ?_ | refine SW.rowC ?_ | refine SW.skip ?_ | refine SW.exit ?_ | intro _ | refine And.intro (by omega) ?_) | simp (config := { maxSteps := 1000000 }) (disch := (first | omega | (simp only [go_sem]; try omega))) only [go_sem, Nat.reduceAdd, Nat.reduceEqDiff, Nat.reduceLeDiff, Nat.reduceMul, Nat.reduceLT, reduceIte, Int.reduceToNat, w64_id, cast_succ, hpa, hpl, hL])
  refine SW.loopE (fun E0 H0 m E' H' => ∃ (pre post : List Int), L = pre ++ post ∧ m = post.length ∧ E' = aput E0 17 (I pre.length) ∧ H' = H.set q ⟨0, 4, 1, (marksF n D L pre).map Bv⟩) L.length
    ⟨[], L, rfl, rfl, rfl, by rw [marksF_nil, hself]⟩ ?_
  rintro m E' H' ⟨pre, post, hpq, rfl, rfl, rfl⟩
  have hb2 : (H.set q ⟨0, 4, 1, (marksF n D L pre).map Bv⟩)[p]? = some (cvB q n O W one b0 st v fv) := by rw [List.getElem?_set_ne hqp]; exact h.box
  have hq2 : (H.set q ⟨0, 4, 1, (marksF n D L pre).map Bv⟩)[q]? = some ⟨0, 4, 1, (marksF n D L pre).map Bv⟩ := List.getElem?_set_self hlt
  have hpa2 := fun o => pc_alive (off := o) hb2
  have hpl2 := fun o => pc_ld (off := o) hb2
  have hv2 := view_nm (n := n) hq2 (by rw [List.length_map, marksF_length])
  simp (config := { maxSteps := 1000000 }) (disch := (first | omega | (simp only [go_sem]; try omega))) only [go_sem, Nat.reduceAdd, Nat.reduceEqDiff, Nat.reduceLeDiff, Nat.reduceMul, Nat.reduceLT, reduceIte, Int.reduceToNat, w64_id, cast_succ]
  repeat (first | (with_reducible first | refine SW.seq ?_ | refine SW.block ?_ | refine SW.rowC ?_ | refine SW.skip ?_ | refine SW.exit ?_ | intro _ | refine And.intro (by omega) ?_) | simp (config := { maxSteps := 1000000 }) (disch := (first | omega | (simp only [go_sem]; try omega))) only [go_sem, Nat.reduceAdd, Nat.reduceEqDiff, Nat.reduceLeDiff, Nat.reduceMul, Nat.reduceLT, reduceIte, Int.reduceToNat, w64_id, cast_succ])
  (first | refine SW.condD rfl (fun h2 => ?_) (fun h2 => ?_) | refine SW.condN rfl (fun h2 => ?_) (fun h2 => ?_) | refine SW.condNB rfl (fun h2 => ?_) (fun h2 => ?_) | refine SW.condB rfl (fun h2 => ?_) (fun h2 => ?_))
  · obtain ⟨x, post, rfl, hg, -⟩ := consOf (d := 0) hpq (by omega)
    have hxm := hO x (by rw [hpq]; simp)
    have hxd := hd x (by rw [hpq]; simp)
    obtain ⟨x, rfl⟩ := Int.eq_ofNat_of_zero_le hxm.1
    have hst := store_nm (c := Bv false) hq2 (i := x) (by rw [List.length_map, marksF_length]; omega) (n := n)
    rw [List.set_set, ← List.map_set, marksF_set hxd] at hst
    repeat (first | (with_reducible first | refine SW.seq ?_ | refine SW.block ?_ | refine SW.rowC ?_ | refine SW.skip ?_ | refine SW.exit ?_ | intro _ | refine And.intro (by omega) ?_) | simp (config := { maxSteps := 1000000 }) (disch := (first | omega | (simp only [go_sem]; try omega))) only [go_sem, Nat.reduceAdd, Nat.reduceEqDiff, Nat.reduceLeDiff, Nat.reduceMul, Nat.reduceLT, reduceIte, Int.reduceToNat, w64_id, cast_succ, hg, hpa2, hpl2, hv2, hst])
    refine SLoop.next post.length (by simp) ⟨pre ++ [(x : Int)], post, by simp [hpq], rfl, by simp [go_sem], rfl⟩
  · obtain ⟨rfl, rfl⟩ := nilOf hpq (by omega)
    repeat (first | (with_reducible first | refine SW.seq ?_ | refine SW.block ?_ | refine SW.rowC ?_ | refine SW.skip ?_ | refine SW.exit ?_ | intro _ | refine And.intro (by omega) ?_) | simp (config := { maxSteps := 1000000 }) (disch := (first | omega | (simp only [go_sem]; try omega))) only [go_sem, Nat.reduceAdd, Nat.reduceEqDiff, Nat.reduceLeDiff, Nat.reduceMul, Nat.reduceLT, reduceIte, Int.reduceToNat, w64_id, cast_succ])
    refine ⟨_, rfl, GR.of ⟨rfl, ?_⟩⟩
    rw [marksF_all]
end
end Go.Proofs.Ytnlfokkljgbaaaa
