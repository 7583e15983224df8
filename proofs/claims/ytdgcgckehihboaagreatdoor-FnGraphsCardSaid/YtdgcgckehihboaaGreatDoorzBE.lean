/- The search in sorted edges, of the library. -/
import Derived.Test.YtdgcgckehihboaaGreatDoorProg
import Derived.KernelRfl
import Derived.Test.YtdgcgckehihboaaGreatDoorzE4
import Derived.Test.YtdgcgckehihboaaGreatDoorzQZ
set_option linter.unusedSimpArgs false
set_option linter.unusedVariables false
set_option linter.unusedSectionVars false
set_option maxHeartbeats 4000000
set_option maxRecDepth 100000
namespace Go.Proofs.YtdgcgckehihboaaGreatDoor
variable [Go.Av.DoorC]
open Go.Av
abbrev f_slices_BinarySearchFunc_Limpl_Edge_impl_Edge_impl_Edge : Nat := 33
def c_slices_BinarySearchFunc_Limpl_Edge_impl_Edge_impl_Edge : SC :=
 .seq (.reg [
     ⟨(some 4), .box 49 (.tmp 1), none⟩,
     ⟨(some 6), .mv (.const (.int .i64 0)), none⟩,
     ⟨(some 7), .mv (.const (.bool false)), none⟩] [0, 2, 4])
 (.seq (.reg [
     ⟨(some 12), .mv (.tmp 0), none⟩,
     ⟨(some 13), .len (.tmp 12), none⟩,
     ⟨(some 8), .mv (.tmp 13), none⟩] [0, 2, 4, 8])
 (.seq (.reg [
     ⟨(some 14), .mv (.tmp 8), none⟩,
     ⟨(some 9), .mv (.const (.int .i64 0)), none⟩,
     ⟨(some 10), .mv (.tmp 14), none⟩] [0, 2, 4, 8, 9, 10])
 (.seq (.block 0 (.loop [0, 2, 4, 8, 9, 10]
   (.seq (.seq (.reg [
       ⟨(some 15), .mv (.tmp 9), none⟩,
       ⟨(some 16), .mv (.tmp 10), none⟩,
       ⟨(some 17), .bin .lss (.tmp 15) (.tmp 16), none⟩] [0, 2, 4, 8, 9, 10, 17])
   (.cond (.tmp 17)
    (.skip)
    (.exit 0)))
   (.block 1 (.seq (.reg [
        ⟨(some 18), .mv (.tmp 9), none⟩,
        ⟨(some 19), .mv (.tmp 10), none⟩,
        ⟨(some 20), .bin .add (.tmp 18) (.tmp 19), none⟩,
        ⟨(some 21), .conv .u64 (.tmp 20), none⟩,
        ⟨(some 22), .bin .shr (.tmp 21) (.const (.int .u64 1)), none⟩,
        ⟨(some 23), .conv .i64 (.tmp 22), none⟩,
        ⟨(some 11), .mv (.tmp 23), none⟩] [0, 2, 4, 8, 9, 10, 11])
    (.seq (.reg [
        ⟨(some 24), .mv (.tmp 2), none⟩,
        ⟨(some 25), .mv (.tmp 0), none⟩,
        ⟨(some 26), .mv (.tmp 11), none⟩,
        ⟨(some 27), .iaddr 2 (.tmp 25) (.tmp 26), none⟩,
        ⟨(some 28), .load 2 true (.tmp 27), none⟩,
        ⟨(some 29), .load 2 true (.tmp 4), none⟩,
        ⟨(some 30), .qcallv (.tmp 24) [(.tmp 28), (.tmp 29)], none⟩,
        ⟨(some 31), .bin .lss (.tmp 30) (.const (.int .i64 0)), none⟩] [0, 2, 4, 8, 9, 10, 11, 31])
    (.cond (.tmp 31)
     (.reg [
         ⟨(some 32), .mv (.tmp 11), none⟩,
         ⟨(some 33), .bin .add (.tmp 32) (.const (.int .i64 1)), none⟩,
         ⟨(some 9), .mv (.tmp 33), none⟩] [0, 2, 4, 8, 9, 10])
     (.reg [
         ⟨(some 34), .mv (.tmp 11), none⟩,
         ⟨(some 10), .mv (.tmp 34), none⟩] [0, 2, 4, 8, 9, 10]))))))))
 (.seq (.reg [
     ⟨(some 35), .mv (.tmp 9), none⟩,
     ⟨(some 36), .mv (.tmp 9), none⟩,
     ⟨(some 37), .mv (.tmp 8), none⟩,
     ⟨(some 38), .bin .lss (.tmp 36) (.tmp 37), none⟩,
     ⟨(some 39), .mv (.tmp 38), none⟩,
     ⟨(some 40), .mv (.tmp 2), (some (39, true))⟩,
     ⟨(some 41), .mv (.tmp 0), (some (39, true))⟩,
     ⟨(some 42), .mv (.tmp 9), (some (39, true))⟩,
     ⟨(some 43), .iaddr 2 (.tmp 41) (.tmp 42), (some (39, true))⟩,
     ⟨(some 44), .load 2 true (.tmp 43), (some (39, true))⟩,
     ⟨(some 45), .load 2 true (.tmp 4), (some (39, true))⟩,
     ⟨(some 46), .qcallv (.tmp 40) [(.tmp 44), (.tmp 45)], (some (39, true))⟩,
     ⟨(some 47), .bin .eql (.tmp 46) (.const (.int .i64 0)), (some (39, true))⟩,
     ⟨(some 48), .pick (.tmp 39) (.tmp 47) (.const (.bool false)), none⟩,
     ⟨(some 6), .mv (.tmp 35), none⟩,
     ⟨(some 7), .mv (.tmp 48), none⟩] [6, 7])
 (.ret)))))
theorem s_slices_BinarySearchFunc_Limpl_Edge_impl_Edge_impl_Edge : stripF Tryz.prog 33 [[0, 2, 4], [0, 2, 4, 8], [0, 2, 4, 8, 9, 10], [0, 2, 4, 8, 9, 10], [0, 2, 4, 8, 9, 10, 17], [0, 2, 4, 8, 9, 10, 11], [0, 2, 4, 8, 9, 10, 11, 31], [0, 2, 4, 8, 9, 10], [0, 2, 4, 8, 9, 10], [6, 7]] = some (c_slices_BinarySearchFunc_Limpl_Edge_impl_Edge_impl_Edge, [.tmp 6, .tmp 7], 49) := by kernel_rfl
def cntE (L : List (Int × Int)) (p : Int × Int) : Nat := (L.filter fun x => decide (cmpE x p < 0)).length
theorem cntE_le (L : List (Int × Int)) (p : Int × Int) : cntE L p ≤ L.length := List.length_filter_le _ _
theorem cntE_zero {L : List (Int × Int)} {p : Int × Int} (h : ∀ x ∈ L, ¬ cmpE x p < 0) : cntE L p = 0 := by
  unfold cntE
  rw [List.length_eq_zero_iff, List.filter_eq_nil_iff]
  intro x hx
  simpa using h x hx
theorem cntE_lt {p : Int × Int} : ∀ {L : List (Int × Int)}, Asc cmpE L → ∀ {h : Nat} (hl : h < L.length), cmpE L[h] p < 0 ↔ h < cntE L p
  | [], _, _, hl => by simp at hl
  | x :: r, ha, h, hl => by
    have ha' := List.pairwise_cons.1 ha
    by_cases hx : cmpE x p < 0
    · have e : cntE (x :: r) p = cntE r p + 1 := by unfold cntE; rw [List.filter_cons_of_pos (by simpa using hx)]; rfl
      rw [e]
      cases h with
      | zero => simp [hx]
      | succ h =>
        have := cntE_lt (p := p) (L := r) ha'.2 (h := h) (by simpa using hl)
        simp only [List.getElem_cons_succ]
        rw [this]; omega
    · have hall : ∀ y ∈ x :: r, ¬ cmpE y p < 0 := by
        intro y hy hyp
        rcases List.mem_cons.1 hy with rfl | hy
        · exact hx hyp
        · exact hx (cmpE_tot.trans _ _ _ (ha'.1 y hy) hyp)
      rw [cntE_zero hall]
      constructor
      · intro hh; exact absurd hh (hall _ (List.getElem_mem _))
      · omega
theorem cntE_mem {L : List (Int × Int)} {p : Int × Int} (ha : Asc cmpE L) : p ∈ L ↔ ∃ h : cntE L p < L.length, cmpE L[cntE L p] p = 0 := by
  constructor
  · intro hp
    obtain ⟨j, hj, he⟩ := List.getElem_of_mem hp
    have h1 := cntE_lt (p := p) ha hj
    rw [he] at h1
    have h0 : cmpE p p = 0 := (cmpE_tot.eq0 p p).2 rfl
    have h2 : ¬ j < cntE L p := fun h => by have := h1.2 h; omega
    have h3 : cntE L p = j := by
      rcases Nat.lt_or_eq_of_le (Nat.le_of_not_lt h2) with h4 | h4
      · have h5 := cntE_lt (p := p) ha (h := cntE L p) (by omega)
        have h6 := List.pairwise_iff_getElem.1 ha (cntE L p) j (by omega) hj h4
        rw [he] at h6
        have := h5.1 h6
        omega
      · exact h4
    subst h3
    exact ⟨hj, by rw [he]; exact h0⟩
  · rintro ⟨h, he⟩
    rw [← (cmpE_tot.eq0 _ _).1 he]
    exact List.getElem_mem _
def u64v (x : Int) : AV := .lit (.int .u64 x)
theorem wrap_u64 {x : Int} (h0 : 0 ≤ x) (h1 : x ≤ 9223372036854775807) : IntKind.u64.wrap x = x := by
  have e : x % (2 ^ IntKind.u64.bits : Int) = x := by
    show x % (2 ^ 64 : Int) = x
    omega
  show (if (false && decide (x % (2 ^ IntKind.u64.bits : Int) ≥ (2 ^ (IntKind.u64.bits - 1) : Int))) = true then x % (2 ^ IntKind.u64.bits : Int) - (2 ^ IntKind.u64.bits : Int) else x % (2 ^ IntKind.u64.bits : Int)) = x
  rw [Bool.false_and, if_neg (by simp), e]
theorem ConvW_u64 {x : Int} (h0 : 0 ≤ x) (h1 : x ≤ 9223372036854775807) (H : List Blk) (K : AV → List Blk → Prop) : ConvW .u64 (I x) H K = K (u64v x) H := by
  show K (.lit (.int .u64 (IntKind.u64.wrap x))) H = _
  rw [wrap_u64 h0 h1]; rfl
theorem ConvW_ui {x : Int} (H : List Blk) (K : AV → List Blk → Prop) : ConvW .i64 (u64v x) H K = K (I (w64 x)) H := (rfl)
theorem ev_u64 (x : Int) (F : Nat → AV) : ev F (.const (.int .u64 x)) = u64v x := (rfl)
theorem shr_u64 (x : Int) (H : List Blk) (K : AV → List Blk → Prop) : BinW .shr (u64v x) (u64v 1) H K = K (u64v (x.fdiv 2)) H := by
  show (0 ≤ (1 : Int) ∧ K (.lit (.int .u64 (x.fdiv (2 ^ (min (1 : Int).toNat 64))))) H) = _
  rw [show (2 : Int) ^ (min (1 : Int).toNat 64) = 2 from rfl]
  simp [u64v]
theorem BinarySearchE_fn (L : List (Int × Int)) (p : Int × Int) (ha : Asc cmpE L) (hl : L.length ≤ 1000000) : PFn Tryz.prog f_slices_BinarySearchFunc_Limpl_Edge_impl_Edge_impl_Edge [ilE L, agE p, .fn f_impl_compareEdges []] (.tup [I (cntE L p), Bv (decide (p ∈ L))]) := by
  have hcl := cntE_le L p
  have hbe := fun b => Bel_ilE b L
  unfold agE
  intro H; refine ACalls.introB s_slices_BinarySearchFunc_Limpl_Edge_impl_Edge_impl_Edge (by simp) ?_; intro hB hA; unfold c_slices_BinarySearchFunc_Limpl_Edge_impl_Edge_impl_Edge; simp (config := { maxSteps := 1000000 }) (disch := (first | omega | (simp only [go_sem]; try omega))) only [go_sem, Nat.reduceAdd, Nat.reduceEqDiff, Nat.reduceLeDiff, Nat.reduceMul, Nat.reduceLT, reduceIte, Int.reduceToNat, w64_id, cast_succ]
  repeat (first | (with_reducible first | refine SW.seq ?_ | refine SW.block ?_ | refine SW.rowC ?_ | refine SW.skip ?_ | refine SW.exit ?_ | intro _ | refine And.intro (by omega) ?_) | simp (config := { maxSteps := 1000000 }) (disch := (first | omega | (simp only [go_sem]; try omega))) only [go_sem, Nat.reduceAdd, Nat.reduceEqDiff, Nat.reduceLeDiff, Nat.reduceMul, Nat.reduceLT, reduceIte, Int.reduceToNat, w64_id, cast_succ])
  refine SW.loopE (fun E0 H0 q E' H' => ∃ i j : Nat, i ≤ cntE L p ∧ cntE L p ≤ j ∧ j ≤ L.length ∧ q = j - i ∧ E' = aput (aput E0 9 (I i)) 10 (I j) ∧ H' = H0) L.length ⟨0, L.length, by omega, by omega, by omega, by omega, rfl, rfl⟩ ?_
  rintro q E' H' ⟨i, j, hi, hj, hjl, rfl, rfl, rfl⟩
  simp (config := { maxSteps := 1000000 }) (disch := (first | omega | (simp only [go_sem]; try omega))) only [go_sem, Nat.reduceAdd, Nat.reduceEqDiff, Nat.reduceLeDiff, Nat.reduceMul, Nat.reduceLT, reduceIte, Int.reduceToNat, w64_id, cast_succ]
  repeat (first | (with_reducible first | refine SW.seq ?_ | refine SW.block ?_ | refine SW.rowC ?_ | refine SW.skip ?_ | refine SW.exit ?_ | intro _ | refine And.intro (by omega) ?_) | simp (config := { maxSteps := 1000000 }) (disch := (first | omega | (simp only [go_sem]; try omega))) only [go_sem, Nat.reduceAdd, Nat.reduceEqDiff, Nat.reduceLeDiff, Nat.reduceMul, Nat.reduceLT, reduceIte, Int.reduceToNat, w64_id, cast_succ])
  (first | refine SW.condD rfl (fun h2 => ?_) (fun h2 => ?_) | refine SW.condN rfl (fun h2 => ?_) (fun h2 => ?_) | refine SW.condNB rfl (fun h2 => ?_) (fun h2 => ?_) | refine SW.condB rfl (fun h2 => ?_) (fun h2 => ?_))
  · have hf : ((i : Int) + (j : Int)).fdiv 2 = (((i + j) / 2 : Nat) : Int) := by
      rw [Int.fdiv_eq_ediv_of_nonneg _ (by omega)]; omega
    have hh : i ≤ (i + j) / 2 ∧ (i + j) / 2 < j := by omega
    generalize hm : (i + j) / 2 = m at *
    have hml : m < L.length := by omega
    have hgm : L.getD m (0, 0) = L[m] := by rw [List.getD_eq_getElem?_getD, List.getElem?_eq_getElem hml]; rfl
    have hlt := cntE_lt (p := p) ha hml
    rw [← hgm] at hlt
    have hcf := compareEdges_fn (L.getD m (0, 0)) p
    unfold agE at hcf
    have l1 : ∀ H, acells H 2 (.el (ilE L) (m * 2)) = some [I (L.getD m (0, 0)).1, I (L.getD m (0, 0)).2] := fun H => (rd_ilE H L).ld hml
    repeat (first | (with_reducible first | refine SW.seq ?_ | refine SW.block ?_ | refine SW.rowC ?_ | refine SW.skip ?_ | refine SW.exit ?_ | refine PFn.use (hcf) ?_ | refine PFn.useq (hcf) ?_ | intro _ | refine And.intro (by omega) ?_) | simp (config := { maxSteps := 1000000 }) (disch := (first | omega | (simp only [go_sem]; try omega))) only [go_sem, Nat.reduceAdd, Nat.reduceEqDiff, Nat.reduceLeDiff, Nat.reduceMul, Nat.reduceLT, reduceIte, Int.reduceToNat, w64_id, cast_succ, ConvW_u64, ConvW_ui, ev_u64, shr_u64, hf, l1, compareEdges_call])
    by_cases hlm : cmpE (L.getD m (0, 0)) p < 0
    · have dd := decide_eq_true hlm
      repeat (first | (with_reducible first | refine SW.seq ?_ | refine SW.block ?_ | refine SW.rowC ?_ | refine SW.skip ?_ | refine SW.exit ?_ | intro _ | refine And.intro (by omega) ?_) | simp (config := { maxSteps := 1000000 }) (disch := (first | omega | (simp only [go_sem]; try omega))) only [go_sem, Nat.reduceAdd, Nat.reduceEqDiff, Nat.reduceLeDiff, Nat.reduceMul, Nat.reduceLT, reduceIte, Int.reduceToNat, w64_id, cast_succ, dd])
      refine SW.condT rfl ?_
      repeat (first | (with_reducible first | refine SW.seq ?_ | refine SW.block ?_ | refine SW.rowC ?_ | refine SW.skip ?_ | refine SW.exit ?_ | intro _ | refine And.intro (by omega) ?_) | simp (config := { maxSteps := 1000000 }) (disch := (first | omega | (simp only [go_sem]; try omega))) only [go_sem, Nat.reduceAdd, Nat.reduceEqDiff, Nat.reduceLeDiff, Nat.reduceMul, Nat.reduceLT, reduceIte, Int.reduceToNat, w64_id, cast_succ])
      refine SLoop.next (j - (m + 1)) (by omega) ⟨m + 1, j, hlt.1 hlm, hj, hjl, rfl, by simp [go_sem], rfl⟩
    · have dd := decide_eq_false hlm
      repeat (first | (with_reducible first | refine SW.seq ?_ | refine SW.block ?_ | refine SW.rowC ?_ | refine SW.skip ?_ | refine SW.exit ?_ | intro _ | refine And.intro (by omega) ?_) | simp (config := { maxSteps := 1000000 }) (disch := (first | omega | (simp only [go_sem]; try omega))) only [go_sem, Nat.reduceAdd, Nat.reduceEqDiff, Nat.reduceLeDiff, Nat.reduceMul, Nat.reduceLT, reduceIte, Int.reduceToNat, w64_id, cast_succ, dd])
      refine SW.condF rfl ?_
      repeat (first | (with_reducible first | refine SW.seq ?_ | refine SW.block ?_ | refine SW.rowC ?_ | refine SW.skip ?_ | refine SW.exit ?_ | intro _ | refine And.intro (by omega) ?_) | simp (config := { maxSteps := 1000000 }) (disch := (first | omega | (simp only [go_sem]; try omega))) only [go_sem, Nat.reduceAdd, Nat.reduceEqDiff, Nat.reduceLeDiff, Nat.reduceMul, Nat.reduceLT, reduceIte, Int.reduceToNat, w64_id, cast_succ])
      refine SLoop.next (m - i) (by omega) ⟨i, m, hi, by omega, by omega, rfl, by simp [go_sem], rfl⟩
  · have hij : i = j := by omega
    have hic : i = cntE L p := by omega
    have hmem := cntE_mem (p := p) ha
    subst hic
    by_cases hcn : cntE L p < L.length
    · have dd : decide (((cntE L p : Nat) : Int) < (L.length : Int)) = true := decide_eq_true (by omega)
      have hgm : L.getD (cntE L p) (0, 0) = L[cntE L p] := by rw [List.getD_eq_getElem?_getD, List.getElem?_eq_getElem hcn]; rfl
      have hcf := compareEdges_fn (L.getD (cntE L p) (0, 0)) p
      unfold agE at hcf
      have l1 : ∀ H, acells H 2 (.el (ilE L) (cntE L p * 2)) = some [I (L.getD (cntE L p) (0, 0)).1, I (L.getD (cntE L p) (0, 0)).2] := fun H => (rd_ilE H L).ld hcn
      have hd : decide (cmpE (L.getD (cntE L p) (0, 0)) p = 0) = decide (p ∈ L) := by
        rw [decide_eq_decide, hmem, hgm]
        exact ⟨fun h => ⟨hcn, h⟩, fun ⟨_, h⟩ => h⟩
      repeat (first | (with_reducible first | refine SW.seq ?_ | refine SW.block ?_ | refine SW.rowC ?_ | refine SW.skip ?_ | refine SW.exit ?_ | refine PFn.use (hcf) ?_ | refine PFn.useq (hcf) ?_ | intro _ | refine And.intro (by omega) ?_) | simp (config := { maxSteps := 1000000 }) (disch := (first | omega | (simp only [go_sem]; try omega))) only [go_sem, Nat.reduceAdd, Nat.reduceEqDiff, Nat.reduceLeDiff, Nat.reduceMul, Nat.reduceLT, reduceIte, Int.reduceToNat, w64_id, cast_succ, dd, l1, compareEdges_call])
      refine SW.ret ?_; (try simp only [go_sem]); (first | refine FunPost.one ?_ | refine FunPost.two ?_ | refine FunPost.three ?_); (try simp (config := { maxSteps := 1000000 }) (disch := (first | omega | (simp only [go_sem]; try omega))) only [go_sem, Nat.reduceAdd, Nat.reduceEqDiff, Nat.reduceLeDiff, Nat.reduceMul, Nat.reduceLT, reduceIte, Int.reduceToNat, w64_id, cast_succ]); (first | (with_reducible refine GR.drop ?_ ?_; (simp only [go_sem, and_self, and_true, true_and, implies_true, List.take_succ_cons, List.take_zero])) | refine GR.of ?_); refine ⟨?_, rfl⟩; (try with_reducible rfl)
      rw [hd]
    · have dd : decide (((cntE L p : Nat) : Int) < (L.length : Int)) = false := decide_eq_false (by omega)
      have hd : decide (p ∈ L) = false := decide_eq_false (fun h => hcn (hmem.1 h).1)
      repeat (first | (with_reducible first | refine SW.seq ?_ | refine SW.block ?_ | refine SW.rowC ?_ | refine SW.skip ?_ | refine SW.exit ?_ | intro _ | refine And.intro (by omega) ?_) | simp (config := { maxSteps := 1000000 }) (disch := (first | omega | (simp only [go_sem]; try omega))) only [go_sem, Nat.reduceAdd, Nat.reduceEqDiff, Nat.reduceLeDiff, Nat.reduceMul, Nat.reduceLT, reduceIte, Int.reduceToNat, w64_id, cast_succ, dd])
      refine SW.ret ?_; (try simp only [go_sem]); (first | refine FunPost.one ?_ | refine FunPost.two ?_ | refine FunPost.three ?_); (try simp (config := { maxSteps := 1000000 }) (disch := (first | omega | (simp only [go_sem]; try omega))) only [go_sem, Nat.reduceAdd, Nat.reduceEqDiff, Nat.reduceLeDiff, Nat.reduceMul, Nat.reduceLT, reduceIte, Int.reduceToNat, w64_id, cast_succ]); (first | (with_reducible refine GR.drop ?_ ?_; (simp only [go_sem, and_self, and_true, true_and, implies_true, List.take_succ_cons, List.take_zero])) | refine GR.of ?_); refine ⟨?_, rfl⟩; (try with_reducible rfl)
      rw [hd]
end Go.Proofs.YtdgcgckehihboaaGreatDoor
