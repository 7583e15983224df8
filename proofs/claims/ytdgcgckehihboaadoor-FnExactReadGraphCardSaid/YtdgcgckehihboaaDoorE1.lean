/- Edges: compared, sorted, made single. -/
import Derived.Test.YtdgcgckehihboaaDoorProg
import Derived.KernelRfl
import Derived.Test.YtdgcgckehihboaaDoorS6
import Derived.Test.YtdgcgckehihboaaDoorS3
import Derived.Test.YtdgcgckehihboaaDoorLs
import Derived.Test.YtdgcgckehihboaaDoorK3
import Derived.Test.YtdgcgckehihboaaDoorU1
set_option linter.unusedSimpArgs false
set_option linter.unusedVariables false
set_option maxHeartbeats 4000000
set_option maxRecDepth 100000
namespace Go.Proofs.YtdgcgckehihboaaDoor
open Go.Shelf Go.RowKit Go.Lib Go.Sort Go.Av

/-! The abstract code of functions, printed by program and tied to the program by the kernel. -/
/-- loop.example/g00920/impl.compareEdges -/
abbrev f_impl_compareEdges : Nat := 37
def c_impl_compareEdges : SC :=
 .seq (.reg [
     ⟨(some 2), .box 38 (.tmp 0), none⟩,
     ⟨(some 3), .box 38 (.tmp 1), none⟩,
     ⟨(some 4), .mv (.const (.int .i64 0)), none⟩] [2, 3])
 (.seq (.reg [
     ⟨(some 5), .faddr 0 (.tmp 2), none⟩,
     ⟨(some 6), .load 1 false (.tmp 5), none⟩,
     ⟨(some 7), .faddr 0 (.tmp 3), none⟩,
     ⟨(some 8), .load 1 false (.tmp 7), none⟩,
     ⟨(some 9), .qcall 53 [(.tmp 6), (.tmp 8)], none⟩,
     ⟨(some 10), .faddr 1 (.tmp 2), none⟩,
     ⟨(some 11), .load 1 false (.tmp 10), none⟩,
     ⟨(some 12), .faddr 1 (.tmp 3), none⟩,
     ⟨(some 13), .load 1 false (.tmp 12), none⟩,
     ⟨(some 14), .qcall 53 [(.tmp 11), (.tmp 13)], none⟩,
     ⟨(some 15), .bslice 3 1 2 [(.int .i64 0), (.int .i64 0)] [(0, (.tmp 9)), (1, (.tmp 14))], none⟩,
     ⟨(some 16), .qcall 52 [(.tmp 15)], none⟩,
     ⟨(some 4), .mv (.tmp 16), none⟩] [4])
 (.ret))
theorem s_impl_compareEdges : stripF Tryd.prog 37 [[2, 3], [4]] = some (c_impl_compareEdges, [.tmp 4], 17) := by kernel_rfl

/-- cmp.Or[int] -/
abbrev f_cmp_Or_int : Nat := 52
def c_cmp_Or_int : SC :=
 .seq (.reg [
     ⟨(some 2), .mv (.const (.int .i64 0)), none⟩] [0])
 (.seq (.reg [
     ⟨(some 3), .mv (.const (.int .i64 0)), none⟩] [0, 3])
 (.seq (.seq (.reg [
     ⟨(some 6), .mv (.tmp 0), none⟩,
     ⟨(some 7), .len (.tmp 6), none⟩,
     ⟨(some 8), .mv (.const (.int .i64 0)), none⟩] [3, 6, 7, 8])
 (.block 0 (.loop [3, 6, 7, 8]
   (.seq (.reg [
       ⟨(some 9), .bin .lss (.tmp 8) (.tmp 7), none⟩] [3, 6, 7, 8, 9])
   (.seq (.cond (.tmp 9)
    (.skip)
    (.exit 0))
   (.seq (.block 1 (.seq (.reg [
        ⟨(some 10), .iaddr 1 (.tmp 6) (.tmp 8), none⟩,
        ⟨(some 11), .load 1 false (.tmp 10), none⟩,
        ⟨(some 5), .mv (.tmp 11), none⟩] [3, 5, 6, 7, 8])
    (.seq (.reg [
        ⟨(some 12), .mv (.tmp 5), none⟩,
        ⟨(some 13), .mv (.tmp 3), none⟩,
        ⟨(some 14), .bin .neq (.tmp 12) (.tmp 13), none⟩] [3, 5, 6, 7, 8, 14])
    (.cond (.tmp 14)
     (.seq (.reg [
         ⟨(some 15), .mv (.tmp 5), none⟩,
         ⟨(some 2), .mv (.tmp 15), none⟩] [2])
     (.ret))
     (.skip)))))
   (.reg [
       ⟨(some 16), .bin .add (.tmp 8) (.const (.int .i64 1)), none⟩,
       ⟨(some 8), .mv (.tmp 16), none⟩] [3, 6, 7, 8])))))))
 (.seq (.reg [
     ⟨(some 17), .mv (.tmp 3), none⟩,
     ⟨(some 2), .mv (.tmp 17), none⟩] [2])
 (.ret))))
theorem s_cmp_Or_int : stripF Tryd.prog 52 [[0], [0, 3], [3, 6, 7, 8], [3, 6, 7, 8], [3, 6, 7, 8, 9], [3, 5, 6, 7, 8], [3, 5, 6, 7, 8, 14], [2], [3, 6, 7, 8], [2]] = some (c_cmp_Or_int, [.tmp 2], 18) := by kernel_rfl


abbrev tyE : Nat := 38
/-- Rows of pairs in memory. -/
def ilE (es : List (Int × Int)) : AV := .il es.length (flatE es)
def RdE (H : List Blk) (a : AV) (es : List (Int × Int)) : Prop := aview H a = some (es.length, flatE es)
theorem rd_ilE (H : List Blk) (es : List (Int × Int)) : RdE H (ilE es) es := rfl
theorem rd_nmE {H : List Blk} {i ver ty : Nat} {es : List (Int × Int)} (h : H[i]? = some ⟨ver, ty, 2, flatE es⟩) : RdE H (.nm i ver 0 es.length) es := by
  unfold RdE
  simp only [aview, h, if_true, List.drop_zero]
  rw [List.take_of_length_le (by rw [flatE_length]; omega)]
theorem RdE.append {H : List Blk} {a : AV} {es : List (Int × Int)} (h : RdE H a es) (ext : List Blk) : RdE (H ++ ext) a es := aview_append h ext
theorem flatE_drop : ∀ (es : List (Int × Int)) (j : Nat), j < es.length → ((flatE es).drop (j * 2)).take 2 = [I (es.getD j (0, 0)).1, I (es.getD j (0, 0)).2]
  | [], _, h => by simp at h
  | e :: es, 0, _ => rfl
  | e :: es, j + 1, h => by
    have := flatE_drop es j (by simpa using h)
    rw [show (j + 1) * 2 = j * 2 + 2 by omega]
    simpa [flatE] using this
theorem RdE.ld {H : List Blk} {a : AV} {es : List (Int × Int)} (h : RdE H a es) {j : Nat} (hj : j < es.length) : acells H 2 (.el a (j * 2)) = some [I (es.getD j (0, 0)).1, I (es.getD j (0, 0)).2] := by
  unfold RdE at h
  simp only [acells, h]
  rw [if_pos (by rw [flatE_length]; omega), flatE_drop es j hj]

def cmpE (a b : Int × Int) : Int := if cmpI a.1 b.1 = 0 then cmpI a.2 b.2 else cmpI a.1 b.1
theorem cmpI_totE : TotC cmpI := by
  refine ⟨fun x y => ?_, fun x y => ?_, fun x y z h1 h2 => ?_⟩
  · unfold cmpI
    by_cases h1 : x < y
    · rw [if_pos h1, if_neg (by omega), if_pos h1] <;> omega
    · by_cases h2 : y < x
      · rw [if_pos h2, if_neg h1, if_pos h2] <;> omega
      · rw [if_neg h2, if_neg h1, if_neg h1, if_neg h2] <;> omega
  · unfold cmpI
    by_cases h1 : x < y
    · rw [if_pos h1]; omega
    · by_cases h2 : y < x
      · rw [if_neg h1, if_pos h2]; omega
      · rw [if_neg h1, if_neg h2]; omega
  · have e1 : x < y := by
      unfold cmpI at h1
      by_cases h : x < y
      · exact h
      · rw [if_neg h] at h1; split at h1 <;> omega
    have e2 : y < z := by
      unfold cmpI at h2
      by_cases h : y < z
      · exact h
      · rw [if_neg h] at h2; split at h2 <;> omega
    unfold cmpI
    rw [if_pos (by omega)]; omega
theorem lex_tot {A B : Type} {cf : A → A → Int} {cg : B → B → Int} (hf : TotC cf) (hg : TotC cg) : TotC (fun a b : A × B => if cf a.1 b.1 = 0 then cg a.2 b.2 else cf a.1 b.1) := by
  refine ⟨fun x y => ?_, fun x y => ?_, fun x y z h1 h2 => ?_⟩
  · have h := hf.neg x.1 y.1
    by_cases h0 : cf x.1 y.1 = 0
    · simp only [if_pos h0, if_pos (show cf y.1 x.1 = 0 by omega)]; exact hg.neg _ _
    · simp only [if_neg h0, if_neg (show ¬ cf y.1 x.1 = 0 by omega)]; exact h
  · obtain ⟨a, b⟩ := x
    obtain ⟨c, d⟩ := y
    by_cases h0 : cf a c = 0
    · show (if cf a c = 0 then cg b d else cf a c) = 0 ↔ (a, b) = (c, d)
      rw [if_pos h0, hg.eq0, Prod.mk.injEq, (hf.eq0 a c).1 h0]; simp
    · show (if cf a c = 0 then cg b d else cf a c) = 0 ↔ (a, b) = (c, d)
      rw [if_neg h0, Prod.mk.injEq]
      constructor
      · intro h; exact absurd h h0
      · rintro ⟨rfl, _⟩; exact (hf.eq0 _ _).2 rfl
  · replace h1 : (if cf x.1 y.1 = 0 then cg x.2 y.2 else cf x.1 y.1) < 0 := h1
    replace h2 : (if cf y.1 z.1 = 0 then cg y.2 z.2 else cf y.1 z.1) < 0 := h2
    show (if cf x.1 z.1 = 0 then cg x.2 z.2 else cf x.1 z.1) < 0
    by_cases h0 : cf x.1 y.1 = 0
    · have e := (hf.eq0 _ _).1 h0
      rw [if_pos h0] at h1
      rw [e]
      by_cases h3 : cf y.1 z.1 = 0
      · rw [if_pos h3] at h2 ⊢; exact hg.trans _ _ _ h1 h2
      · rw [if_neg h3] at h2 ⊢; exact h2
    · rw [if_neg h0] at h1
      by_cases h3 : cf y.1 z.1 = 0
      · have e := (hf.eq0 _ _).1 h3
        rw [← e, if_neg h0]; exact h1
      · rw [if_neg h3] at h2
        have h4 := hf.trans _ _ _ h1 h2
        rw [if_neg (by omega)]; exact h4
theorem cmpE_tot : TotC cmpE := lex_tot cmpI_totE cmpI_totE

theorem cmpOr_fn (x y : Int) : PFn Tryd.prog f_cmp_Or_int [ilS [x, y]] (I (if x = 0 then y else x)) := by
  intro H; refine ACalls.introB s_cmp_Or_int (by simp) ?_; intro hB hA; unfold c_cmp_Or_int; simp (config := { maxSteps := 1000000 }) (disch := (first | omega | (simp only [go_sem]; try omega))) only [go_sem, Nat.reduceAdd, Nat.reduceEqDiff, Nat.reduceLeDiff, Nat.reduceMul, Nat.reduceLT, reduceIte, Int.reduceToNat, w64_id, cast_succ]
  repeat (first | (with_reducible first | refine SW.seq ?_ | refine SW.block ?_ | refine SW.rowC ?_ | refine SW.skip ?_ | refine SW.exit ?_ | intro _ | refine And.intro (by omega) ?_) | simp (config := { maxSteps := 1000000 }) (disch := (first | omega | (simp only [go_sem]; try omega))) only [go_sem, Nat.reduceAdd, Nat.reduceEqDiff, Nat.reduceLeDiff, Nat.reduceMul, Nat.reduceLT, reduceIte, Int.reduceToNat, w64_id, cast_succ])
  refine SW.loopE (fun E0 H0 q E' H' => ∃ (pre post : List Int), [x, y] = pre ++ post ∧ q = post.length ∧ E' = aput E0 8 (I pre.length) ∧ H' = H0 ∧ ∀ z ∈ pre, z = 0) 2 ⟨[], [x, y], rfl, rfl, rfl, rfl, by simp⟩ ?_
  rintro q E' H' ⟨pre, post, hpp, rfl, rfl, rfl, hz⟩
  simp (config := { maxSteps := 1000000 }) (disch := (first | omega | (simp only [go_sem]; try omega))) only [go_sem, Nat.reduceAdd, Nat.reduceEqDiff, Nat.reduceLeDiff, Nat.reduceMul, Nat.reduceLT, reduceIte, Int.reduceToNat, w64_id, cast_succ]
  repeat (first | (with_reducible first | refine SW.seq ?_ | refine SW.block ?_ | refine SW.rowC ?_ | refine SW.skip ?_ | refine SW.exit ?_ | intro _ | refine And.intro (by omega) ?_) | simp (config := { maxSteps := 1000000 }) (disch := (first | omega | (simp only [go_sem]; try omega))) only [go_sem, Nat.reduceAdd, Nat.reduceEqDiff, Nat.reduceLeDiff, Nat.reduceMul, Nat.reduceLT, reduceIte, Int.reduceToNat, w64_id, cast_succ])
  by_cases h : pre.length < 2
  · obtain ⟨z, post, rfl, hg, -⟩ := consOf (d := 0) hpp (by simpa using h)
    have hd : decide ((pre.length : Int) < ((2 : Nat) : Int)) = true := decide_eq_true (by omega)
    repeat (first | (with_reducible first | refine SW.seq ?_ | refine SW.block ?_ | refine SW.rowC ?_ | refine SW.skip ?_ | refine SW.exit ?_ | intro _ | refine And.intro (by omega) ?_) | simp (config := { maxSteps := 1000000 }) (disch := (first | omega | (simp only [go_sem]; try omega))) only [go_sem, Nat.reduceAdd, Nat.reduceEqDiff, Nat.reduceLeDiff, Nat.reduceMul, Nat.reduceLT, reduceIte, Int.reduceToNat, w64_id, cast_succ, hd])
    refine SW.condT rfl ?_
    have hgi : [I x, I y][pre.length]? = some (I z) := by
      have : ([x, y].map I)[pre.length]? = some (I z) := by rw [hpp]; simp
      exact this
    repeat (first | (with_reducible first | refine SW.seq ?_ | refine SW.block ?_ | refine SW.rowC ?_ | refine SW.skip ?_ | refine SW.exit ?_ | intro _ | refine And.intro (by omega) ?_) | simp (config := { maxSteps := 1000000 }) (disch := (first | omega | (simp only [go_sem]; try omega))) only [go_sem, Nat.reduceAdd, Nat.reduceEqDiff, Nat.reduceLeDiff, Nat.reduceMul, Nat.reduceLT, reduceIte, Int.reduceToNat, w64_id, cast_succ, hgi])
    by_cases h0 : z = 0
    · have hd2 : decide (z = 0) = true := decide_eq_true h0
      repeat (first | (with_reducible first | refine SW.seq ?_ | refine SW.block ?_ | refine SW.rowC ?_ | refine SW.skip ?_ | refine SW.exit ?_ | intro _ | refine And.intro (by omega) ?_) | simp (config := { maxSteps := 1000000 }) (disch := (first | omega | (simp only [go_sem]; try omega))) only [go_sem, Nat.reduceAdd, Nat.reduceEqDiff, Nat.reduceLeDiff, Nat.reduceMul, Nat.reduceLT, reduceIte, Int.reduceToNat, w64_id, cast_succ, hd2])
      refine SW.condF rfl ?_
      repeat (first | (with_reducible first | refine SW.seq ?_ | refine SW.block ?_ | refine SW.rowC ?_ | refine SW.skip ?_ | refine SW.exit ?_ | intro _ | refine And.intro (by omega) ?_) | simp (config := { maxSteps := 1000000 }) (disch := (first | omega | (simp only [go_sem]; try omega))) only [go_sem, Nat.reduceAdd, Nat.reduceEqDiff, Nat.reduceLeDiff, Nat.reduceMul, Nat.reduceLT, reduceIte, Int.reduceToNat, w64_id, cast_succ])
      refine SLoop.next post.length (by simp) ⟨pre ++ [z], post, by simp [hpp], rfl, by simp [go_sem], rfl, ?_⟩
      intro w hw
      rcases List.mem_append.1 hw with hw | hw
      · exact hz w hw
      · rw [List.mem_singleton.1 hw]; exact h0
    · have hd2 : decide (z = 0) = false := decide_eq_false h0
      repeat (first | (with_reducible first | refine SW.seq ?_ | refine SW.block ?_ | refine SW.rowC ?_ | refine SW.skip ?_ | refine SW.exit ?_ | intro _ | refine And.intro (by omega) ?_) | simp (config := { maxSteps := 1000000 }) (disch := (first | omega | (simp only [go_sem]; try omega))) only [go_sem, Nat.reduceAdd, Nat.reduceEqDiff, Nat.reduceLeDiff, Nat.reduceMul, Nat.reduceLT, reduceIte, Int.reduceToNat, w64_id, cast_succ, hd2])
      refine SW.condT rfl ?_
      repeat (first | (with_reducible first | refine SW.seq ?_ | refine SW.block ?_ | refine SW.rowC ?_ | refine SW.skip ?_ | refine SW.exit ?_ | intro _ | refine And.intro (by omega) ?_) | simp (config := { maxSteps := 1000000 }) (disch := (first | omega | (simp only [go_sem]; try omega))) only [go_sem, Nat.reduceAdd, Nat.reduceEqDiff, Nat.reduceLeDiff, Nat.reduceMul, Nat.reduceLT, reduceIte, Int.reduceToNat, w64_id, cast_succ])
      refine SW.ret ?_; (try simp only [go_sem]); (first | refine FunPost.one ?_ | refine FunPost.two ?_ | refine FunPost.three ?_); (try simp (config := { maxSteps := 1000000 }) (disch := (first | omega | (simp only [go_sem]; try omega))) only [go_sem, Nat.reduceAdd, Nat.reduceEqDiff, Nat.reduceLeDiff, Nat.reduceMul, Nat.reduceLT, reduceIte, Int.reduceToNat, w64_id, cast_succ]); (first | (with_reducible refine GR.drop ?_ ?_; (simp only [go_sem, and_self, and_true, true_and, implies_true, List.take_succ_cons, List.take_zero])) | refine GR.of ?_); refine ⟨?_, rfl⟩; (try with_reducible rfl)
      match pre, hpp, hz with
      | [], hpp, _ => simp at hpp; rw [hpp.1, if_neg h0]
      | [a], hpp, hz => simp at hpp; have := hz a (by simp); rw [hpp.1, if_pos this, hpp.2.1]
      | a :: b :: c, hpp, _ => simp at h; omega
  · have hd : decide ((pre.length : Int) < ((2 : Nat) : Int)) = false := decide_eq_false (by omega)
    repeat (first | (with_reducible first | refine SW.seq ?_ | refine SW.block ?_ | refine SW.rowC ?_ | refine SW.skip ?_ | refine SW.exit ?_ | intro _ | refine And.intro (by omega) ?_) | simp (config := { maxSteps := 1000000 }) (disch := (first | omega | (simp only [go_sem]; try omega))) only [go_sem, Nat.reduceAdd, Nat.reduceEqDiff, Nat.reduceLeDiff, Nat.reduceMul, Nat.reduceLT, reduceIte, Int.reduceToNat, w64_id, cast_succ, hd])
    refine SW.condF rfl ?_
    repeat (first | (with_reducible first | refine SW.seq ?_ | refine SW.block ?_ | refine SW.rowC ?_ | refine SW.skip ?_ | refine SW.exit ?_ | intro _ | refine And.intro (by omega) ?_) | simp (config := { maxSteps := 1000000 }) (disch := (first | omega | (simp only [go_sem]; try omega))) only [go_sem, Nat.reduceAdd, Nat.reduceEqDiff, Nat.reduceLeDiff, Nat.reduceMul, Nat.reduceLT, reduceIte, Int.reduceToNat, w64_id, cast_succ])
    refine SW.ret ?_; (try simp only [go_sem]); (first | refine FunPost.one ?_ | refine FunPost.two ?_ | refine FunPost.three ?_); (try simp (config := { maxSteps := 1000000 }) (disch := (first | omega | (simp only [go_sem]; try omega))) only [go_sem, Nat.reduceAdd, Nat.reduceEqDiff, Nat.reduceLeDiff, Nat.reduceMul, Nat.reduceLT, reduceIte, Int.reduceToNat, w64_id, cast_succ]); (first | (with_reducible refine GR.drop ?_ ?_; (simp only [go_sem, and_self, and_true, true_and, implies_true, List.take_succ_cons, List.take_zero])) | refine GR.of ?_); refine ⟨?_, rfl⟩; (try with_reducible rfl)
    match pre, hpp, hz with
    | [], _, _ => simp at h
    | [a], _, _ => simp at h
    | a :: b :: c, hpp, hz => simp at hpp; have h1 := hz a (by simp); have h2 := hz b (by simp); rw [hpp.1, hpp.2.1, h1, h2]; rfl
theorem compareEdges_fn (a b : Int × Int) : PFn Tryd.prog f_impl_compareEdges [agE a, agE b] (I (cmpE a b)) := by
  unfold agE
  intro H; refine ACalls.introB s_impl_compareEdges (by simp) ?_; intro hB hA; unfold c_impl_compareEdges; simp (config := { maxSteps := 1000000 }) (disch := (first | omega | (simp only [go_sem]; try omega))) only [go_sem, Nat.reduceAdd, Nat.reduceEqDiff, Nat.reduceLeDiff, Nat.reduceMul, Nat.reduceLT, reduceIte, Int.reduceToNat, w64_id, cast_succ]
  repeat (first | (with_reducible first | refine SW.seq ?_ | refine SW.block ?_ | refine SW.rowC ?_ | refine SW.skip ?_ | refine SW.exit ?_ | refine PFn.use (cmpCompare_fn _ _) ?_ | refine PFn.useq (cmpCompare_fn _ _) ?_ | intro _ | refine And.intro (by omega) ?_) | simp (config := { maxSteps := 1000000 }) (disch := (first | omega | (simp only [go_sem]; try omega))) only [go_sem, Nat.reduceAdd, Nat.reduceEqDiff, Nat.reduceLeDiff, Nat.reduceMul, Nat.reduceLT, reduceIte, Int.reduceToNat, w64_id, cast_succ])
  refine PFn.uselq (cmpOr_fn (cmpI a.1 b.1) (cmpI a.2 b.2)) (.cons (froz_rowI (xs := [cmpI a.1 b.1, cmpI a.2 b.2]) (r := H.length + 2) (ver := 0) (ty := 3) (Nat.zero_le _) (by simp)) .nil) ?_
  repeat (first | (with_reducible first | refine SW.seq ?_ | refine SW.block ?_ | refine SW.rowC ?_ | refine SW.skip ?_ | refine SW.exit ?_ | intro _ | refine And.intro (by omega) ?_) | simp (config := { maxSteps := 1000000 }) (disch := (first | omega | (simp only [go_sem]; try omega))) only [go_sem, Nat.reduceAdd, Nat.reduceEqDiff, Nat.reduceLeDiff, Nat.reduceMul, Nat.reduceLT, reduceIte, Int.reduceToNat, w64_id, cast_succ])
  refine SW.ret ?_; (try simp only [go_sem]); (first | refine FunPost.one ?_ | refine FunPost.two ?_ | refine FunPost.three ?_); (try simp (config := { maxSteps := 1000000 }) (disch := (first | omega | (simp only [go_sem]; try omega))) only [go_sem, Nat.reduceAdd, Nat.reduceEqDiff, Nat.reduceLeDiff, Nat.reduceMul, Nat.reduceLT, reduceIte, Int.reduceToNat, w64_id, cast_succ]); (first | (with_reducible refine GR.drop ?_ ?_; (simp only [go_sem, and_self, and_true, true_and, implies_true, List.take_succ_cons, List.take_zero])) | refine GR.of ?_); refine ⟨?_, rfl⟩; (try with_reducible rfl)
  rfl
theorem compareEdges_call : callable Tryd.prog f_impl_compareEdges = true := by kernel_rfl

end Go.Proofs.YtdgcgckehihboaaDoor
