/- Edges: compared, sorted, made single. -/
import Derived.Test.YtdgcgckehihboaaGreatDoorProg
import Derived.KernelRfl
import Derived.Test.YtdgcgckehihboaaGreatDoorzS2
import Derived.Test.YtdgcgckehihboaaGreatDoorzS3
import Derived.Test.YtdgcgckehihboaaGreatDoorzLs
import Derived.Test.YtdgcgckehihboaaGreatDoorzK2
import Derived.Test.YtdgcgckehihboaaGreatDoorzU1
import Derived.Test.YtdgcgckehihboaaGreatDoorzL1
set_option linter.unusedSimpArgs false
set_option linter.unusedVariables false
set_option linter.unusedSectionVars false
set_option maxHeartbeats 4000000
set_option maxRecDepth 100000
namespace Go.Proofs.YtdgcgckehihboaaGreatDoor
variable [Go.Av.DoorC]
open Go.Shelf Go.RowKit Go.Lib Go.Sort Go.Av
abbrev f_impl_compareEdges : Nat := 30
def c_impl_compareEdges : SC :=
 .seq (.reg [
     ⟨(some 2), .box 49 (.tmp 0), none⟩,
     ⟨(some 3), .box 49 (.tmp 1), none⟩,
     ⟨(some 4), .mv (.const (.int .i64 0)), none⟩] [2, 3])
 (.seq (.reg [
     ⟨(some 5), .faddr 0 (.tmp 2), none⟩,
     ⟨(some 6), .load 1 false (.tmp 5), none⟩,
     ⟨(some 7), .faddr 0 (.tmp 3), none⟩,
     ⟨(some 8), .load 1 false (.tmp 7), none⟩,
     ⟨(some 9), .qcall 56 [(.tmp 6), (.tmp 8)], none⟩,
     ⟨(some 10), .faddr 1 (.tmp 2), none⟩,
     ⟨(some 11), .load 1 false (.tmp 10), none⟩,
     ⟨(some 12), .faddr 1 (.tmp 3), none⟩,
     ⟨(some 13), .load 1 false (.tmp 12), none⟩,
     ⟨(some 14), .qcall 56 [(.tmp 11), (.tmp 13)], none⟩,
     ⟨(some 15), .bslice 3 1 2 [(.int .i64 0), (.int .i64 0)] [(0, (.tmp 9)), (1, (.tmp 14))], none⟩,
     ⟨(some 16), .qcall 55 [(.tmp 15)], none⟩,
     ⟨(some 4), .mv (.tmp 16), none⟩] [4])
 (.ret))
theorem s_impl_compareEdges : stripF Tryz.prog 30 [[2, 3], [4]] = some (c_impl_compareEdges, [.tmp 4], 17) := by kernel_rfl
abbrev f_cmp_Or_int : Nat := 55
def c_cmp_Or_int : SC :=
 .seq (.reg [
     ⟨(some 2), .mv (.const (.int .i64 0)), none⟩] [0])
 (.seq (.reg [
     ⟨(some 3), .mv (.const (.int .i64 0)), none⟩] [0, 3])
 (.seq (.seq (.reg [
     ⟨(some 6), .mv (.tmp 0), none⟩,
     ⟨(some 7), .len (.tmp 6), none⟩,
     ⟨(some 8), .mv (.const (.int .i64 0)), none⟩] [3, 6, 7, 8])
 (.block 0 (.loop [3, 6, 7, 8]
   (.seq (.reg [
       ⟨(some 9), .bin .lss (.tmp 8) (.tmp 7), none⟩] [3, 6, 7, 8, 9])
   (.seq (.cond (.tmp 9)
    (.skip)
    (.exit 0))
   (.seq (.block 1 (.seq (.reg [
        ⟨(some 10), .iaddr 1 (.tmp 6) (.tmp 8), none⟩,
        ⟨(some 11), .load 1 false (.tmp 10), none⟩,
        ⟨(some 5), .mv (.tmp 11), none⟩] [3, 5, 6, 7, 8])
    (.seq (.reg [
        ⟨(some 12), .mv (.tmp 5), none⟩,
        ⟨(some 13), .mv (.tmp 3), none⟩,
        ⟨(some 14), .bin .neq (.tmp 12) (.tmp 13), none⟩] [3, 5, 6, 7, 8, 14])
    (.cond (.tmp 14)
     (.seq (.reg [
         ⟨(some 15), .mv (.tmp 5), none⟩,
         ⟨(some 2), .mv (.tmp 15), none⟩] [2])
     (.ret))
     (.skip)))))
   (.reg [
       ⟨(some 16), .bin .add (.tmp 8) (.const (.int .i64 1)), none⟩,
       ⟨(some 8), .mv (.tmp 16), none⟩] [3, 6, 7, 8])))))))
 (.seq (.reg [
     ⟨(some 17), .mv (.tmp 3), none⟩,
     ⟨(some 2), .mv (.tmp 17), none⟩] [2])
 (.ret))))
theorem s_cmp_Or_int : stripF Tryz.prog 55 [[0], [0, 3], [3, 6, 7, 8], [3, 6, 7, 8], [3, 6, 7, 8, 9], [3, 5, 6, 7, 8], [3, 5, 6, 7, 8, 14], [2], [3, 6, 7, 8], [2]] = some (c_cmp_Or_int, [.tmp 2], 18) := by kernel_rfl
abbrev f_slices_Compact_Limpl_Edge_impl_Edge : Nat := 76
def c_slices_Compact_Limpl_Edge_impl_Edge : SC :=
 .seq (.reg [
     ⟨(some 2), .mv (.const (.slice none 0 0)), none⟩] [0])
 (.seq (.seq (.reg [
     ⟨(some 6), .mv (.tmp 0), none⟩,
     ⟨(some 7), .len (.tmp 6), none⟩,
     ⟨(some 8), .bin .lss (.tmp 7) (.const (.int .i64 2)), none⟩] [0, 8])
 (.cond (.tmp 8)
  (.seq (.reg [
      ⟨(some 9), .mv (.tmp 0), none⟩,
      ⟨(some 2), .mv (.tmp 9), none⟩] [2])
  (.ret))
  (.skip)))
 (.seq (.seq (.reg [
     ⟨(some 3), .mv (.const (.int .i64 1)), none⟩] [0, 3])
 (.block 0 (.loop [0, 3]
   (.seq (.seq (.reg [
       ⟨(some 10), .mv (.tmp 3), none⟩,
       ⟨(some 11), .mv (.tmp 0), none⟩,
       ⟨(some 12), .len (.tmp 11), none⟩,
       ⟨(some 13), .bin .lss (.tmp 10) (.tmp 12), none⟩] [0, 3, 13])
   (.cond (.tmp 13)
    (.skip)
    (.exit 0)))
   (.seq (.block 1 (.seq (.reg [
        ⟨(some 16), .mv (.tmp 0), none⟩,
        ⟨(some 17), .mv (.tmp 3), none⟩,
        ⟨(some 18), .iaddr 2 (.tmp 16) (.tmp 17), none⟩,
        ⟨(some 19), .load 2 true (.tmp 18), none⟩,
        ⟨(some 20), .mv (.tmp 0), none⟩,
        ⟨(some 21), .mv (.tmp 3), none⟩,
        ⟨(some 22), .bin .sub (.tmp 21) (.const (.int .i64 1)), none⟩,
        ⟨(some 23), .iaddr 2 (.tmp 20) (.tmp 22), none⟩,
        ⟨(some 24), .load 2 true (.tmp 23), none⟩,
        ⟨(some 25), .eqs false (.tmp 19) (.tmp 24), none⟩] [0, 3, 25])
    (.cond (.tmp 25)
     (.seq (.reg [
         ⟨(some 26), .mv (.tmp 0), none⟩,
         ⟨(some 27), .mv (.tmp 3), none⟩,
         ⟨(some 28), .slc 2 (.tmp 26) (some (.tmp 27)) none, none⟩,
         ⟨(some 4), .mv (.tmp 28), none⟩] [0, 3, 4])
     (.seq (.seq (.reg [
         ⟨(some 5), .mv (.const (.int .i64 1)), none⟩] [0, 3, 4, 5])
     (.block 2 (.loop [0, 3, 4, 5]
       (.seq (.seq (.reg [
           ⟨(some 29), .mv (.tmp 5), none⟩,
           ⟨(some 30), .mv (.tmp 4), none⟩,
           ⟨(some 31), .len (.tmp 30), none⟩,
           ⟨(some 32), .bin .lss (.tmp 29) (.tmp 31), none⟩] [0, 3, 4, 5, 32])
       (.cond (.tmp 32)
        (.skip)
        (.exit 2)))
       (.seq (.block 3 (.seq (.reg [
            ⟨(some 35), .mv (.tmp 4), none⟩,
            ⟨(some 36), .mv (.tmp 5), none⟩,
            ⟨(some 37), .iaddr 2 (.tmp 35) (.tmp 36), none⟩,
            ⟨(some 38), .load 2 true (.tmp 37), none⟩,
            ⟨(some 39), .mv (.tmp 4), none⟩,
            ⟨(some 40), .mv (.tmp 5), none⟩,
            ⟨(some 41), .bin .sub (.tmp 40) (.const (.int .i64 1)), none⟩,
            ⟨(some 42), .iaddr 2 (.tmp 39) (.tmp 41), none⟩,
            ⟨(some 43), .load 2 true (.tmp 42), none⟩,
            ⟨(some 44), .eqs true (.tmp 38) (.tmp 43), none⟩] [0, 3, 4, 5, 44])
        (.cond (.tmp 44)
         (.seq (.reg [
             ⟨(some 45), .mv (.tmp 0), none⟩,
             ⟨(some 46), .mv (.tmp 3), none⟩,
             ⟨(some 47), .mv (.tmp 4), none⟩,
             ⟨(some 48), .mv (.tmp 5), none⟩,
             ⟨(some 49), .iaddr 2 (.tmp 47) (.tmp 48), none⟩,
             ⟨(some 50), .load 2 true (.tmp 49), none⟩,
             ⟨(some 51), .iaddr 2 (.tmp 45) (.tmp 46), none⟩,
             ⟨none, .store 2 (.tmp 51) (.tmp 50), none⟩] [0, 3, 4, 5])
         (.reg [
             ⟨(some 52), .mv (.tmp 3), none⟩,
             ⟨(some 53), .bin .add (.tmp 52) (.const (.int .i64 1)), none⟩,
             ⟨(some 3), .mv (.tmp 53), none⟩] [0, 3, 4, 5]))
         (.skip))))
       (.reg [
           ⟨(some 33), .mv (.tmp 5), none⟩,
           ⟨(some 34), .bin .add (.tmp 33) (.const (.int .i64 1)), none⟩,
           ⟨(some 5), .mv (.tmp 34), none⟩] [0, 3, 4, 5]))))))
     (.seq (.reg [
         ⟨(some 54), .mv (.tmp 0), none⟩,
         ⟨(some 55), .mv (.tmp 3), none⟩,
         ⟨(some 56), .slc 2 (.tmp 54) (some (.tmp 55)) none, none⟩,
         ⟨none, .bad, none⟩] [0, 3])
     (.seq (.reg [
         ⟨(some 57), .mv (.tmp 0), none⟩,
         ⟨(some 58), .mv (.tmp 3), none⟩,
         ⟨(some 59), .slc 2 (.tmp 57) none (some (.tmp 58)), none⟩,
         ⟨(some 2), .mv (.tmp 59), none⟩] [2])
     (.ret)))))
     (.skip))))
   (.reg [
       ⟨(some 14), .mv (.tmp 3), none⟩,
       ⟨(some 15), .bin .add (.tmp 14) (.const (.int .i64 1)), none⟩,
       ⟨(some 3), .mv (.tmp 15), none⟩] [0, 3]))))))
 (.seq (.reg [
     ⟨(some 60), .mv (.tmp 0), none⟩,
     ⟨(some 2), .mv (.tmp 60), none⟩] [2])
 (.ret))))
theorem s_slices_Compact_Limpl_Edge_impl_Edge : stripF Tryz.prog 76 [[0], [0, 8], [2], [0, 3], [0, 3], [0, 3, 13], [0, 3, 25], [0, 3, 4], [0, 3, 4, 5], [0, 3, 4, 5], [0, 3, 4, 5, 32], [0, 3, 4, 5, 44], [0, 3, 4, 5], [0, 3, 4, 5], [0, 3, 4, 5], [0, 3], [2], [0, 3], [2]] = some (c_slices_Compact_Limpl_Edge_impl_Edge, [.tmp 2], 61) := by kernel_rfl
abbrev tyE : Nat := 49
abbrev n_SortE : Nat := 75
theorem sortE_p : SortsE Tryz.prog n_SortE := fun cf hO g cb blk off cap d w eg hcmp hH hblk hsz =>
  AnyQ.slices_SortFunc Tryz.sortE 2 (fun w => by kernel_rfl) (fun w => by kernel_rfl) encE (fun _ => rfl) (fun x v hv => by simp only [encE, List.mem_cons, List.not_mem_nil, or_false] at hv; rcases hv with rfl | rfl <;> rfl) cf hO g cb blk off cap d w eg hcmp hH hblk hsz
theorem sortE_n : SortsN Tryz.prog n_SortE := fun p cap fv w => AnyF.slices_SortFunc_none Tryz.sortE p cap fv w
def ilE (es : List (Int × Int)) : AV := .il es.length (flatE es)
def RdE (H : List Blk) (a : AV) (es : List (Int × Int)) : Prop := aview H a = some (es.length, flatE es)
theorem rd_ilE (H : List Blk) (es : List (Int × Int)) : RdE H (ilE es) es := rfl
theorem rd_nmE {H : List Blk} {i ver ty : Nat} {es : List (Int × Int)} (h : H[i]? = some ⟨ver, ty, 2, flatE es⟩) : RdE H (.nm i ver 0 es.length) es := by
  unfold RdE
  simp only [aview, h, if_true, List.drop_zero]
  rw [List.take_of_length_le (by rw [flatE_length]; omega)]
theorem RdE.append {H : List Blk} {a : AV} {es : List (Int × Int)} (h : RdE H a es) (ext : List Blk) : RdE (H ++ ext) a es := aview_append h ext
theorem flatE_drop : ∀ (es : List (Int × Int)) (j : Nat), j < es.length → ((flatE es).drop (j * 2)).take 2 = [I (es.getD j (0, 0)).1, I (es.getD j (0, 0)).2]
  | [], _, h => by simp at h
  | e :: es, 0, _ => rfl
  | e :: es, j + 1, h => by
    have := flatE_drop es j (by simpa using h)
    rw [show (j + 1) * 2 = j * 2 + 2 by omega]
    simpa [flatE] using this
theorem RdE.ld {H : List Blk} {a : AV} {es : List (Int × Int)} (h : RdE H a es) {j : Nat} (hj : j < es.length) : acells H 2 (.el a (j * 2)) = some [I (es.getD j (0, 0)).1, I (es.getD j (0, 0)).2] := by
  unfold RdE at h
  simp only [acells, h]
  rw [if_pos (by rw [flatE_length]; omega), flatE_drop es j hj]
def cmpE (a b : Int × Int) : Int := if cmpI a.1 b.1 = 0 then cmpI a.2 b.2 else cmpI a.1 b.1
theorem cmpI_totE : TotC cmpI := by
  refine ⟨fun x y => ?_, fun x y => ?_, fun x y z h1 h2 => ?_⟩
  · unfold cmpI
    by_cases h1 : x < y
    · rw [if_pos h1, if_neg (by omega), if_pos h1] <;> omega
    · by_cases h2 : y < x
      · rw [if_pos h2, if_neg h1, if_pos h2] <;> omega
      · rw [if_neg h2, if_neg h1, if_neg h1, if_neg h2] <;> omega
  · unfold cmpI
    by_cases h1 : x < y
    · rw [if_pos h1]; omega
    · by_cases h2 : y < x
      · rw [if_neg h1, if_pos h2]; omega
      · rw [if_neg h1, if_neg h2]; omega
  · have e1 : x < y := by
      unfold cmpI at h1
      by_cases h : x < y
      · exact h
      · rw [if_neg h] at h1; split at h1 <;> omega
    have e2 : y < z := by
      unfold cmpI at h2
      by_cases h : y < z
      · exact h
      · rw [if_neg h] at h2; split at h2 <;> omega
    unfold cmpI
    rw [if_pos (by omega)]; omega
theorem lex_tot {A B : Type} {cf : A → A → Int} {cg : B → B → Int} (hf : TotC cf) (hg : TotC cg) : TotC (fun a b : A × B => if cf a.1 b.1 = 0 then cg a.2 b.2 else cf a.1 b.1) := by
  refine ⟨fun x y => ?_, fun x y => ?_, fun x y z h1 h2 => ?_⟩
  · have h := hf.neg x.1 y.1
    by_cases h0 : cf x.1 y.1 = 0
    · simp only [if_pos h0, if_pos (show cf y.1 x.1 = 0 by omega)]; exact hg.neg _ _
    · simp only [if_neg h0, if_neg (show ¬ cf y.1 x.1 = 0 by omega)]; exact h
  · obtain ⟨a, b⟩ := x
    obtain ⟨c, d⟩ := y
    by_cases h0 : cf a c = 0
    · show (if cf a c = 0 then cg b d else cf a c) = 0 ↔ (a, b) = (c, d)
      rw [if_pos h0, hg.eq0, Prod.mk.injEq, (hf.eq0 a c).1 h0]; simp
    · show (if cf a c = 0 then cg b d else cf a c) = 0 ↔ (a, b) = (c, d)
      rw [if_neg h0, Prod.mk.injEq]
      constructor
      · intro h; exact absurd h h0
      · rintro ⟨rfl, _⟩; exact (hf.eq0 _ _).2 rfl
  · replace h1 : (if cf x.1 y.1 = 0 then cg x.2 y.2 else cf x.1 y.1) < 0 := h1
    replace h2 : (if cf y.1 z.1 = 0 then cg y.2 z.2 else cf y.1 z.1) < 0 := h2
    show (if cf x.1 z.1 = 0 then cg x.2 z.2 else cf x.1 z.1) < 0
    by_cases h0 : cf x.1 y.1 = 0
    · have e := (hf.eq0 _ _).1 h0
      rw [if_pos h0] at h1
      rw [e]
      by_cases h3 : cf y.1 z.1 = 0
      · rw [if_pos h3] at h2 ⊢; exact hg.trans _ _ _ h1 h2
      · rw [if_neg h3] at h2 ⊢; exact h2
    · rw [if_neg h0] at h1
      by_cases h3 : cf y.1 z.1 = 0
      · have e := (hf.eq0 _ _).1 h3
        rw [← e, if_neg h0]; exact h1
      · rw [if_neg h3] at h2
        have h4 := hf.trans _ _ _ h1 h2
        rw [if_neg (by omega)]; exact h4
theorem cmpE_tot : TotC cmpE := lex_tot cmpI_totE cmpI_totE
theorem cmpOr_fn (x y : Int) : PFn Tryz.prog f_cmp_Or_int [ilS [x, y]] (I (if x = 0 then y else x)) := by
  intro H; refine ACalls.introB s_cmp_Or_int (by simp) ?_; intro hB hA; unfold c_cmp_Or_int; simp (config := { maxSteps := 1000000 }) (disch := (first | omega | (simp only [go_sem]; try omega))) only [go_sem, Nat.reduceAdd, Nat.reduceEqDiff, Nat.reduceLeDiff, Nat.reduceMul, Nat.reduceLT, reduceIte, Int.reduceToNat, w64_id, cast_succ]
  repeat (first | (with_reducible first | refine SW.seq ?_ | refine SW.block ?_ | refine SW.rowC ?_ | refine SW.skip ?_ | refine SW.exit ?_ | intro _ | refine And.intro (by omega) ?_) | simp (config := { maxSteps := 1000000 }) (disch := (first | omega | (simp only [go_sem]; try omega))) only [go_sem, Nat.reduceAdd, Nat.reduceEqDiff, Nat.reduceLeDiff, Nat.reduceMul, Nat.reduceLT, reduceIte, Int.reduceToNat, w64_id, cast_succ])
  refine SW.loopE (fun E0 H0 q E' H' => ∃ (pre post : List Int), [x, y] = pre ++ post ∧ q = post.length ∧ E' = aput E0 8 (I pre.length) ∧ H' = H0 ∧ ∀ z ∈ pre, z = 0) 2 ⟨[], [x, y], rfl, rfl, rfl, rfl, by simp⟩ ?_
  rintro q E' H' ⟨pre, post, hpp, rfl, rfl, rfl, hz⟩
  simp (config := { maxSteps := 1000000 }) (disch := (first | omega | (simp only [go_sem]; try omega))) only [go_sem, Nat.reduceAdd, Nat.reduceEqDiff, Nat.reduceLeDiff, Nat.reduceMul, Nat.reduceLT, reduceIte, Int.reduceToNat, w64_id, cast_succ]
  repeat (first | (with_reducible first | refine SW.seq ?_ | refine SW.block ?_ | refine SW.rowC ?_ | refine SW.skip ?_ | refine SW.exit ?_ | intro _ | refine And.intro (by omega) ?_) | simp (config := { maxSteps := 1000000 }) (disch := (first | omega | (simp only [go_sem]; try omega))) only [go_sem, Nat.reduceAdd, Nat.reduceEqDiff, Nat.reduceLeDiff, Nat.reduceMul, Nat.reduceLT, reduceIte, Int.reduceToNat, w64_id, cast_succ])
  by_cases h : pre.length < 2
  · obtain ⟨z, post, rfl, hg, -⟩ := consOf (d := 0) hpp (by simpa using h)
    have hd : decide ((pre.length : Int) < ((2 : Nat) : Int)) = true := decide_eq_true (by omega)
    repeat (first | (with_reducible first | refine SW.seq ?_ | refine SW.block ?_ | refine SW.rowC ?_ | refine SW.skip ?_ | refine SW.exit ?_ | intro _ | refine And.intro (by omega) ?_) | simp (config := { maxSteps := 1000000 }) (disch := (first | omega | (simp only [go_sem]; try omega))) only [go_sem, Nat.reduceAdd, Nat.reduceEqDiff, Nat.reduceLeDiff, Nat.reduceMul, Nat.reduceLT, reduceIte, Int.reduceToNat, w64_id, cast_succ, hd])
    refine SW.condT rfl ?_
    have hgi : [I x, I y][pre.length]? = some (I z) := by
      have : ([x, y].map I)[pre.length]? = some (I z) := by rw [hpp]; simp
      exact this
    repeat (first | (with_reducible first | refine SW.seq ?_ | refine SW.block ?_ | refine SW.rowC ?_ | refine SW.skip ?_ | refine SW.exit ?_ | intro _ | refine And.intro (by omega) ?_) | simp (config := { maxSteps := 1000000 }) (disch := (first | omega | (simp only [go_sem]; try omega))) only [go_sem, Nat.reduceAdd, Nat.reduceEqDiff, Nat.reduceLeDiff, Nat.reduceMul, Nat.reduceLT, reduceIte, Int.reduceToNat, w64_id, cast_succ, hgi])
    by_cases h0 : z = 0
    · have hd2 : decide (z = 0) = true := decide_eq_true h0
      repeat (first | (with_reducible first | refine SW.seq ?_ | refine SW.block ?_ | refine SW.rowC ?_ | refine SW.skip ?_ | refine SW.exit ?_ | intro _ | refine And.intro (by omega) ?_) | simp (config := { maxSteps := 1000000 }) (disch := (first | omega | (simp only [go_sem]; try omega))) only [go_sem, Nat.reduceAdd, Nat.reduceEqDiff, Nat.reduceLeDiff, Nat.reduceMul, Nat.reduceLT, reduceIte, Int.reduceToNat, w64_id, cast_succ, hd2])
      refine SW.condF rfl ?_
      repeat (first | (with_reducible first | refine SW.seq ?_ | refine SW.block ?_ | refine SW.rowC ?_ | refine SW.skip ?_ | refine SW.exit ?_ | intro _ | refine And.intro (by omega) ?_) | simp (config := { maxSteps := 1000000 }) (disch := (first | omega | (simp only [go_sem]; try omega))) only [go_sem, Nat.reduceAdd, Nat.reduceEqDiff, Nat.reduceLeDiff, Nat.reduceMul, Nat.reduceLT, reduceIte, Int.reduceToNat, w64_id, cast_succ])
      refine SLoop.next post.length (by simp) ⟨pre ++ [z], post, by simp [hpp], rfl, by simp [go_sem], rfl, ?_⟩
      intro w hw
      rcases List.mem_append.1 hw with hw | hw
      · exact hz w hw
      · rw [List.mem_singleton.1 hw]; exact h0
    · have hd2 : decide (z = 0) = false := decide_eq_false h0
      repeat (first | (with_reducible first | refine SW.seq ?_ | refine SW.block ?_ | refine SW.rowC ?_ | refine SW.skip ?_ | refine SW.exit ?_ | intro _ | refine And.intro (by omega) ?_) | simp (config := { maxSteps := 1000000 }) (disch := (first | omega | (simp only [go_sem]; try omega))) only [go_sem, Nat.reduceAdd, Nat.reduceEqDiff, Nat.reduceLeDiff, Nat.reduceMul, Nat.reduceLT, reduceIte, Int.reduceToNat, w64_id, cast_succ, hd2])
      refine SW.condT rfl ?_
      repeat (first | (with_reducible first | refine SW.seq ?_ | refine SW.block ?_ | refine SW.rowC ?_ | refine SW.skip ?_ | refine SW.exit ?_ | intro _ | refine And.intro (by omega) ?_) | simp (config := { maxSteps := 1000000 }) (disch := (first | omega | (simp only [go_sem]; try omega))) only [go_sem, Nat.reduceAdd, Nat.reduceEqDiff, Nat.reduceLeDiff, Nat.reduceMul, Nat.reduceLT, reduceIte, Int.reduceToNat, w64_id, cast_succ])
      refine SW.ret ?_; (try simp only [go_sem]); (first | refine FunPost.one ?_ | refine FunPost.two ?_ | refine FunPost.three ?_); (try simp (config := { maxSteps := 1000000 }) (disch := (first | omega | (simp only [go_sem]; try omega))) only [go_sem, Nat.reduceAdd, Nat.reduceEqDiff, Nat.reduceLeDiff, Nat.reduceMul, Nat.reduceLT, reduceIte, Int.reduceToNat, w64_id, cast_succ]); (first | (with_reducible refine GR.drop ?_ ?_; (simp only [go_sem, and_self, and_true, true_and, implies_true, List.take_succ_cons, List.take_zero])) | refine GR.of ?_); refine ⟨?_, rfl⟩; (try with_reducible rfl)
      match pre, hpp, hz with
      | [], hpp, _ => simp at hpp; rw [hpp.1, if_neg h0]
      | [a], hpp, hz => simp at hpp; have := hz a (by simp); rw [hpp.1, if_pos this, hpp.2.1]
      | a :: b :: c, hpp, _ => simp at h; omega
  · have hd : decide ((pre.length : Int) < ((2 : Nat) : Int)) = false := decide_eq_false (by omega)
    repeat (first | (with_reducible first | refine SW.seq ?_ | refine SW.block ?_ | refine SW.rowC ?_ | refine SW.skip ?_ | refine SW.exit ?_ | intro _ | refine And.intro (by omega) ?_) | simp (config := { maxSteps := 1000000 }) (disch := (first | omega | (simp only [go_sem]; try omega))) only [go_sem, Nat.reduceAdd, Nat.reduceEqDiff, Nat.reduceLeDiff, Nat.reduceMul, Nat.reduceLT, reduceIte, Int.reduceToNat, w64_id, cast_succ, hd])
    refine SW.condF rfl ?_
    repeat (first | (with_reducible first | refine SW.seq ?_ | refine SW.block ?_ | refine SW.rowC ?_ | refine SW.skip ?_ | refine SW.exit ?_ | intro _ | refine And.intro (by omega) ?_) | simp (config := { maxSteps := 1000000 }) (disch := (first | omega | (simp only [go_sem]; try omega))) only [go_sem, Nat.reduceAdd, Nat.reduceEqDiff, Nat.reduceLeDiff, Nat.reduceMul, Nat.reduceLT, reduceIte, Int.reduceToNat, w64_id, cast_succ])
    refine SW.ret ?_; (try simp only [go_sem]); (first | refine FunPost.one ?_ | refine FunPost.two ?_ | refine FunPost.three ?_); (try simp (config := { maxSteps := 1000000 }) (disch := (first | omega | (simp only [go_sem]; try omega))) only [go_sem, Nat.reduceAdd, Nat.reduceEqDiff, Nat.reduceLeDiff, Nat.reduceMul, Nat.reduceLT, reduceIte, Int.reduceToNat, w64_id, cast_succ]); (first | (with_reducible refine GR.drop ?_ ?_; (simp only [go_sem, and_self, and_true, true_and, implies_true, List.take_succ_cons, List.take_zero])) | refine GR.of ?_); refine ⟨?_, rfl⟩; (try with_reducible rfl)
    match pre, hpp, hz with
    | [], _, _ => simp at h
    | [a], _, _ => simp at h
    | a :: b :: c, hpp, hz => simp at hpp; have h1 := hz a (by simp); have h2 := hz b (by simp); rw [hpp.1, hpp.2.1, h1, h2]; rfl
theorem compareEdges_fn (a b : Int × Int) : PFn Tryz.prog f_impl_compareEdges [agE a, agE b] (I (cmpE a b)) := by
  unfold agE
  intro H; refine ACalls.introB s_impl_compareEdges (by simp) ?_; intro hB hA; unfold c_impl_compareEdges; simp (config := { maxSteps := 1000000 }) (disch := (first | omega | (simp only [go_sem]; try omega))) only [go_sem, Nat.reduceAdd, Nat.reduceEqDiff, Nat.reduceLeDiff, Nat.reduceMul, Nat.reduceLT, reduceIte, Int.reduceToNat, w64_id, cast_succ]
  repeat (first | (with_reducible first | refine SW.seq ?_ | refine SW.block ?_ | refine SW.rowC ?_ | refine SW.skip ?_ | refine SW.exit ?_ | refine PFn.use (cmpCompare_fn _ _) ?_ | refine PFn.useq (cmpCompare_fn _ _) ?_ | intro _ | refine And.intro (by omega) ?_) | simp (config := { maxSteps := 1000000 }) (disch := (first | omega | (simp only [go_sem]; try omega))) only [go_sem, Nat.reduceAdd, Nat.reduceEqDiff, Nat.reduceLeDiff, Nat.reduceMul, Nat.reduceLT, reduceIte, Int.reduceToNat, w64_id, cast_succ])
  refine PFn.uselq (cmpOr_fn (cmpI a.1 b.1) (cmpI a.2 b.2)) (.cons (froz_rowI (xs := [cmpI a.1 b.1, cmpI a.2 b.2]) (r := H.length + 2) (ver := 0) (ty := 3) (Nat.zero_le _) (by simp)) .nil) ?_
  repeat (first | (with_reducible first | refine SW.seq ?_ | refine SW.block ?_ | refine SW.rowC ?_ | refine SW.skip ?_ | refine SW.exit ?_ | intro _ | refine And.intro (by omega) ?_) | simp (config := { maxSteps := 1000000 }) (disch := (first | omega | (simp only [go_sem]; try omega))) only [go_sem, Nat.reduceAdd, Nat.reduceEqDiff, Nat.reduceLeDiff, Nat.reduceMul, Nat.reduceLT, reduceIte, Int.reduceToNat, w64_id, cast_succ])
  refine SW.ret ?_; (try simp only [go_sem]); (first | refine FunPost.one ?_ | refine FunPost.two ?_ | refine FunPost.three ?_); (try simp (config := { maxSteps := 1000000 }) (disch := (first | omega | (simp only [go_sem]; try omega))) only [go_sem, Nat.reduceAdd, Nat.reduceEqDiff, Nat.reduceLeDiff, Nat.reduceMul, Nat.reduceLT, reduceIte, Int.reduceToNat, w64_id, cast_succ]); (first | (with_reducible refine GR.drop ?_ ?_; (simp only [go_sem, and_self, and_true, true_and, implies_true, List.take_succ_cons, List.take_zero])) | refine GR.of ?_); refine ⟨?_, rfl⟩; (try with_reducible rfl)
  rfl
theorem compareEdges_call : callable Tryz.prog f_impl_compareEdges = true := by kernel_rfl
theorem compactE_ok (H : List Blk) (i ver ty : Nat) (es : List (Int × Int)) (hi : H[i]? = some ⟨ver, ty, 2, flatE es⟩) (hd : Asc cmpE es) (hl : es.length ≤ 2000000) :
    ACalls Tryz.prog f_slices_Compact_Limpl_Edge_impl_Edge [.nm i ver 0 es.length] H (fun r H' => r = .nm i ver 0 es.length ∧ H' = H) := by
  have hr := rd_nmE hi
  have hv : aview H (.nm i ver 0 es.length) = some (es.length, flatE es) := hr
  refine ACalls.introB s_slices_Compact_Limpl_Edge_impl_Edge (by simp) ?_; intro hB hA; unfold c_slices_Compact_Limpl_Edge_impl_Edge; simp (config := { maxSteps := 1000000 }) (disch := (first | omega | (simp only [go_sem]; try omega))) only [go_sem, Nat.reduceAdd, Nat.reduceEqDiff, Nat.reduceLeDiff, Nat.reduceMul, Nat.reduceLT, reduceIte, Int.reduceToNat, w64_id, cast_succ]
  repeat (first | (with_reducible first | refine SW.seq ?_ | refine SW.block ?_ | refine SW.rowC ?_ | refine SW.skip ?_ | refine SW.exit ?_ | intro _ | refine And.intro (by omega) ?_) | simp (config := { maxSteps := 1000000 }) (disch := (first | omega | (simp only [go_sem]; try omega))) only [go_sem, Nat.reduceAdd, Nat.reduceEqDiff, Nat.reduceLeDiff, Nat.reduceMul, Nat.reduceLT, reduceIte, Int.reduceToNat, w64_id, cast_succ, hv])
  by_cases h2 : es.length < 2
  · have hd2 : decide ((es.length : Int) < 2) = true := decide_eq_true (by omega)
    repeat (first | (with_reducible first | refine SW.seq ?_ | refine SW.block ?_ | refine SW.rowC ?_ | refine SW.skip ?_ | refine SW.exit ?_ | intro _ | refine And.intro (by omega) ?_) | simp (config := { maxSteps := 1000000 }) (disch := (first | omega | (simp only [go_sem]; try omega))) only [go_sem, Nat.reduceAdd, Nat.reduceEqDiff, Nat.reduceLeDiff, Nat.reduceMul, Nat.reduceLT, reduceIte, Int.reduceToNat, w64_id, cast_succ, hd2])
    refine SW.condT rfl ?_
    repeat (first | (with_reducible first | refine SW.seq ?_ | refine SW.block ?_ | refine SW.rowC ?_ | refine SW.skip ?_ | refine SW.exit ?_ | intro _ | refine And.intro (by omega) ?_) | simp (config := { maxSteps := 1000000 }) (disch := (first | omega | (simp only [go_sem]; try omega))) only [go_sem, Nat.reduceAdd, Nat.reduceEqDiff, Nat.reduceLeDiff, Nat.reduceMul, Nat.reduceLT, reduceIte, Int.reduceToNat, w64_id, cast_succ])
    refine SW.ret ?_; (try simp only [go_sem]); (first | refine FunPost.one ?_ | refine FunPost.two ?_ | refine FunPost.three ?_); (try simp (config := { maxSteps := 1000000 }) (disch := (first | omega | (simp only [go_sem]; try omega))) only [go_sem, Nat.reduceAdd, Nat.reduceEqDiff, Nat.reduceLeDiff, Nat.reduceMul, Nat.reduceLT, reduceIte, Int.reduceToNat, w64_id, cast_succ]); (first | (with_reducible refine GR.drop ?_ ?_; (simp only [go_sem, and_self, and_true, true_and, implies_true, List.take_succ_cons, List.take_zero])) | refine GR.of ?_); refine ⟨?_, rfl⟩; (try with_reducible rfl)
  · have hd2 : decide ((es.length : Int) < 2) = false := decide_eq_false (by omega)
    repeat (first | (with_reducible first | refine SW.seq ?_ | refine SW.block ?_ | refine SW.rowC ?_ | refine SW.skip ?_ | refine SW.exit ?_ | intro _ | refine And.intro (by omega) ?_) | simp (config := { maxSteps := 1000000 }) (disch := (first | omega | (simp only [go_sem]; try omega))) only [go_sem, Nat.reduceAdd, Nat.reduceEqDiff, Nat.reduceLeDiff, Nat.reduceMul, Nat.reduceLT, reduceIte, Int.reduceToNat, w64_id, cast_succ, hd2])
    refine SW.condF rfl ?_
    repeat (first | (with_reducible first | refine SW.seq ?_ | refine SW.block ?_ | refine SW.rowC ?_ | refine SW.skip ?_ | refine SW.exit ?_ | intro _ | refine And.intro (by omega) ?_) | simp (config := { maxSteps := 1000000 }) (disch := (first | omega | (simp only [go_sem]; try omega))) only [go_sem, Nat.reduceAdd, Nat.reduceEqDiff, Nat.reduceLeDiff, Nat.reduceMul, Nat.reduceLT, reduceIte, Int.reduceToNat, w64_id, cast_succ])
    refine SW.loopE (fun E0 H0 q E' H' => ∃ k : Nat, 1 ≤ k ∧ k ≤ es.length ∧ q = es.length - k ∧ E' = aput E0 3 (I k) ∧ H' = H0) (es.length - 1) ⟨1, by omega, by omega, rfl, rfl, rfl⟩ ?_
    rintro q E' H' ⟨k, hk1, hkl, rfl, rfl, rfl⟩
    simp (config := { maxSteps := 1000000 }) (disch := (first | omega | (simp only [go_sem]; try omega))) only [go_sem, Nat.reduceAdd, Nat.reduceEqDiff, Nat.reduceLeDiff, Nat.reduceMul, Nat.reduceLT, reduceIte, Int.reduceToNat, w64_id, cast_succ]
    repeat (first | (with_reducible first | refine SW.seq ?_ | refine SW.block ?_ | refine SW.rowC ?_ | refine SW.skip ?_ | refine SW.exit ?_ | intro _ | refine And.intro (by omega) ?_) | simp (config := { maxSteps := 1000000 }) (disch := (first | omega | (simp only [go_sem]; try omega))) only [go_sem, Nat.reduceAdd, Nat.reduceEqDiff, Nat.reduceLeDiff, Nat.reduceMul, Nat.reduceLT, reduceIte, Int.reduceToNat, w64_id, cast_succ, hv])
    (first | refine SW.condD rfl (fun h3 => ?_) (fun h3 => ?_) | refine SW.condN rfl (fun h3 => ?_) (fun h3 => ?_) | refine SW.condNB rfl (fun h3 => ?_) (fun h3 => ?_) | refine SW.condB rfl (fun h3 => ?_) (fun h3 => ?_))
    · have e1 : (k : Int) - 1 = ((k - 1 : Nat) : Int) := by omega
      have l1 := hr.ld (j := k) (by omega)
      have l2 := hr.ld (j := k - 1) (by omega)
      have hne : (decide ((es.getD k (0, 0)).1 = (es.getD (k - 1) (0, 0)).1) && decide ((es.getD k (0, 0)).2 = (es.getD (k - 1) (0, 0)).2)) = false := by
        have hp := List.pairwise_iff_getElem.1 hd (k - 1) k (by omega) (by omega) (by omega)
        rw [List.getD_eq_getElem?_getD, List.getD_eq_getElem?_getD, List.getElem?_eq_getElem (show k < es.length by omega), List.getElem?_eq_getElem (show k - 1 < es.length by omega)]
        simp only [Option.getD_some]
        rw [Bool.eq_false_iff]
        intro h
        simp only [Bool.and_eq_true, decide_eq_true_eq] at h
        have he : es[k - 1] = es[k] := Prod.ext h.1.symm h.2.symm
        rw [he] at hp
        have := (cmpE_tot.eq0 es[k] es[k]).2 rfl
        omega
      repeat (first | (with_reducible first | refine SW.seq ?_ | refine SW.block ?_ | refine SW.rowC ?_ | refine SW.skip ?_ | refine SW.exit ?_ | intro _ | refine And.intro (by omega) ?_) | simp (config := { maxSteps := 1000000 }) (disch := (first | omega | (simp only [go_sem]; try omega))) only [go_sem, Nat.reduceAdd, Nat.reduceEqDiff, Nat.reduceLeDiff, Nat.reduceMul, Nat.reduceLT, reduceIte, Int.reduceToNat, w64_id, cast_succ, hv, e1, l1, l2, hne])
      refine SW.condF rfl ?_
      repeat (first | (with_reducible first | refine SW.seq ?_ | refine SW.block ?_ | refine SW.rowC ?_ | refine SW.skip ?_ | refine SW.exit ?_ | intro _ | refine And.intro (by omega) ?_) | simp (config := { maxSteps := 1000000 }) (disch := (first | omega | (simp only [go_sem]; try omega))) only [go_sem, Nat.reduceAdd, Nat.reduceEqDiff, Nat.reduceLeDiff, Nat.reduceMul, Nat.reduceLT, reduceIte, Int.reduceToNat, w64_id, cast_succ])
      refine SLoop.next (es.length - (k + 1)) (by omega) ⟨k + 1, by omega, by omega, rfl, ?_, rfl⟩
      simp [go_sem]
    · repeat (first | (with_reducible first | refine SW.seq ?_ | refine SW.block ?_ | refine SW.rowC ?_ | refine SW.skip ?_ | refine SW.exit ?_ | intro _ | refine And.intro (by omega) ?_) | simp (config := { maxSteps := 1000000 }) (disch := (first | omega | (simp only [go_sem]; try omega))) only [go_sem, Nat.reduceAdd, Nat.reduceEqDiff, Nat.reduceLeDiff, Nat.reduceMul, Nat.reduceLT, reduceIte, Int.reduceToNat, w64_id, cast_succ])
      refine SW.ret ?_; (try simp only [go_sem]); (first | refine FunPost.one ?_ | refine FunPost.two ?_ | refine FunPost.three ?_); (try simp (config := { maxSteps := 1000000 }) (disch := (first | omega | (simp only [go_sem]; try omega))) only [go_sem, Nat.reduceAdd, Nat.reduceEqDiff, Nat.reduceLeDiff, Nat.reduceMul, Nat.reduceLT, reduceIte, Int.reduceToNat, w64_id, cast_succ]); (first | (with_reducible refine GR.drop ?_ ?_; (simp only [go_sem, and_self, and_true, true_and, implies_true, List.take_succ_cons, List.take_zero])) | refine GR.of ?_); refine ⟨?_, rfl⟩; (try with_reducible rfl)
end Go.Proofs.YtdgcgckehihboaaGreatDoor
namespace Go.Proofs.YtdgcgckehihboaaGreatDoor
variable [Go.Av.DoorC]
open Go.Av
def OwnE (H : List Blk) (N : Nat → Prop) (c : AV) (es : List (Int × Int)) : Prop :=
  (∃ r ver ty, c = .nm r ver 0 es.length ∧ N r ∧ H[r]? = some ⟨ver, ty, 2, flatE es⟩) ∨ (es = [] ∧ (c = nilS ∨ c = .il 0 []))
theorem OwnE.rd {H : List Blk} {N : Nat → Prop} {c : AV} {es : List (Int × Int)} (h : OwnE H N c es) : RdE H c es := by
  rcases h with ⟨r, ver, ty, rfl, _, h3⟩ | ⟨rfl, rfl | rfl⟩
  · exact rd_nmE h3
  · rfl
  · rfl
theorem OwnE.one {H : List Blk} {N : Nat → Prop} {c : AV} {es : List (Int × Int)} (h : OwnE H N c es) : c.cell1 = true ∧ partsOf c = [c] := by
  rcases h with ⟨r, ver, ty, rfl, _, h3⟩ | ⟨rfl, rfl | rfl⟩ <;> exact ⟨rfl, rfl⟩
theorem OwnE.same {H H' : List Blk} {N : Nat → Prop} {c : AV} {es : List (Int × Int)} (h : OwnE H N c es) (hs : ∀ j b, N j → H[j]? = some b → H'[j]? = some b) : OwnE H' N c es := by
  rcases h with ⟨r, ver, ty, hc, h2, h3⟩ | h
  · exact .inl ⟨r, ver, ty, hc, h2, hs r _ h2 h3⟩
  · exact .inr h
theorem OwnE.append {H : List Blk} {N : Nat → Prop} {c : AV} {es : List (Int × Int)} (h : OwnE H N c es) (ext : List Blk) : OwnE (H ++ ext) N c es :=
  h.same (fun j b _ hb => by rw [List.getElem?_append_left (List.getElem?_eq_some_iff.1 hb).1]; exact hb)
theorem OwnE.weak {H : List Blk} {N N' : Nat → Prop} {c : AV} {es : List (Int × Int)} (h : OwnE H N c es) (hN : ∀ r, N r → r < H.length → N' r) : OwnE H N' c es := by
  rcases h with ⟨r, ver, ty, hc, h2, h3⟩ | h
  · exact .inl ⟨r, ver, ty, hc, hN r h2 (List.getElem?_eq_some_iff.1 h3).1, h3⟩
  · exact .inr h
end Go.Proofs.YtdgcgckehihboaaGreatDoor
