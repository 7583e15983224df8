/- Numbers as texts: the reference. -/
import Derived.Test.YtdgcgckehihboaaDoorProg
import Derived.KernelRfl
import Derived.Test.YtdgcgckehihboaaDoorZA
import Derived.Test.YtdgcgckehihboaaDoorU1
import Derived.Test.YtdgcgckehihboaaDoorNF
import Derived.Test.YtdgcgckehihboaaDoorT0
set_option linter.unusedSimpArgs false
set_option linter.unusedVariables false
set_option maxHeartbeats 4000000
set_option maxRecDepth 100000
namespace Go.Proofs.YtdgcgckehihboaaDoor
open Go.Av

/-! The abstract code of functions, printed by program and tied to the program by the kernel. -/
/-- loop.example/g00920/spec.l01Digit -/
abbrev f_spec_l01Digit : Nat := 26
def c_spec_l01Digit : SC :=
 .seq (.reg [
     ⟨(some 2), .mv (.const (.bool false)), none⟩] [0])
 (.seq (.reg [
     ⟨(some 3), .mv (.tmp 0), none⟩,
     ⟨(some 4), .bin .geq (.tmp 3) (.const (.int .u8 48)), none⟩,
     ⟨(some 5), .mv (.tmp 4), none⟩,
     ⟨(some 6), .mv (.tmp 0), (some (5, true))⟩,
     ⟨(some 7), .bin .leq (.tmp 6) (.const (.int .u8 57)), (some (5, true))⟩,
     ⟨(some 8), .pick (.tmp 5) (.tmp 7) (.const (.bool false)), none⟩,
     ⟨(some 2), .mv (.tmp 8), none⟩] [2])
 (.ret))
theorem s_spec_l01Digit : stripF Tryd.prog 26 [[0], [2]] = some (c_spec_l01Digit, [.tmp 2], 9) := by kernel_rfl

/-- loop.example/g00920/spec.l01Dec -/
abbrev f_spec_l01Dec : Nat := 27
def c_spec_l01Dec : SC :=
 .seq (.reg [
     ⟨(some 2), .mv (.const (.string ByteArray.empty)), none⟩] [0])
 (.seq (.reg [
     ⟨(some 6), .bslice 5 1 0 [] [], none⟩,
     ⟨(some 3), .mv (.tmp 6), none⟩] [0, 3])
 (.seq (.seq (.reg [
     ⟨(some 7), .mv (.tmp 0), none⟩,
     ⟨(some 4), .mv (.tmp 7), none⟩] [0, 3, 4])
 (.block 0 (.loop [0, 3, 4]
   (.seq (.seq (.reg [
       ⟨(some 8), .mv (.tmp 4), none⟩,
       ⟨(some 9), .bin .neq (.tmp 8) (.const (.int .i64 0)), none⟩] [0, 3, 4, 9])
   (.cond (.tmp 9)
    (.skip)
    (.exit 0)))
   (.seq (.block 1 (.seq (.reg [
        ⟨(some 12), .mv (.tmp 4), none⟩,
        ⟨(some 13), .bin .rem (.tmp 12) (.const (.int .i64 10)), none⟩,
        ⟨(some 5), .mv (.tmp 13), none⟩] [0, 3, 4, 5])
    (.seq (.seq (.reg [
        ⟨(some 14), .mv (.tmp 5), none⟩,
        ⟨(some 15), .bin .lss (.tmp 14) (.const (.int .i64 0)), none⟩] [0, 3, 4, 5, 15])
    (.cond (.tmp 15)
     (.reg [
         ⟨(some 16), .mv (.tmp 5), none⟩,
         ⟨(some 17), .un .neg (.tmp 16), none⟩,
         ⟨(some 5), .mv (.tmp 17), none⟩] [0, 3, 4, 5])
     (.skip)))
    (.reg [
        ⟨(some 18), .mv (.tmp 5), none⟩,
        ⟨(some 19), .bin .add (.const (.int .i64 48)) (.tmp 18), none⟩,
        ⟨(some 20), .conv .u8 (.tmp 19), none⟩,
        ⟨(some 21), .bslice 5 1 1 [(.int .u8 0)] [(0, (.tmp 20))], none⟩,
        ⟨(some 22), .mv (.tmp 3), none⟩,
        ⟨(some 23), .app 5 1 1 (.tmp 21) (.tmp 22), none⟩,
        ⟨(some 3), .mv (.tmp 23), none⟩] [0, 3, 4]))))
   (.reg [
       ⟨(some 10), .mv (.tmp 4), none⟩,
       ⟨(some 11), .bin .quo (.tmp 10) (.const (.int .i64 10)), none⟩,
       ⟨(some 4), .mv (.tmp 11), none⟩] [0, 3, 4]))))))
 (.seq (.seq (.reg [
     ⟨(some 24), .mv (.tmp 3), none⟩,
     ⟨(some 25), .len (.tmp 24), none⟩,
     ⟨(some 26), .bin .eql (.tmp 25) (.const (.int .i64 0)), none⟩] [0, 3, 26])
 (.cond (.tmp 26)
  (.seq (.reg [
      ⟨(some 2), .mv (.const (.string ⟨#[48]⟩)), none⟩] [2])
  (.ret))
  (.skip)))
 (.seq (.seq (.reg [
     ⟨(some 27), .mv (.tmp 0), none⟩,
     ⟨(some 28), .bin .lss (.tmp 27) (.const (.int .i64 0)), none⟩] [3, 28])
 (.cond (.tmp 28)
  (.seq (.reg [
      ⟨(some 29), .mv (.tmp 3), none⟩,
      ⟨(some 30), .str (.tmp 29), none⟩,
      ⟨(some 31), .sop .add [(.const (.string ⟨#[45]⟩)), (.tmp 30)], none⟩,
      ⟨(some 2), .mv (.tmp 31), none⟩] [2])
  (.ret))
  (.skip)))
 (.seq (.reg [
     ⟨(some 32), .mv (.tmp 3), none⟩,
     ⟨(some 33), .str (.tmp 32), none⟩,
     ⟨(some 2), .mv (.tmp 33), none⟩] [2])
 (.ret))))))
theorem s_spec_l01Dec : stripF Tryd.prog 27 [[0], [0, 3], [0, 3, 4], [0, 3, 4], [0, 3, 4, 9], [0, 3, 4, 5], [0, 3, 4, 5, 15], [0, 3, 4, 5], [0, 3, 4], [0, 3, 4], [0, 3, 26], [2], [3, 28], [2], [2]] = some (c_spec_l01Dec, [.tmp 2], 34) := by kernel_rfl


theorem l01Digit_fn (c : UInt8) : PFn Tryd.prog f_spec_l01Digit [U8 c] (Bv (isD c)) := by
  have e : isD c = (decide (UInt8.toNat 48 ≤ c.toNat) && decide (c.toNat ≤ UInt8.toNat 57)) := rfl
  rw [e]
  intro H
  refine ACalls.introB s_spec_l01Digit (by simp) ?_; intro hB hA; unfold c_spec_l01Digit; simp (config := { maxSteps := 1000000 }) (disch := (first | omega | (simp only [go_sem]; try omega))) only [go_sem, Nat.reduceAdd, Nat.reduceEqDiff, Nat.reduceLeDiff, Nat.reduceMul, Nat.reduceLT, reduceIte, Int.reduceToNat, w64_id, cast_succ]
  repeat (first | (with_reducible first | refine SW.seq ?_ | refine SW.block ?_ | refine SW.rowC ?_ | refine SW.skip ?_ | refine SW.exit ?_ | intro _ | refine And.intro (by omega) ?_) | simp (config := { maxSteps := 1000000 }) (disch := (first | omega | (simp only [go_sem]; try omega))) only [go_sem, Nat.reduceAdd, Nat.reduceEqDiff, Nat.reduceLeDiff, Nat.reduceMul, Nat.reduceLT, reduceIte, Int.reduceToNat, w64_id, cast_succ])
  (first | refine GSplit.df (fun h => ?_) (fun h => ?_) | refine GSplit.dt (fun h => ?_) (fun h => ?_) | refine GSplit.ndf (fun h => ?_) (fun h => ?_) | refine GSplit.ndt (fun h => ?_) (fun h => ?_) | refine GSplit.nbf (fun h => ?_) (fun h => ?_) | refine GSplit.nbt (fun h => ?_) (fun h => ?_) | refine GSplit.bf (fun h => ?_) (fun h => ?_) | refine GSplit.bt (fun h => ?_) (fun h => ?_))
  · have d1 : decide (UInt8.toNat 48 ≤ c.toNat) = true := decide_eq_true (by omega)
    repeat (first | (with_reducible first | refine SW.seq ?_ | refine SW.block ?_ | refine SW.rowC ?_ | refine SW.skip ?_ | refine SW.exit ?_ | intro _ | refine And.intro (by omega) ?_) | simp (config := { maxSteps := 1000000 }) (disch := (first | omega | (simp only [go_sem]; try omega))) only [go_sem, Nat.reduceAdd, Nat.reduceEqDiff, Nat.reduceLeDiff, Nat.reduceMul, Nat.reduceLT, reduceIte, Int.reduceToNat, w64_id, cast_succ, d1, Bool.true_and, Bool.false_and])
    refine SW.ret ?_; (try simp only [go_sem]); (first | refine FunPost.one ?_ | refine FunPost.two ?_ | refine FunPost.three ?_); (try simp (config := { maxSteps := 1000000 }) (disch := (first | omega | (simp only [go_sem]; try omega))) only [go_sem, Nat.reduceAdd, Nat.reduceEqDiff, Nat.reduceLeDiff, Nat.reduceMul, Nat.reduceLT, reduceIte, Int.reduceToNat, w64_id, cast_succ]); (first | (with_reducible refine GR.drop ?_ ?_; (simp only [go_sem, and_self, and_true, true_and, implies_true, List.take_succ_cons, List.take_zero])) | refine GR.of ?_); refine ⟨?_, rfl⟩; (try with_reducible rfl)
  · have d1 : decide (UInt8.toNat 48 ≤ c.toNat) = false := decide_eq_false (by omega)
    repeat (first | (with_reducible first | refine SW.seq ?_ | refine SW.block ?_ | refine SW.rowC ?_ | refine SW.skip ?_ | refine SW.exit ?_ | intro _ | refine And.intro (by omega) ?_) | simp (config := { maxSteps := 1000000 }) (disch := (first | omega | (simp only [go_sem]; try omega))) only [go_sem, Nat.reduceAdd, Nat.reduceEqDiff, Nat.reduceLeDiff, Nat.reduceMul, Nat.reduceLT, reduceIte, Int.reduceToNat, w64_id, cast_succ, d1, Bool.true_and, Bool.false_and])
    refine SW.ret ?_; (try simp only [go_sem]); (first | refine FunPost.one ?_ | refine FunPost.two ?_ | refine FunPost.three ?_); (try simp (config := { maxSteps := 1000000 }) (disch := (first | omega | (simp only [go_sem]; try omega))) only [go_sem, Nat.reduceAdd, Nat.reduceEqDiff, Nat.reduceLeDiff, Nat.reduceMul, Nat.reduceLT, reduceIte, Int.reduceToNat, w64_id, cast_succ]); (first | (with_reducible refine GR.drop ?_ ?_; (simp only [go_sem, and_self, and_true, true_and, implies_true, List.take_succ_cons, List.take_zero])) | refine GR.of ?_); refine ⟨?_, rfl⟩; (try with_reducible rfl)
/-- The digits of a number other than zero. -/
def dd (u : Nat) : List UInt8 := if u = 0 then [] else Lib.decDigits u
theorem dd_step {u : Nat} (h : 0 < u) : dd u = dd (u / 10) ++ [UInt8.ofNat (48 + u % 10)] := by
  unfold dd
  rw [if_neg (by omega)]
  by_cases h1 : u < 10
  · rw [dec_small h1, if_pos (by omega), List.nil_append, Nat.mod_eq_of_lt h1]
  · rw [dec_big h1, if_neg (by omega)]
/-- The own row of one byte grows by frozen bytes. -/
theorem AppX_own {H : List Blk} {x : UInt8} {l : List UInt8} {ty : Nat} {Kv : AV → List Blk → Prop} (hl : l.length ≤ 1000) (h : Kv (.nm H.length 1 0 (x :: l).length) (H ++ [⟨1, ty, 1, (x :: l).map U8⟩])) :
    AppX ty 1 1 (H ++ [⟨0, ty, 1, [U8 x]⟩]) (.nm H.length 0 0 1) Kv (some (l.length, l.map U8)) := by
  simp only [AppX]
  refine ⟨by simp, List.all_eq_true.1 (allU8 l), ?_⟩
  rw [List.getElem?_append_right (Nat.le_refl _), Nat.sub_self]
  simp only [List.getElem?_cons_zero]
  refine ⟨trivial, trivial, trivial, by simp, by omega, by omega, ?_⟩
  rw [List.set_append_right _ _ (Nat.le_refl _), Nat.sub_self]
  simpa [Nat.add_comm] using h
theorem l01Dec_fn (n : Int) (hb : n.natAbs < 10 ^ 18) : PFn Tryd.prog f_spec_l01Dec [I n] (Tx (Lib.itoa n)) := by
  have hit : dd n.natAbs ≠ [] → Lib.itoa n = if n < 0 then 45 :: dd n.natAbs else dd n.natAbs := fun h => by
    have h0 : n.natAbs ≠ 0 := fun h1 => h (by rw [h1]; rfl)
    unfold dd Lib.itoa
    rw [if_neg h0]
    split
    · rfl
    · rw [show n.toNat = n.natAbs by omega]
  have hdl : (dd n.natAbs).length ≤ 18 := by
    unfold dd
    split
    · simp
    · exact (dec_len18 _).2 hb
  have hd0 : dd n.natAbs = [] → n = 0 := fun h => by
    unfold dd at h
    split at h
    · omega
    · exact absurd h (dec_ne _)
  generalize hD : dd n.natAbs = D at *
  intro H
  refine ACalls.introB s_spec_l01Dec (by simp) ?_; intro hB hA; unfold c_spec_l01Dec; simp (config := { maxSteps := 1000000 }) (disch := (first | omega | (simp only [go_sem]; try omega))) only [go_sem, Nat.reduceAdd, Nat.reduceEqDiff, Nat.reduceLeDiff, Nat.reduceMul, Nat.reduceLT, reduceIte, Int.reduceToNat, w64_id, cast_succ]
  repeat (first | (with_reducible first | refine SW.seq ?_ | refine SW.block ?_ | refine SW.rowC ?_ | refine SW.skip ?_ | refine SW.exit ?_ | intro _ | refine And.intro (by omega) ?_) | simp (config := { maxSteps := 1000000 }) (disch := (first | omega | (simp only [go_sem]; try omega))) only [go_sem, Nat.reduceAdd, Nat.reduceEqDiff, Nat.reduceLeDiff, Nat.reduceMul, Nat.reduceLT, reduceIte, Int.reduceToNat, w64_id, cast_succ])
  refine SW.froz (E' := [(0, I n), (3, ilU []), (4, I n)]) hB (Nat.le_refl _) (.cons _ (ren_I _) (.cons _ ?_ (.cons _ (ren_I _) .nil))) ?_
  · exact ren_list (f := U8) (xs := []) (r := H.length) (ver := 0) (ty := 5) (fun x => .old _ (.lit _)) (Nat.le_refl _) (by simp) (by simp)
  refine SW.loopE (fun E0 H0 q E' H' => ∃ (k : Int) (out : List UInt8), k.natAbs ≤ n.natAbs ∧ q = k.natAbs ∧ out.length ≤ 18 ∧ D = dd k.natAbs ++ out ∧ E' = aput (aput E0 3 (ilU out)) 4 (I k) ∧ H' = H) n.natAbs ⟨n, [], Nat.le_refl _, rfl, by simp, by rw [hD, List.append_nil], rfl, rfl⟩ ?_
  rintro q E' H ⟨k, out, hkn, rfl, hol, hDk, rfl, rfl⟩
  simp (config := { maxSteps := 1000000 }) (disch := (first | omega | (simp only [go_sem]; try omega))) only [go_sem, Nat.reduceAdd, Nat.reduceEqDiff, Nat.reduceLeDiff, Nat.reduceMul, Nat.reduceLT, reduceIte, Int.reduceToNat, w64_id, cast_succ]
  repeat (first | (with_reducible first | refine SW.seq ?_ | refine SW.block ?_ | refine SW.rowC ?_ | refine SW.skip ?_ | refine SW.exit ?_ | intro _ | refine And.intro (by omega) ?_) | simp (config := { maxSteps := 1000000 }) (disch := (first | omega | (simp only [go_sem]; try omega))) only [go_sem, Nat.reduceAdd, Nat.reduceEqDiff, Nat.reduceLeDiff, Nat.reduceMul, Nat.reduceLT, reduceIte, Int.reduceToNat, w64_id, cast_succ])
  by_cases hk : k = 0
  · subst hk
    have hDo : out = D := by rw [hDk]; rfl
    subst hDo
    refine SW.condF rfl ?_
    repeat (first | (with_reducible first | refine SW.seq ?_ | refine SW.block ?_ | refine SW.rowC ?_ | refine SW.skip ?_ | refine SW.exit ?_ | intro _ | refine And.intro (by omega) ?_) | simp (config := { maxSteps := 1000000 }) (disch := (first | omega | (simp only [go_sem]; try omega))) only [go_sem, Nat.reduceAdd, Nat.reduceEqDiff, Nat.reduceLeDiff, Nat.reduceMul, Nat.reduceLT, reduceIte, Int.reduceToNat, w64_id, cast_succ])
    by_cases h0 : out = []
    · have hn := hd0 h0
      subst h0
      subst hn
      refine SW.condT rfl ?_
      repeat (first | (with_reducible first | refine SW.seq ?_ | refine SW.block ?_ | refine SW.rowC ?_ | refine SW.skip ?_ | refine SW.exit ?_ | intro _ | refine And.intro (by omega) ?_) | simp (config := { maxSteps := 1000000 }) (disch := (first | omega | (simp only [go_sem]; try omega))) only [go_sem, Nat.reduceAdd, Nat.reduceEqDiff, Nat.reduceLeDiff, Nat.reduceMul, Nat.reduceLT, reduceIte, Int.reduceToNat, w64_id, cast_succ])
      rw [show Lib.itoa 0 = [48] from by unfold Lib.itoa; rw [if_neg (by omega)]; exact dec_small (u := 0) (by omega)]
      refine SW.ret ?_; (try simp only [go_sem]); (first | refine FunPost.one ?_ | refine FunPost.two ?_ | refine FunPost.three ?_); (try simp (config := { maxSteps := 1000000 }) (disch := (first | omega | (simp only [go_sem]; try omega))) only [go_sem, Nat.reduceAdd, Nat.reduceEqDiff, Nat.reduceLeDiff, Nat.reduceMul, Nat.reduceLT, reduceIte, Int.reduceToNat, w64_id, cast_succ]); (first | (with_reducible refine GR.drop ?_ ?_; (simp only [go_sem, and_self, and_true, true_and, implies_true, List.take_succ_cons, List.take_zero])) | refine GR.of ?_); refine ⟨?_, rfl⟩; (try with_reducible rfl)
    · rw [hit h0]
      have hl : ¬ out.length = 0 := fun h => h0 (List.length_eq_zero_iff.1 h)
      have dl : decide ((out.length : Int) = 0) = false := decide_eq_false (by omega)
      repeat (first | (with_reducible first | refine SW.seq ?_ | refine SW.block ?_ | refine SW.rowC ?_ | refine SW.skip ?_ | refine SW.exit ?_ | intro _ | refine And.intro (by omega) ?_) | simp (config := { maxSteps := 1000000 }) (disch := (first | omega | (simp only [go_sem]; try omega))) only [go_sem, Nat.reduceAdd, Nat.reduceEqDiff, Nat.reduceLeDiff, Nat.reduceMul, Nat.reduceLT, reduceIte, Int.reduceToNat, w64_id, cast_succ, dl])
      refine SW.condF rfl ?_
      repeat (first | (with_reducible first | refine SW.seq ?_ | refine SW.block ?_ | refine SW.rowC ?_ | refine SW.skip ?_ | refine SW.exit ?_ | intro _ | refine And.intro (by omega) ?_) | simp (config := { maxSteps := 1000000 }) (disch := (first | omega | (simp only [go_sem]; try omega))) only [go_sem, Nat.reduceAdd, Nat.reduceEqDiff, Nat.reduceLeDiff, Nat.reduceMul, Nat.reduceLT, reduceIte, Int.reduceToNat, w64_id, cast_succ])
      by_cases hn : n < 0
      · rw [if_pos hn]
        have dn : decide (n < 0) = true := decide_eq_true hn
        repeat (first | (with_reducible first | refine SW.seq ?_ | refine SW.block ?_ | refine SW.rowC ?_ | refine SW.skip ?_ | refine SW.exit ?_ | intro _ | refine And.intro (by omega) ?_) | simp (config := { maxSteps := 1000000 }) (disch := (first | omega | (simp only [go_sem]; try omega))) only [go_sem, Nat.reduceAdd, Nat.reduceEqDiff, Nat.reduceLeDiff, Nat.reduceMul, Nat.reduceLT, reduceIte, Int.reduceToNat, w64_id, cast_succ, dn])
        refine SW.condT rfl ?_
        repeat (first | (with_reducible first | refine SW.seq ?_ | refine SW.block ?_ | refine SW.rowC ?_ | refine SW.skip ?_ | refine SW.exit ?_ | intro _ | refine And.intro (by omega) ?_) | simp (config := { maxSteps := 1000000 }) (disch := (first | omega | (simp only [go_sem]; try omega))) only [go_sem, Nat.reduceAdd, Nat.reduceEqDiff, Nat.reduceLeDiff, Nat.reduceMul, Nat.reduceLT, reduceIte, Int.reduceToNat, w64_id, cast_succ, StrW_U8])
        refine SW.ret ?_; (try simp only [go_sem]); (first | refine FunPost.one ?_ | refine FunPost.two ?_ | refine FunPost.three ?_); (try simp (config := { maxSteps := 1000000 }) (disch := (first | omega | (simp only [go_sem]; try omega))) only [go_sem, Nat.reduceAdd, Nat.reduceEqDiff, Nat.reduceLeDiff, Nat.reduceMul, Nat.reduceLT, reduceIte, Int.reduceToNat, w64_id, cast_succ]); (first | (with_reducible refine GR.drop ?_ ?_; (simp only [go_sem, and_self, and_true, true_and, implies_true, List.take_succ_cons, List.take_zero])) | refine GR.of ?_); refine ⟨?_, rfl⟩; (try with_reducible rfl)
      · rw [if_neg hn]
        have dn : decide (n < 0) = false := decide_eq_false hn
        repeat (first | (with_reducible first | refine SW.seq ?_ | refine SW.block ?_ | refine SW.rowC ?_ | refine SW.skip ?_ | refine SW.exit ?_ | intro _ | refine And.intro (by omega) ?_) | simp (config := { maxSteps := 1000000 }) (disch := (first | omega | (simp only [go_sem]; try omega))) only [go_sem, Nat.reduceAdd, Nat.reduceEqDiff, Nat.reduceLeDiff, Nat.reduceMul, Nat.reduceLT, reduceIte, Int.reduceToNat, w64_id, cast_succ, dn])
        refine SW.condF rfl ?_
        repeat (first | (with_reducible first | refine SW.seq ?_ | refine SW.block ?_ | refine SW.rowC ?_ | refine SW.skip ?_ | refine SW.exit ?_ | intro _ | refine And.intro (by omega) ?_) | simp (config := { maxSteps := 1000000 }) (disch := (first | omega | (simp only [go_sem]; try omega))) only [go_sem, Nat.reduceAdd, Nat.reduceEqDiff, Nat.reduceLeDiff, Nat.reduceMul, Nat.reduceLT, reduceIte, Int.reduceToNat, w64_id, cast_succ, StrW_U8])
        refine SW.ret ?_; (try simp only [go_sem]); (first | refine FunPost.one ?_ | refine FunPost.two ?_ | refine FunPost.three ?_); (try simp (config := { maxSteps := 1000000 }) (disch := (first | omega | (simp only [go_sem]; try omega))) only [go_sem, Nat.reduceAdd, Nat.reduceEqDiff, Nat.reduceLeDiff, Nat.reduceMul, Nat.reduceLT, reduceIte, Int.reduceToNat, w64_id, cast_succ]); (first | (with_reducible refine GR.drop ?_ ?_; (simp only [go_sem, and_self, and_true, true_and, implies_true, List.take_succ_cons, List.take_zero])) | refine GR.of ?_); refine ⟨?_, rfl⟩; (try with_reducible rfl)
  · have dk : decide (k = 0) = false := decide_eq_false hk
    repeat (first | (with_reducible first | refine SW.seq ?_ | refine SW.block ?_ | refine SW.rowC ?_ | refine SW.skip ?_ | refine SW.exit ?_ | intro _ | refine And.intro (by omega) ?_) | simp (config := { maxSteps := 1000000 }) (disch := (first | omega | (simp only [go_sem]; try omega))) only [go_sem, Nat.reduceAdd, Nat.reduceEqDiff, Nat.reduceLeDiff, Nat.reduceMul, Nat.reduceLT, reduceIte, Int.reduceToNat, w64_id, cast_succ, dk])
    refine SW.condT rfl ?_
    obtain ⟨m, hm⟩ : ∃ m : Nat, k.natAbs = m := ⟨_, rfl⟩
    have hm1 := Nat.mod_lt m (show 0 < 10 by omega)
    have hst := dd_step (u := m) (by omega)
    rw [hm, hst, List.append_assoc] at hDk
    have hol2 : out.length + 1 ≤ 18 := by
      have := congrArg List.length hDk
      simp only [List.length_append, List.length_singleton] at this
      omega
    rcases Int.natAbs_eq k with hk2 | hk2
    · rw [hm] at hk2
      subst hk2
      have e1 : (m : Int).tmod 10 = ((m % 10 : Nat) : Int) := tmodN (a := m) (b := 10)
      have e2 : (m : Int).tdiv 10 = ((m / 10 : Nat) : Int) := tdivN (a := m) (b := 10)
      have dn : decide (((m % 10 : Nat) : Int) < 0) = false := decide_eq_false (by omega)
      have e3 : (48 : Int) + ((m % 10 : Nat) : Int) = ((48 + m % 10 : Nat) : Int) := by omega
      repeat (first | (with_reducible first | refine SW.seq ?_ | refine SW.block ?_ | refine SW.rowC ?_ | refine SW.skip ?_ | refine SW.exit ?_ | intro _ | refine And.intro (by omega) ?_) | simp (config := { maxSteps := 1000000 }) (disch := (first | omega | (simp only [go_sem]; try omega))) only [go_sem, Nat.reduceAdd, Nat.reduceEqDiff, Nat.reduceLeDiff, Nat.reduceMul, Nat.reduceLT, reduceIte, Int.reduceToNat, w64_id, cast_succ, e1, e2, dn])
      refine SW.condF rfl ?_
      repeat (first | (with_reducible first | refine SW.seq ?_ | refine SW.block ?_ | refine SW.rowC ?_ | refine SW.skip ?_ | refine SW.exit ?_ | intro _ | refine And.intro (by omega) ?_) | simp (config := { maxSteps := 1000000 }) (disch := (first | omega | (simp only [go_sem]; try omega))) only [go_sem, Nat.reduceAdd, Nat.reduceEqDiff, Nat.reduceLeDiff, Nat.reduceMul, Nat.reduceLT, reduceIte, Int.reduceToNat, w64_id, cast_succ, e1, e2, e3, ConvW_toU8, memU8, allU8, List.length_map])
      refine AppX_own (by omega) ?_
      repeat (first | (with_reducible first | refine SW.seq ?_ | refine SW.block ?_ | refine SW.rowC ?_ | refine SW.skip ?_ | refine SW.exit ?_ | intro _ | refine And.intro (by omega) ?_) | simp (config := { maxSteps := 1000000 }) (disch := (first | omega | (simp only [go_sem]; try omega))) only [go_sem, Nat.reduceAdd, Nat.reduceEqDiff, Nat.reduceLeDiff, Nat.reduceMul, Nat.reduceLT, reduceIte, Int.reduceToNat, w64_id, cast_succ])
      refine SLoop.nextFz (m / 10) [(0, I n), (3, ilU (UInt8.ofNat (48 + m % 10) :: out)), (4, I (((m / 10 : Nat) : Int)))] hB (Nat.le_refl _) (by omega) ?_ ⟨((m / 10 : Nat) : Int), UInt8.ofNat (48 + m % 10) :: out, by omega, by omega, by simpa using hol2, by rw [hDk, show (((m / 10 : Nat) : Int)).natAbs = m / 10 by omega]; simp, rfl, rfl⟩
      simp only [go_sem, Nat.reduceEqDiff, reduceIte]
      rw [e2]
      refine .cons _ (ren_I _) (.cons _ ?_ (.cons _ (ren_I _) .nil))
      exact ren_list (f := U8) (xs := UInt8.ofNat (48 + m % 10) :: out) (r := H.length) (ver := 1) (ty := 5) (fun x => .old _ (.lit _)) (Nat.le_refl _) (by simp) (by simp)
    · rw [hm] at hk2
      subst hk2
      have e1 : (-(m : Int)).tmod 10 = -((m % 10 : Nat) : Int) := by rw [Int.neg_tmod]; exact congrArg Neg.neg (tmodN (a := m) (b := 10))
      have e2 : (-(m : Int)).tdiv 10 = -((m / 10 : Nat) : Int) := by rw [Int.neg_tdiv]; exact congrArg Neg.neg (tdivN (a := m) (b := 10))
      by_cases hr : -((m % 10 : Nat) : Int) < 0
      · have dn : decide (-((m % 10 : Nat) : Int) < 0) = true := decide_eq_true hr
        repeat (first | (with_reducible first | refine SW.seq ?_ | refine SW.block ?_ | refine SW.rowC ?_ | refine SW.skip ?_ | refine SW.exit ?_ | intro _ | refine And.intro (by omega) ?_) | simp (config := { maxSteps := 1000000 }) (disch := (first | omega | (simp only [go_sem]; try omega))) only [go_sem, Nat.reduceAdd, Nat.reduceEqDiff, Nat.reduceLeDiff, Nat.reduceMul, Nat.reduceLT, reduceIte, Int.reduceToNat, w64_id, cast_succ, e1, e2, dn])
        refine SW.condT rfl ?_
        have e4 : (0 : Int) - -((m % 10 : Nat) : Int) = ((m % 10 : Nat) : Int) := by omega
        have e3 : (48 : Int) + ((m % 10 : Nat) : Int) = ((48 + m % 10 : Nat) : Int) := by omega
        repeat (first | (with_reducible first | refine SW.seq ?_ | refine SW.block ?_ | refine SW.rowC ?_ | refine SW.skip ?_ | refine SW.exit ?_ | intro _ | refine And.intro (by omega) ?_) | simp (config := { maxSteps := 1000000 }) (disch := (first | omega | (simp only [go_sem]; try omega))) only [go_sem, Nat.reduceAdd, Nat.reduceEqDiff, Nat.reduceLeDiff, Nat.reduceMul, Nat.reduceLT, reduceIte, Int.reduceToNat, w64_id, cast_succ, e1, e2, e3, e4, ConvW_toU8, memU8, allU8, List.length_map])
        refine AppX_own (by omega) ?_
        repeat (first | (with_reducible first | refine SW.seq ?_ | refine SW.block ?_ | refine SW.rowC ?_ | refine SW.skip ?_ | refine SW.exit ?_ | intro _ | refine And.intro (by omega) ?_) | simp (config := { maxSteps := 1000000 }) (disch := (first | omega | (simp only [go_sem]; try omega))) only [go_sem, Nat.reduceAdd, Nat.reduceEqDiff, Nat.reduceLeDiff, Nat.reduceMul, Nat.reduceLT, reduceIte, Int.reduceToNat, w64_id, cast_succ])
        refine SLoop.nextFz (m / 10) [(0, I n), (3, ilU (UInt8.ofNat (48 + m % 10) :: out)), (4, I (-((m / 10 : Nat) : Int)))] hB (Nat.le_refl _) (by omega) ?_ ⟨-((m / 10 : Nat) : Int), UInt8.ofNat (48 + m % 10) :: out, by omega, by omega, by simpa using hol2, by rw [hDk, show (-((m / 10 : Nat) : Int)).natAbs = m / 10 by omega]; simp, rfl, rfl⟩
        simp only [go_sem, Nat.reduceEqDiff, reduceIte]
        rw [e2]
        refine .cons _ (ren_I _) (.cons _ ?_ (.cons _ (ren_I _) .nil))
        exact ren_list (f := U8) (xs := UInt8.ofNat (48 + m % 10) :: out) (r := H.length) (ver := 1) (ty := 5) (fun x => .old _ (.lit _)) (Nat.le_refl _) (by simp) (by simp)
      · have dn : decide (-((m % 10 : Nat) : Int) < 0) = false := decide_eq_false hr
        repeat (first | (with_reducible first | refine SW.seq ?_ | refine SW.block ?_ | refine SW.rowC ?_ | refine SW.skip ?_ | refine SW.exit ?_ | intro _ | refine And.intro (by omega) ?_) | simp (config := { maxSteps := 1000000 }) (disch := (first | omega | (simp only [go_sem]; try omega))) only [go_sem, Nat.reduceAdd, Nat.reduceEqDiff, Nat.reduceLeDiff, Nat.reduceMul, Nat.reduceLT, reduceIte, Int.reduceToNat, w64_id, cast_succ, e1, e2, dn])
        refine SW.condF rfl ?_
        have e0 : m % 10 = 0 := by omega
        have e4 : -((m % 10 : Nat) : Int) = ((m % 10 : Nat) : Int) := by omega
        have e3 : (48 : Int) + ((m % 10 : Nat) : Int) = ((48 + m % 10 : Nat) : Int) := by omega
        repeat (first | (with_reducible first | refine SW.seq ?_ | refine SW.block ?_ | refine SW.rowC ?_ | refine SW.skip ?_ | refine SW.exit ?_ | intro _ | refine And.intro (by omega) ?_) | simp (config := { maxSteps := 1000000 }) (disch := (first | omega | (simp only [go_sem]; try omega))) only [go_sem, Nat.reduceAdd, Nat.reduceEqDiff, Nat.reduceLeDiff, Nat.reduceMul, Nat.reduceLT, reduceIte, Int.reduceToNat, w64_id, cast_succ, e1, e2, e3, e4, ConvW_toU8, memU8, allU8, List.length_map])
        refine AppX_own (by omega) ?_
        repeat (first | (with_reducible first | refine SW.seq ?_ | refine SW.block ?_ | refine SW.rowC ?_ | refine SW.skip ?_ | refine SW.exit ?_ | intro _ | refine And.intro (by omega) ?_) | simp (config := { maxSteps := 1000000 }) (disch := (first | omega | (simp only [go_sem]; try omega))) only [go_sem, Nat.reduceAdd, Nat.reduceEqDiff, Nat.reduceLeDiff, Nat.reduceMul, Nat.reduceLT, reduceIte, Int.reduceToNat, w64_id, cast_succ])
        refine SLoop.nextFz (m / 10) [(0, I n), (3, ilU (UInt8.ofNat (48 + m % 10) :: out)), (4, I (-((m / 10 : Nat) : Int)))] hB (Nat.le_refl _) (by omega) ?_ ⟨-((m / 10 : Nat) : Int), UInt8.ofNat (48 + m % 10) :: out, by omega, by omega, by simpa using hol2, by rw [hDk, show (-((m / 10 : Nat) : Int)).natAbs = m / 10 by omega]; simp, rfl, rfl⟩
        simp only [go_sem, Nat.reduceEqDiff, reduceIte]
        rw [e2]
        refine .cons _ (ren_I _) (.cons _ ?_ (.cons _ (ren_I _) .nil))
        exact ren_list (f := U8) (xs := UInt8.ofNat (48 + m % 10) :: out) (r := H.length) (ver := 1) (ty := 5) (fun x => .old _ (.lit _)) (Nat.le_refl _) (by simp) (by simp)
end Go.Proofs.YtdgcgckehihboaaDoor
