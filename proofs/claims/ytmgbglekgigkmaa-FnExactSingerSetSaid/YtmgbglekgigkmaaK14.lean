/- Laws over calls that hand back a list and a code. -/
import Derived.Test.YtmgbglekgigkmaaProg
import Derived.KernelRfl
import Derived.Test.YtmgbglekgigkmaaK13
set_option linter.unusedSimpArgs false
set_option linter.unusedVariables false
set_option maxHeartbeats 4000000
namespace Go.Proofs.Ytmgbglekgigkmaa
open Go.Av

/-! The abstract code of functions, printed by program and tied to the program by the kernel. -/
/-- loop.example/g00920/laws.FnExactFirstDifferenceSet -/
abbrev f_laws_FnExactFirstDifferenceSet : Nat := 10
def c_laws_FnExactFirstDifferenceSet : SC :=
 .seq (.reg [
     ⟨(some 8), .mv (.const (.bool false)), none⟩] [0, 1, 2, 3])
 (.seq (.reg [
     ⟨(some 18), .mv (.tmp 0), none⟩,
     ⟨(some 19), .mv (.tmp 1), none⟩,
     ⟨(some 20), .mv (.tmp 2), none⟩,
     ⟨(some 21), .mv (.tmp 3), none⟩,
     ⟨(some 22), .call 43 [(.tmp 18), (.tmp 19), (.tmp 20), (.tmp 21)], none⟩,
     ⟨(some 17), .mv (.tmp 22), none⟩,
     ⟨(some 23), .ext (.tmp 17) 0, none⟩,
     ⟨(some 24), .ext (.tmp 17) 1, none⟩,
     ⟨(some 9), .mv (.tmp 23), none⟩,
     ⟨(some 10), .mv (.tmp 24), none⟩] [0, 1, 2, 3, 9, 10])
 (.seq (.reg [
     ⟨(some 26), .mv (.tmp 0), none⟩,
     ⟨(some 27), .mv (.tmp 1), none⟩,
     ⟨(some 28), .mv (.tmp 2), none⟩,
     ⟨(some 29), .mv (.tmp 3), none⟩,
     ⟨(some 30), .call 44 [(.tmp 26), (.tmp 27), (.tmp 28), (.tmp 29)], none⟩,
     ⟨(some 25), .mv (.tmp 30), none⟩,
     ⟨(some 31), .ext (.tmp 25) 0, none⟩,
     ⟨(some 32), .ext (.tmp 25) 1, none⟩,
     ⟨(some 11), .mv (.tmp 31), none⟩,
     ⟨(some 12), .mv (.tmp 32), none⟩] [0, 1, 2, 3, 9, 10, 11, 12])
 (.seq (.seq (.reg [
     ⟨(some 33), .mv (.tmp 11), none⟩,
     ⟨(some 34), .mv (.tmp 9), none⟩,
     ⟨(some 35), .call 36 [(.tmp 33), (.tmp 34)], none⟩,
     ⟨(some 36), .un .not (.tmp 35), none⟩,
     ⟨(some 37), .mv (.tmp 36), none⟩,
     ⟨(some 38), .mv (.tmp 12), (some (37, false))⟩,
     ⟨(some 39), .mv (.tmp 10), (some (37, false))⟩,
     ⟨(some 40), .bin .neq (.tmp 38) (.tmp 39), (some (37, false))⟩,
     ⟨(some 41), .pick (.tmp 37) (.const (.bool true)) (.tmp 40), none⟩] [0, 1, 2, 3, 9, 10, 11, 41])
 (.cond (.tmp 41)
  (.seq (.reg [
      ⟨(some 8), .mv (.const (.bool false)), none⟩] [8])
  (.ret))
  (.skip)))
 (.seq (.reg [
     ⟨(some 13), .mv (.const (.int .i64 1)), none⟩] [0, 1, 2, 3, 9, 10, 11, 13])
 (.seq (.reg [
     ⟨(some 42), .mv (.tmp 11), none⟩,
     ⟨(some 43), .mv (.tmp 13), none⟩,
     ⟨(some 44), .call 45 [(.tmp 42), (.tmp 43)], none⟩,
     ⟨(some 13), .mv (.tmp 44), none⟩] [0, 1, 2, 3, 9, 10, 11, 13])
 (.seq (.reg [
     ⟨(some 14), .mv (.const (.int .i64 1)), none⟩] [0, 1, 2, 3, 9, 10, 11, 13, 14])
 (.seq (.reg [
     ⟨(some 45), .mv (.tmp 11), none⟩,
     ⟨(some 46), .mv (.tmp 14), none⟩,
     ⟨(some 47), .call 46 [(.tmp 45), (.tmp 46)], none⟩,
     ⟨(some 14), .mv (.tmp 47), none⟩] [0, 1, 2, 3, 9, 10, 11, 13, 14])
 (.seq (.seq (.reg [
     ⟨(some 48), .mv (.tmp 14), none⟩,
     ⟨(some 49), .bin .lss (.tmp 48) (.const (.int .i64 0)), none⟩] [0, 1, 2, 3, 9, 10, 11, 13, 14, 49])
 (.cond (.tmp 49)
  (.seq (.reg [
      ⟨(some 8), .mv (.const (.bool false)), none⟩] [8])
  (.ret))
  (.skip)))
 (.seq (.seq (.reg [
     ⟨(some 50), .mv (.tmp 14), none⟩,
     ⟨(some 51), .mv (.tmp 13), none⟩,
     ⟨(some 52), .bin .neq (.tmp 50) (.tmp 51), none⟩] [0, 1, 2, 3, 9, 10, 11, 13, 52])
 (.cond (.tmp 52)
  (.seq (.reg [
      ⟨(some 8), .mv (.const (.bool false)), none⟩] [8])
  (.ret))
  (.skip)))
 (.seq (.reg [
     ⟨(some 54), .mv (.tmp 0), none⟩,
     ⟨(some 55), .mv (.tmp 1), none⟩,
     ⟨(some 56), .mv (.tmp 2), none⟩,
     ⟨(some 57), .mv (.tmp 3), none⟩,
     ⟨(some 58), .call 44 [(.tmp 54), (.tmp 55), (.tmp 56), (.tmp 57)], none⟩,
     ⟨(some 53), .mv (.tmp 58), none⟩,
     ⟨(some 59), .ext (.tmp 53) 0, none⟩,
     ⟨(some 60), .ext (.tmp 53) 1, none⟩,
     ⟨(some 15), .mv (.tmp 59), none⟩,
     ⟨(some 16), .mv (.tmp 60), none⟩] [9, 10, 11, 13, 15, 16])
 (.seq (.seq (.reg [
     ⟨(some 61), .mv (.tmp 15), none⟩,
     ⟨(some 62), .mv (.tmp 9), none⟩,
     ⟨(some 63), .call 36 [(.tmp 61), (.tmp 62)], none⟩,
     ⟨(some 64), .un .not (.tmp 63), none⟩,
     ⟨(some 65), .mv (.tmp 64), none⟩,
     ⟨(some 66), .mv (.tmp 16), (some (65, false))⟩,
     ⟨(some 67), .mv (.tmp 10), (some (65, false))⟩,
     ⟨(some 68), .bin .neq (.tmp 66) (.tmp 67), (some (65, false))⟩,
     ⟨(some 69), .pick (.tmp 65) (.const (.bool true)) (.tmp 68), none⟩] [11, 13, 69])
 (.cond (.tmp 69)
  (.seq (.reg [
      ⟨(some 8), .mv (.const (.bool false)), none⟩] [8])
  (.ret))
  (.skip)))
 (.seq (.reg [
     ⟨(some 14), .mv (.const (.int .i64 1)), none⟩] [11, 13, 14])
 (.seq (.reg [
     ⟨(some 70), .mv (.tmp 11), none⟩,
     ⟨(some 71), .mv (.tmp 14), none⟩,
     ⟨(some 72), .call 46 [(.tmp 70), (.tmp 71)], none⟩,
     ⟨(some 14), .mv (.tmp 72), none⟩] [13, 14])
 (.seq (.seq (.reg [
     ⟨(some 73), .mv (.tmp 14), none⟩,
     ⟨(some 74), .bin .lss (.tmp 73) (.const (.int .i64 0)), none⟩] [13, 14, 74])
 (.cond (.tmp 74)
  (.seq (.reg [
      ⟨(some 8), .mv (.const (.bool false)), none⟩] [8])
  (.ret))
  (.skip)))
 (.seq (.seq (.reg [
     ⟨(some 75), .mv (.tmp 14), none⟩,
     ⟨(some 76), .mv (.tmp 13), none⟩,
     ⟨(some 77), .bin .neq (.tmp 75) (.tmp 76), none⟩] [77])
 (.cond (.tmp 77)
  (.seq (.reg [
      ⟨(some 8), .mv (.const (.bool false)), none⟩] [8])
  (.ret))
  (.skip)))
 (.seq (.reg [
     ⟨(some 8), .mv (.const (.bool true)), none⟩] [8])
 (.ret)))))))))))))))))
theorem s_laws_FnExactFirstDifferenceSet : stripF Try.prog 10 [[0, 1, 2, 3], [0, 1, 2, 3, 9, 10], [0, 1, 2, 3, 9, 10, 11, 12], [0, 1, 2, 3, 9, 10, 11, 41], [8], [0, 1, 2, 3, 9, 10, 11, 13], [0, 1, 2, 3, 9, 10, 11, 13], [0, 1, 2, 3, 9, 10, 11, 13, 14], [0, 1, 2, 3, 9, 10, 11, 13, 14], [0, 1, 2, 3, 9, 10, 11, 13, 14, 49], [8], [0, 1, 2, 3, 9, 10, 11, 13, 52], [8], [9, 10, 11, 13, 15, 16], [11, 13, 69], [8], [11, 13, 14], [13, 14], [13, 14, 74], [8], [77], [8], [8]] = some (c_laws_FnExactFirstDifferenceSet, [.tmp 8], 78) := by kernel_rfl

/-- loop.example/g00920/laws.FnExactSingerSet -/
abbrev f_laws_FnExactSingerSet : Nat := 11
def c_laws_FnExactSingerSet : SC :=
 .seq (.reg [
     ⟨(some 2), .mv (.const (.bool false)), none⟩] [0])
 (.seq (.reg [
     ⟨(some 12), .mv (.tmp 0), none⟩,
     ⟨(some 13), .call 47 [(.tmp 12)], none⟩,
     ⟨(some 11), .mv (.tmp 13), none⟩,
     ⟨(some 14), .ext (.tmp 11) 0, none⟩,
     ⟨(some 15), .ext (.tmp 11) 1, none⟩,
     ⟨(some 3), .mv (.tmp 14), none⟩,
     ⟨(some 4), .mv (.tmp 15), none⟩] [0, 3, 4])
 (.seq (.reg [
     ⟨(some 17), .mv (.tmp 0), none⟩,
     ⟨(some 18), .call 48 [(.tmp 17)], none⟩,
     ⟨(some 16), .mv (.tmp 18), none⟩,
     ⟨(some 19), .ext (.tmp 16) 0, none⟩,
     ⟨(some 20), .ext (.tmp 16) 1, none⟩,
     ⟨(some 5), .mv (.tmp 19), none⟩,
     ⟨(some 6), .mv (.tmp 20), none⟩] [0, 3, 4, 5, 6])
 (.seq (.seq (.reg [
     ⟨(some 21), .mv (.tmp 5), none⟩,
     ⟨(some 22), .mv (.tmp 3), none⟩,
     ⟨(some 23), .call 36 [(.tmp 21), (.tmp 22)], none⟩,
     ⟨(some 24), .un .not (.tmp 23), none⟩,
     ⟨(some 25), .mv (.tmp 24), none⟩,
     ⟨(some 26), .mv (.tmp 6), (some (25, false))⟩,
     ⟨(some 27), .mv (.tmp 4), (some (25, false))⟩,
     ⟨(some 28), .bin .neq (.tmp 26) (.tmp 27), (some (25, false))⟩,
     ⟨(some 29), .pick (.tmp 25) (.const (.bool true)) (.tmp 28), none⟩] [0, 3, 4, 5, 29])
 (.cond (.tmp 29)
  (.seq (.reg [
      ⟨(some 2), .mv (.const (.bool false)), none⟩] [2])
  (.ret))
  (.skip)))
 (.seq (.reg [
     ⟨(some 7), .mv (.const (.int .i64 1)), none⟩] [0, 3, 4, 5, 7])
 (.seq (.reg [
     ⟨(some 30), .mv (.tmp 5), none⟩,
     ⟨(some 31), .mv (.tmp 7), none⟩,
     ⟨(some 32), .call 45 [(.tmp 30), (.tmp 31)], none⟩,
     ⟨(some 7), .mv (.tmp 32), none⟩] [0, 3, 4, 5, 7])
 (.seq (.reg [
     ⟨(some 8), .mv (.const (.int .i64 1)), none⟩] [0, 3, 4, 5, 7, 8])
 (.seq (.reg [
     ⟨(some 33), .mv (.tmp 5), none⟩,
     ⟨(some 34), .mv (.tmp 8), none⟩,
     ⟨(some 35), .call 46 [(.tmp 33), (.tmp 34)], none⟩,
     ⟨(some 8), .mv (.tmp 35), none⟩] [0, 3, 4, 5, 7, 8])
 (.seq (.seq (.reg [
     ⟨(some 36), .mv (.tmp 8), none⟩,
     ⟨(some 37), .bin .lss (.tmp 36) (.const (.int .i64 0)), none⟩] [0, 3, 4, 5, 7, 8, 37])
 (.cond (.tmp 37)
  (.seq (.reg [
      ⟨(some 2), .mv (.const (.bool false)), none⟩] [2])
  (.ret))
  (.skip)))
 (.seq (.seq (.reg [
     ⟨(some 38), .mv (.tmp 8), none⟩,
     ⟨(some 39), .mv (.tmp 7), none⟩,
     ⟨(some 40), .bin .neq (.tmp 38) (.tmp 39), none⟩] [0, 3, 4, 5, 7, 40])
 (.cond (.tmp 40)
  (.seq (.reg [
      ⟨(some 2), .mv (.const (.bool false)), none⟩] [2])
  (.ret))
  (.skip)))
 (.seq (.reg [
     ⟨(some 42), .mv (.tmp 0), none⟩,
     ⟨(some 43), .call 48 [(.tmp 42)], none⟩,
     ⟨(some 41), .mv (.tmp 43), none⟩,
     ⟨(some 44), .ext (.tmp 41) 0, none⟩,
     ⟨(some 45), .ext (.tmp 41) 1, none⟩,
     ⟨(some 9), .mv (.tmp 44), none⟩,
     ⟨(some 10), .mv (.tmp 45), none⟩] [3, 4, 5, 7, 9, 10])
 (.seq (.seq (.reg [
     ⟨(some 46), .mv (.tmp 9), none⟩,
     ⟨(some 47), .mv (.tmp 3), none⟩,
     ⟨(some 48), .call 36 [(.tmp 46), (.tmp 47)], none⟩,
     ⟨(some 49), .un .not (.tmp 48), none⟩,
     ⟨(some 50), .mv (.tmp 49), none⟩,
     ⟨(some 51), .mv (.tmp 10), (some (50, false))⟩,
     ⟨(some 52), .mv (.tmp 4), (some (50, false))⟩,
     ⟨(some 53), .bin .neq (.tmp 51) (.tmp 52), (some (50, false))⟩,
     ⟨(some 54), .pick (.tmp 50) (.const (.bool true)) (.tmp 53), none⟩] [5, 7, 54])
 (.cond (.tmp 54)
  (.seq (.reg [
      ⟨(some 2), .mv (.const (.bool false)), none⟩] [2])
  (.ret))
  (.skip)))
 (.seq (.reg [
     ⟨(some 8), .mv (.const (.int .i64 1)), none⟩] [5, 7, 8])
 (.seq (.reg [
     ⟨(some 55), .mv (.tmp 5), none⟩,
     ⟨(some 56), .mv (.tmp 8), none⟩,
     ⟨(some 57), .call 46 [(.tmp 55), (.tmp 56)], none⟩,
     ⟨(some 8), .mv (.tmp 57), none⟩] [7, 8])
 (.seq (.seq (.reg [
     ⟨(some 58), .mv (.tmp 8), none⟩,
     ⟨(some 59), .bin .lss (.tmp 58) (.const (.int .i64 0)), none⟩] [7, 8, 59])
 (.cond (.tmp 59)
  (.seq (.reg [
      ⟨(some 2), .mv (.const (.bool false)), none⟩] [2])
  (.ret))
  (.skip)))
 (.seq (.seq (.reg [
     ⟨(some 60), .mv (.tmp 8), none⟩,
     ⟨(some 61), .mv (.tmp 7), none⟩,
     ⟨(some 62), .bin .neq (.tmp 60) (.tmp 61), none⟩] [62])
 (.cond (.tmp 62)
  (.seq (.reg [
      ⟨(some 2), .mv (.const (.bool false)), none⟩] [2])
  (.ret))
  (.skip)))
 (.seq (.reg [
     ⟨(some 2), .mv (.const (.bool true)), none⟩] [2])
 (.ret)))))))))))))))))
theorem s_laws_FnExactSingerSet : stripF Try.prog 11 [[0], [0, 3, 4], [0, 3, 4, 5, 6], [0, 3, 4, 5, 29], [2], [0, 3, 4, 5, 7], [0, 3, 4, 5, 7], [0, 3, 4, 5, 7, 8], [0, 3, 4, 5, 7, 8], [0, 3, 4, 5, 7, 8, 37], [2], [0, 3, 4, 5, 7, 40], [2], [3, 4, 5, 7, 9, 10], [5, 7, 54], [2], [5, 7, 8], [7, 8], [7, 8, 59], [2], [62], [2], [2]] = some (c_laws_FnExactSingerSet, [.tmp 2], 63) := by kernel_rfl


def nums (k : Int) (n : Nat) : List Int := (List.range n).map fun (j : Nat) => k + (j : Int)
theorem nums_length (k : Int) (n : Nat) : (nums k n).length = n := by simp [nums]
theorem markS_ok (H : List Blk) (N : Nat → Prop) (t : Nat) (v : AV) (xs : List Int) (k : Int) (ho : OwnS H N t v xs) (hk0 : 0 ≤ k) (hk : k + xs.length ≤ 4611686018427387904) :
    ACalls Try.prog f_laws_markInt64S [v, I k] H (fun r H' => r = I (k + xs.length) ∧ OwnS H' N t v (nums k xs.length) ∧ H'.length = H.length ∧ ∀ j, ¬ N j → H'[j]? = H[j]?) := by
  rcases ho with ⟨r, ver, ty, rfl, h1, h2, h3⟩ | ⟨rfl, h⟩
  · refine (markInt64S_ok H r ver ty xs k h3 hk0 hk).mono ?_
    rintro r1 H' ⟨rfl, rfl⟩
    refine ⟨rfl, .inl ⟨r, ver, ty, by rw [nums_length], h1, h2, List.getElem?_set_self (List.getElem?_eq_some_iff.1 h3).1⟩, by simp, fun j hj => ?_⟩
    rw [List.getElem?_set_ne (by rintro rfl; exact hj h1)]
  · have hv : aview H v = some (0, []) := by rcases h with rfl | rfl <;> rfl
    refine (markInt64S_nil H v k hv).mono ?_
    rintro r1 H' ⟨rfl, rfl⟩
    exact ⟨by simp, .inr ⟨rfl, h⟩, rfl, fun _ _ => rfl⟩


theorem firstV_len (n k lam b : Int) : (firstV n k lam b).1.length ≤ 1000 := by
  unfold firstV
  split
  · simp
  · rename_i hr
    split
    · simp
    · have hk : k ≤ 32 := by
        simp [rangeOk] at hr
        omega
      have hl := visitM_len n.toNat k lam n.toNat [0] b.toNat
      generalize visitM n.toNat k lam n.toNat [0] b.toNat = z at hl
      obtain ⟨c, s, l⟩ := z
      split
      · rename_i he
        cases he
        have := hl rfl
        simp only at this ⊢
        omega
      · simp
      · simp
theorem singerV_len (q : Int) : (singerV q).1.length ≤ 1000 := by
  unfold singerV
  split
  · exact firstV_len _ _ _ _
  · simp

/-- The body of a law over a call that hands back a list and a code. -/
theorem lawFirst_ok (H : List Blk) (n k lam b : Int) : ACalls Try.prog f_laws_FnExactFirstDifferenceSet [I n, I k, I lam, I b] H (fun r _ => r = Bv true) := by
  have hs := specFirst_fn n k lam b
  have hi := implFirst_fs n k lam b
  have hl := firstV_len n k lam b
  unfold firstAV at hs
  have hneg : decide ((1 : Int) + (firstV n k lam b).1.length < 0) = false := decide_eq_false (by omega)
  generalize (firstV n k lam b).1 = xs at *
  generalize (firstV n k lam b).2 = code at *
  refine ACalls.introB s_laws_FnExactFirstDifferenceSet (by simp) ?_; intro hB hA; unfold c_laws_FnExactFirstDifferenceSet; simp (config := { maxSteps := 1000000 }) (disch := (first | omega | (simp only [go_sem]; try omega))) only [go_sem, ↓GSplit_t, ↓GSplit_f, ↓GSplit_tf, ↓GSplit_ft, Nat.reduceAdd, Nat.reduceEqDiff, Nat.reduceLeDiff, Nat.reduceMul, Nat.reduceLT, reduceIte, Int.reduceToNat, bne_self_eq_false, beq_self_eq_true, w64_id, cast_succ, Bool.false_eq_true, Bool.and_true, Bool.true_and, Bool.and_false, Bool.false_and, Bool.not_not]
  repeat (first | (with_reducible refine SW.seq ?_) | (with_reducible refine SW.block ?_) | (with_reducible refine SW.rowC ?_) | (with_reducible refine SW.skip ?_) | (with_reducible refine SW.exit ?_) | (with_reducible refine PFn.use (hs) ?_) | (with_reducible refine PFn.useq (hs) ?_) | (with_reducible intro _) | (with_reducible refine And.intro (by omega) ?_) | (simp (config := { maxSteps := 1000000 }) (disch := (first | omega | (simp only [go_sem]; try omega))) only [go_sem, ↓GSplit_t, ↓GSplit_f, ↓GSplit_tf, ↓GSplit_ft, Nat.reduceAdd, Nat.reduceEqDiff, Nat.reduceLeDiff, Nat.reduceMul, Nat.reduceLT, reduceIte, Int.reduceToNat, bne_self_eq_false, beq_self_eq_true, w64_id, cast_succ, Bool.false_eq_true, Bool.and_true, Bool.true_and, Bool.and_false, Bool.false_and, Bool.not_not]))
  refine hi.use ?_
  intro ext v t ho ht
  repeat (first | (with_reducible refine SW.seq ?_) | (with_reducible refine SW.block ?_) | (with_reducible refine SW.rowC ?_) | (with_reducible refine SW.skip ?_) | (with_reducible refine SW.exit ?_) | (with_reducible intro _) | (with_reducible refine And.intro (by omega) ?_) | (simp (config := { maxSteps := 1000000 }) (disch := (first | omega | (simp only [go_sem]; try omega))) only [go_sem, ↓GSplit_t, ↓GSplit_f, ↓GSplit_tf, ↓GSplit_ft, Nat.reduceAdd, Nat.reduceEqDiff, Nat.reduceLeDiff, Nat.reduceMul, Nat.reduceLT, reduceIte, Int.reduceToNat, bne_self_eq_false, beq_self_eq_true, w64_id, cast_succ, Bool.false_eq_true, Bool.and_true, Bool.true_and, Bool.and_false, Bool.false_and, Bool.not_not]))
  refine ACalls.fn (eqInt64S_ok _ _ _ _ _ ho.rd (rd_ilS _ _)) ?_
  repeat (first | (with_reducible refine SW.seq ?_) | (with_reducible refine SW.block ?_) | (with_reducible refine SW.rowC ?_) | (with_reducible refine SW.skip ?_) | (with_reducible refine SW.exit ?_) | (with_reducible intro _) | (with_reducible refine And.intro (by omega) ?_) | (simp (config := { maxSteps := 1000000 }) (disch := (first | omega | (simp only [go_sem]; try omega))) only [go_sem, ↓GSplit_t, ↓GSplit_f, ↓GSplit_tf, ↓GSplit_ft, Nat.reduceAdd, Nat.reduceEqDiff, Nat.reduceLeDiff, Nat.reduceMul, Nat.reduceLT, reduceIte, Int.reduceToNat, bne_self_eq_false, beq_self_eq_true, w64_id, cast_succ, Bool.false_eq_true, Bool.and_true, Bool.true_and, Bool.and_false, Bool.false_and, Bool.not_not]))
  refine SW.condF rfl ?_
  repeat (first | (with_reducible refine SW.seq ?_) | (with_reducible refine SW.block ?_) | (with_reducible refine SW.rowC ?_) | (with_reducible refine SW.skip ?_) | (with_reducible refine SW.exit ?_) | (with_reducible intro _) | (with_reducible refine And.intro (by omega) ?_) | (simp (config := { maxSteps := 1000000 }) (disch := (first | omega | (simp only [go_sem]; try omega))) only [go_sem, ↓GSplit_t, ↓GSplit_f, ↓GSplit_tf, ↓GSplit_ft, Nat.reduceAdd, Nat.reduceEqDiff, Nat.reduceLeDiff, Nat.reduceMul, Nat.reduceLT, reduceIte, Int.reduceToNat, bne_self_eq_false, beq_self_eq_true, w64_id, cast_succ, Bool.false_eq_true, Bool.and_true, Bool.true_and, Bool.and_false, Bool.false_and, Bool.not_not]))
  refine (markS_ok _ _ _ _ _ 1 ho (by omega) (by omega)).mono ?_
  rintro r H1 ⟨rfl, ho1, -, -⟩
  repeat (first | (with_reducible refine SW.seq ?_) | (with_reducible refine SW.block ?_) | (with_reducible refine SW.rowC ?_) | (with_reducible refine SW.skip ?_) | (with_reducible refine SW.exit ?_) | (with_reducible intro _) | (with_reducible refine And.intro (by omega) ?_) | (simp (config := { maxSteps := 1000000 }) (disch := (first | omega | (simp only [go_sem]; try omega))) only [go_sem, ↓GSplit_t, ↓GSplit_f, ↓GSplit_tf, ↓GSplit_ft, Nat.reduceAdd, Nat.reduceEqDiff, Nat.reduceLeDiff, Nat.reduceMul, Nat.reduceLT, reduceIte, Int.reduceToNat, bne_self_eq_false, beq_self_eq_true, w64_id, cast_succ, Bool.false_eq_true, Bool.and_true, Bool.true_and, Bool.and_false, Bool.false_and, Bool.not_not]))
  refine ACalls.fn (heldInt64S_ok _ _ _ 1 ho1.rd (by omega) (by omega)) ?_
  repeat (first | (with_reducible refine SW.seq ?_) | (with_reducible refine SW.block ?_) | (with_reducible refine SW.rowC ?_) | (with_reducible refine SW.skip ?_) | (with_reducible refine SW.exit ?_) | (with_reducible intro _) | (with_reducible refine And.intro (by omega) ?_) | (simp (config := { maxSteps := 1000000 }) (disch := (first | omega | (simp only [go_sem]; try omega))) only [go_sem, ↓GSplit_t, ↓GSplit_f, ↓GSplit_tf, ↓GSplit_ft, Nat.reduceAdd, Nat.reduceEqDiff, Nat.reduceLeDiff, Nat.reduceMul, Nat.reduceLT, reduceIte, Int.reduceToNat, bne_self_eq_false, beq_self_eq_true, w64_id, cast_succ, Bool.false_eq_true, Bool.and_true, Bool.true_and, Bool.and_false, Bool.false_and, Bool.not_not, hneg]))
  refine SW.condF rfl ?_
  repeat (first | (with_reducible refine SW.seq ?_) | (with_reducible refine SW.block ?_) | (with_reducible refine SW.rowC ?_) | (with_reducible refine SW.skip ?_) | (with_reducible refine SW.exit ?_) | (with_reducible intro _) | (with_reducible refine And.intro (by omega) ?_) | (simp (config := { maxSteps := 1000000 }) (disch := (first | omega | (simp only [go_sem]; try omega))) only [go_sem, ↓GSplit_t, ↓GSplit_f, ↓GSplit_tf, ↓GSplit_ft, Nat.reduceAdd, Nat.reduceEqDiff, Nat.reduceLeDiff, Nat.reduceMul, Nat.reduceLT, reduceIte, Int.reduceToNat, bne_self_eq_false, beq_self_eq_true, w64_id, cast_succ, Bool.false_eq_true, Bool.and_true, Bool.true_and, Bool.and_false, Bool.false_and, Bool.not_not]))
  refine SW.condF rfl ?_
  repeat (first | (with_reducible refine SW.seq ?_) | (with_reducible refine SW.block ?_) | (with_reducible refine SW.rowC ?_) | (with_reducible refine SW.skip ?_) | (with_reducible refine SW.exit ?_) | (with_reducible intro _) | (with_reducible refine And.intro (by omega) ?_) | (simp (config := { maxSteps := 1000000 }) (disch := (first | omega | (simp only [go_sem]; try omega))) only [go_sem, ↓GSplit_t, ↓GSplit_f, ↓GSplit_tf, ↓GSplit_ft, Nat.reduceAdd, Nat.reduceEqDiff, Nat.reduceLeDiff, Nat.reduceMul, Nat.reduceLT, reduceIte, Int.reduceToNat, bne_self_eq_false, beq_self_eq_true, w64_id, cast_succ, Bool.false_eq_true, Bool.and_true, Bool.true_and, Bool.and_false, Bool.false_and, Bool.not_not]))
  refine hi.use ?_
  intro ext2 v2 t2 ho2 ht2
  repeat (first | (with_reducible refine SW.seq ?_) | (with_reducible refine SW.block ?_) | (with_reducible refine SW.rowC ?_) | (with_reducible refine SW.skip ?_) | (with_reducible refine SW.exit ?_) | (with_reducible intro _) | (with_reducible refine And.intro (by omega) ?_) | (simp (config := { maxSteps := 1000000 }) (disch := (first | omega | (simp only [go_sem]; try omega))) only [go_sem, ↓GSplit_t, ↓GSplit_f, ↓GSplit_tf, ↓GSplit_ft, Nat.reduceAdd, Nat.reduceEqDiff, Nat.reduceLeDiff, Nat.reduceMul, Nat.reduceLT, reduceIte, Int.reduceToNat, bne_self_eq_false, beq_self_eq_true, w64_id, cast_succ, Bool.false_eq_true, Bool.and_true, Bool.true_and, Bool.and_false, Bool.false_and, Bool.not_not]))
  refine ACalls.fn (eqInt64S_ok _ _ _ _ _ ho2.rd (rd_ilS _ _)) ?_
  repeat (first | (with_reducible refine SW.seq ?_) | (with_reducible refine SW.block ?_) | (with_reducible refine SW.rowC ?_) | (with_reducible refine SW.skip ?_) | (with_reducible refine SW.exit ?_) | (with_reducible intro _) | (with_reducible refine And.intro (by omega) ?_) | (simp (config := { maxSteps := 1000000 }) (disch := (first | omega | (simp only [go_sem]; try omega))) only [go_sem, ↓GSplit_t, ↓GSplit_f, ↓GSplit_tf, ↓GSplit_ft, Nat.reduceAdd, Nat.reduceEqDiff, Nat.reduceLeDiff, Nat.reduceMul, Nat.reduceLT, reduceIte, Int.reduceToNat, bne_self_eq_false, beq_self_eq_true, w64_id, cast_succ, Bool.false_eq_true, Bool.and_true, Bool.true_and, Bool.and_false, Bool.false_and, Bool.not_not]))
  refine SW.condF rfl ?_
  repeat (first | (with_reducible refine SW.seq ?_) | (with_reducible refine SW.block ?_) | (with_reducible refine SW.rowC ?_) | (with_reducible refine SW.skip ?_) | (with_reducible refine SW.exit ?_) | (with_reducible intro _) | (with_reducible refine And.intro (by omega) ?_) | (simp (config := { maxSteps := 1000000 }) (disch := (first | omega | (simp only [go_sem]; try omega))) only [go_sem, ↓GSplit_t, ↓GSplit_f, ↓GSplit_tf, ↓GSplit_ft, Nat.reduceAdd, Nat.reduceEqDiff, Nat.reduceLeDiff, Nat.reduceMul, Nat.reduceLT, reduceIte, Int.reduceToNat, bne_self_eq_false, beq_self_eq_true, w64_id, cast_succ, Bool.false_eq_true, Bool.and_true, Bool.true_and, Bool.and_false, Bool.false_and, Bool.not_not]))
  refine ACalls.fn (heldInt64S_ok _ _ _ 1 (ho1.rd.append _) (by omega) (by omega)) ?_
  repeat (first | (with_reducible refine SW.seq ?_) | (with_reducible refine SW.block ?_) | (with_reducible refine SW.rowC ?_) | (with_reducible refine SW.skip ?_) | (with_reducible refine SW.exit ?_) | (with_reducible intro _) | (with_reducible refine And.intro (by omega) ?_) | (simp (config := { maxSteps := 1000000 }) (disch := (first | omega | (simp only [go_sem]; try omega))) only [go_sem, ↓GSplit_t, ↓GSplit_f, ↓GSplit_tf, ↓GSplit_ft, Nat.reduceAdd, Nat.reduceEqDiff, Nat.reduceLeDiff, Nat.reduceMul, Nat.reduceLT, reduceIte, Int.reduceToNat, bne_self_eq_false, beq_self_eq_true, w64_id, cast_succ, Bool.false_eq_true, Bool.and_true, Bool.true_and, Bool.and_false, Bool.false_and, Bool.not_not, hneg]))
  refine SW.condF rfl ?_
  repeat (first | (with_reducible refine SW.seq ?_) | (with_reducible refine SW.block ?_) | (with_reducible refine SW.rowC ?_) | (with_reducible refine SW.skip ?_) | (with_reducible refine SW.exit ?_) | (with_reducible intro _) | (with_reducible refine And.intro (by omega) ?_) | (simp (config := { maxSteps := 1000000 }) (disch := (first | omega | (simp only [go_sem]; try omega))) only [go_sem, ↓GSplit_t, ↓GSplit_f, ↓GSplit_tf, ↓GSplit_ft, Nat.reduceAdd, Nat.reduceEqDiff, Nat.reduceLeDiff, Nat.reduceMul, Nat.reduceLT, reduceIte, Int.reduceToNat, bne_self_eq_false, beq_self_eq_true, w64_id, cast_succ, Bool.false_eq_true, Bool.and_true, Bool.true_and, Bool.and_false, Bool.false_and, Bool.not_not]))
  refine SW.condF rfl ?_
  repeat (first | (with_reducible refine SW.seq ?_) | (with_reducible refine SW.block ?_) | (with_reducible refine SW.rowC ?_) | (with_reducible refine SW.skip ?_) | (with_reducible refine SW.exit ?_) | (with_reducible intro _) | (with_reducible refine And.intro (by omega) ?_) | (simp (config := { maxSteps := 1000000 }) (disch := (first | omega | (simp only [go_sem]; try omega))) only [go_sem, ↓GSplit_t, ↓GSplit_f, ↓GSplit_tf, ↓GSplit_ft, Nat.reduceAdd, Nat.reduceEqDiff, Nat.reduceLeDiff, Nat.reduceMul, Nat.reduceLT, reduceIte, Int.reduceToNat, bne_self_eq_false, beq_self_eq_true, w64_id, cast_succ, Bool.false_eq_true, Bool.and_true, Bool.true_and, Bool.and_false, Bool.false_and, Bool.not_not]))
  refine SW.ret ?_; (try simp only [go_sem]); (first | refine FunPost.one ?_ | refine FunPost.two ?_ | refine FunPost.three ?_); (try simp (config := { maxSteps := 1000000 }) (disch := (first | omega | (simp only [go_sem]; try omega))) only [go_sem, ↓GSplit_t, ↓GSplit_f, ↓GSplit_tf, ↓GSplit_ft, Nat.reduceAdd, Nat.reduceEqDiff, Nat.reduceLeDiff, Nat.reduceMul, Nat.reduceLT, reduceIte, Int.reduceToNat, bne_self_eq_false, beq_self_eq_true, w64_id, cast_succ, Bool.false_eq_true, Bool.and_true, Bool.true_and, Bool.and_false, Bool.false_and, Bool.not_not])
  exact GR.of rfl
theorem lawSinger_ok (H : List Blk) (n : Int) : ACalls Try.prog f_laws_FnExactSingerSet [I n] H (fun r _ => r = Bv true) := by
  have hs := specSinger_fn n
  have hi := implSinger_fs n
  have hl := singerV_len n
  unfold firstAV at hs
  have hneg : decide ((1 : Int) + (singerV n).1.length < 0) = false := decide_eq_false (by omega)
  generalize (singerV n).1 = xs at *
  generalize (singerV n).2 = code at *
  refine ACalls.introB s_laws_FnExactSingerSet (by simp) ?_; intro hB hA; unfold c_laws_FnExactSingerSet; simp (config := { maxSteps := 1000000 }) (disch := (first | omega | (simp only [go_sem]; try omega))) only [go_sem, ↓GSplit_t, ↓GSplit_f, ↓GSplit_tf, ↓GSplit_ft, Nat.reduceAdd, Nat.reduceEqDiff, Nat.reduceLeDiff, Nat.reduceMul, Nat.reduceLT, reduceIte, Int.reduceToNat, bne_self_eq_false, beq_self_eq_true, w64_id, cast_succ, Bool.false_eq_true, Bool.and_true, Bool.true_and, Bool.and_false, Bool.false_and, Bool.not_not]
  repeat (first | (with_reducible refine SW.seq ?_) | (with_reducible refine SW.block ?_) | (with_reducible refine SW.rowC ?_) | (with_reducible refine SW.skip ?_) | (with_reducible refine SW.exit ?_) | (with_reducible refine PFn.use (hs) ?_) | (with_reducible refine PFn.useq (hs) ?_) | (with_reducible intro _) | (with_reducible refine And.intro (by omega) ?_) | (simp (config := { maxSteps := 1000000 }) (disch := (first | omega | (simp only [go_sem]; try omega))) only [go_sem, ↓GSplit_t, ↓GSplit_f, ↓GSplit_tf, ↓GSplit_ft, Nat.reduceAdd, Nat.reduceEqDiff, Nat.reduceLeDiff, Nat.reduceMul, Nat.reduceLT, reduceIte, Int.reduceToNat, bne_self_eq_false, beq_self_eq_true, w64_id, cast_succ, Bool.false_eq_true, Bool.and_true, Bool.true_and, Bool.and_false, Bool.false_and, Bool.not_not]))
  refine hi.use ?_
  intro ext v t ho ht
  repeat (first | (with_reducible refine SW.seq ?_) | (with_reducible refine SW.block ?_) | (with_reducible refine SW.rowC ?_) | (with_reducible refine SW.skip ?_) | (with_reducible refine SW.exit ?_) | (with_reducible intro _) | (with_reducible refine And.intro (by omega) ?_) | (simp (config := { maxSteps := 1000000 }) (disch := (first | omega | (simp only [go_sem]; try omega))) only [go_sem, ↓GSplit_t, ↓GSplit_f, ↓GSplit_tf, ↓GSplit_ft, Nat.reduceAdd, Nat.reduceEqDiff, Nat.reduceLeDiff, Nat.reduceMul, Nat.reduceLT, reduceIte, Int.reduceToNat, bne_self_eq_false, beq_self_eq_true, w64_id, cast_succ, Bool.false_eq_true, Bool.and_true, Bool.true_and, Bool.and_false, Bool.false_and, Bool.not_not]))
  refine ACalls.fn (eqInt64S_ok _ _ _ _ _ ho.rd (rd_ilS _ _)) ?_
  repeat (first | (with_reducible refine SW.seq ?_) | (with_reducible refine SW.block ?_) | (with_reducible refine SW.rowC ?_) | (with_reducible refine SW.skip ?_) | (with_reducible refine SW.exit ?_) | (with_reducible intro _) | (with_reducible refine And.intro (by omega) ?_) | (simp (config := { maxSteps := 1000000 }) (disch := (first | omega | (simp only [go_sem]; try omega))) only [go_sem, ↓GSplit_t, ↓GSplit_f, ↓GSplit_tf, ↓GSplit_ft, Nat.reduceAdd, Nat.reduceEqDiff, Nat.reduceLeDiff, Nat.reduceMul, Nat.reduceLT, reduceIte, Int.reduceToNat, bne_self_eq_false, beq_self_eq_true, w64_id, cast_succ, Bool.false_eq_true, Bool.and_true, Bool.true_and, Bool.and_false, Bool.false_and, Bool.not_not]))
  refine SW.condF rfl ?_
  repeat (first | (with_reducible refine SW.seq ?_) | (with_reducible refine SW.block ?_) | (with_reducible refine SW.rowC ?_) | (with_reducible refine SW.skip ?_) | (with_reducible refine SW.exit ?_) | (with_reducible intro _) | (with_reducible refine And.intro (by omega) ?_) | (simp (config := { maxSteps := 1000000 }) (disch := (first | omega | (simp only [go_sem]; try omega))) only [go_sem, ↓GSplit_t, ↓GSplit_f, ↓GSplit_tf, ↓GSplit_ft, Nat.reduceAdd, Nat.reduceEqDiff, Nat.reduceLeDiff, Nat.reduceMul, Nat.reduceLT, reduceIte, Int.reduceToNat, bne_self_eq_false, beq_self_eq_true, w64_id, cast_succ, Bool.false_eq_true, Bool.and_true, Bool.true_and, Bool.and_false, Bool.false_and, Bool.not_not]))
  refine (markS_ok _ _ _ _ _ 1 ho (by omega) (by omega)).mono ?_
  rintro r H1 ⟨rfl, ho1, -, -⟩
  repeat (first | (with_reducible refine SW.seq ?_) | (with_reducible refine SW.block ?_) | (with_reducible refine SW.rowC ?_) | (with_reducible refine SW.skip ?_) | (with_reducible refine SW.exit ?_) | (with_reducible intro _) | (with_reducible refine And.intro (by omega) ?_) | (simp (config := { maxSteps := 1000000 }) (disch := (first | omega | (simp only [go_sem]; try omega))) only [go_sem, ↓GSplit_t, ↓GSplit_f, ↓GSplit_tf, ↓GSplit_ft, Nat.reduceAdd, Nat.reduceEqDiff, Nat.reduceLeDiff, Nat.reduceMul, Nat.reduceLT, reduceIte, Int.reduceToNat, bne_self_eq_false, beq_self_eq_true, w64_id, cast_succ, Bool.false_eq_true, Bool.and_true, Bool.true_and, Bool.and_false, Bool.false_and, Bool.not_not]))
  refine ACalls.fn (heldInt64S_ok _ _ _ 1 ho1.rd (by omega) (by omega)) ?_
  repeat (first | (with_reducible refine SW.seq ?_) | (with_reducible refine SW.block ?_) | (with_reducible refine SW.rowC ?_) | (with_reducible refine SW.skip ?_) | (with_reducible refine SW.exit ?_) | (with_reducible intro _) | (with_reducible refine And.intro (by omega) ?_) | (simp (config := { maxSteps := 1000000 }) (disch := (first | omega | (simp only [go_sem]; try omega))) only [go_sem, ↓GSplit_t, ↓GSplit_f, ↓GSplit_tf, ↓GSplit_ft, Nat.reduceAdd, Nat.reduceEqDiff, Nat.reduceLeDiff, Nat.reduceMul, Nat.reduceLT, reduceIte, Int.reduceToNat, bne_self_eq_false, beq_self_eq_true, w64_id, cast_succ, Bool.false_eq_true, Bool.and_true, Bool.true_and, Bool.and_false, Bool.false_and, Bool.not_not, hneg]))
  refine SW.condF rfl ?_
  repeat (first | (with_reducible refine SW.seq ?_) | (with_reducible refine SW.block ?_) | (with_reducible refine SW.rowC ?_) | (with_reducible refine SW.skip ?_) | (with_reducible refine SW.exit ?_) | (with_reducible intro _) | (with_reducible refine And.intro (by omega) ?_) | (simp (config := { maxSteps := 1000000 }) (disch := (first | omega | (simp only [go_sem]; try omega))) only [go_sem, ↓GSplit_t, ↓GSplit_f, ↓GSplit_tf, ↓GSplit_ft, Nat.reduceAdd, Nat.reduceEqDiff, Nat.reduceLeDiff, Nat.reduceMul, Nat.reduceLT, reduceIte, Int.reduceToNat, bne_self_eq_false, beq_self_eq_true, w64_id, cast_succ, Bool.false_eq_true, Bool.and_true, Bool.true_and, Bool.and_false, Bool.false_and, Bool.not_not]))
  refine SW.condF rfl ?_
  repeat (first | (with_reducible refine SW.seq ?_) | (with_reducible refine SW.block ?_) | (with_reducible refine SW.rowC ?_) | (with_reducible refine SW.skip ?_) | (with_reducible refine SW.exit ?_) | (with_reducible intro _) | (with_reducible refine And.intro (by omega) ?_) | (simp (config := { maxSteps := 1000000 }) (disch := (first | omega | (simp only [go_sem]; try omega))) only [go_sem, ↓GSplit_t, ↓GSplit_f, ↓GSplit_tf, ↓GSplit_ft, Nat.reduceAdd, Nat.reduceEqDiff, Nat.reduceLeDiff, Nat.reduceMul, Nat.reduceLT, reduceIte, Int.reduceToNat, bne_self_eq_false, beq_self_eq_true, w64_id, cast_succ, Bool.false_eq_true, Bool.and_true, Bool.true_and, Bool.and_false, Bool.false_and, Bool.not_not]))
  refine hi.use ?_
  intro ext2 v2 t2 ho2 ht2
  repeat (first | (with_reducible refine SW.seq ?_) | (with_reducible refine SW.block ?_) | (with_reducible refine SW.rowC ?_) | (with_reducible refine SW.skip ?_) | (with_reducible refine SW.exit ?_) | (with_reducible intro _) | (with_reducible refine And.intro (by omega) ?_) | (simp (config := { maxSteps := 1000000 }) (disch := (first | omega | (simp only [go_sem]; try omega))) only [go_sem, ↓GSplit_t, ↓GSplit_f, ↓GSplit_tf, ↓GSplit_ft, Nat.reduceAdd, Nat.reduceEqDiff, Nat.reduceLeDiff, Nat.reduceMul, Nat.reduceLT, reduceIte, Int.reduceToNat, bne_self_eq_false, beq_self_eq_true, w64_id, cast_succ, Bool.false_eq_true, Bool.and_true, Bool.true_and, Bool.and_false, Bool.false_and, Bool.not_not]))
  refine ACalls.fn (eqInt64S_ok _ _ _ _ _ ho2.rd (rd_ilS _ _)) ?_
  repeat (first | (with_reducible refine SW.seq ?_) | (with_reducible refine SW.block ?_) | (with_reducible refine SW.rowC ?_) | (with_reducible refine SW.skip ?_) | (with_reducible refine SW.exit ?_) | (with_reducible intro _) | (with_reducible refine And.intro (by omega) ?_) | (simp (config := { maxSteps := 1000000 }) (disch := (first | omega | (simp only [go_sem]; try omega))) only [go_sem, ↓GSplit_t, ↓GSplit_f, ↓GSplit_tf, ↓GSplit_ft, Nat.reduceAdd, Nat.reduceEqDiff, Nat.reduceLeDiff, Nat.reduceMul, Nat.reduceLT, reduceIte, Int.reduceToNat, bne_self_eq_false, beq_self_eq_true, w64_id, cast_succ, Bool.false_eq_true, Bool.and_true, Bool.true_and, Bool.and_false, Bool.false_and, Bool.not_not]))
  refine SW.condF rfl ?_
  repeat (first | (with_reducible refine SW.seq ?_) | (with_reducible refine SW.block ?_) | (with_reducible refine SW.rowC ?_) | (with_reducible refine SW.skip ?_) | (with_reducible refine SW.exit ?_) | (with_reducible intro _) | (with_reducible refine And.intro (by omega) ?_) | (simp (config := { maxSteps := 1000000 }) (disch := (first | omega | (simp only [go_sem]; try omega))) only [go_sem, ↓GSplit_t, ↓GSplit_f, ↓GSplit_tf, ↓GSplit_ft, Nat.reduceAdd, Nat.reduceEqDiff, Nat.reduceLeDiff, Nat.reduceMul, Nat.reduceLT, reduceIte, Int.reduceToNat, bne_self_eq_false, beq_self_eq_true, w64_id, cast_succ, Bool.false_eq_true, Bool.and_true, Bool.true_and, Bool.and_false, Bool.false_and, Bool.not_not]))
  refine ACalls.fn (heldInt64S_ok _ _ _ 1 (ho1.rd.append _) (by omega) (by omega)) ?_
  repeat (first | (with_reducible refine SW.seq ?_) | (with_reducible refine SW.block ?_) | (with_reducible refine SW.rowC ?_) | (with_reducible refine SW.skip ?_) | (with_reducible refine SW.exit ?_) | (with_reducible intro _) | (with_reducible refine And.intro (by omega) ?_) | (simp (config := { maxSteps := 1000000 }) (disch := (first | omega | (simp only [go_sem]; try omega))) only [go_sem, ↓GSplit_t, ↓GSplit_f, ↓GSplit_tf, ↓GSplit_ft, Nat.reduceAdd, Nat.reduceEqDiff, Nat.reduceLeDiff, Nat.reduceMul, Nat.reduceLT, reduceIte, Int.reduceToNat, bne_self_eq_false, beq_self_eq_true, w64_id, cast_succ, Bool.false_eq_true, Bool.and_true, Bool.true_and, Bool.and_false, Bool.false_and, Bool.not_not, hneg]))
  refine SW.condF rfl ?_
  repeat (first | (with_reducible refine SW.seq ?_) | (with_reducible refine SW.block ?_) | (with_reducible refine SW.rowC ?_) | (with_reducible refine SW.skip ?_) | (with_reducible refine SW.exit ?_) | (with_reducible intro _) | (with_reducible refine And.intro (by omega) ?_) | (simp (config := { maxSteps := 1000000 }) (disch := (first | omega | (simp only [go_sem]; try omega))) only [go_sem, ↓GSplit_t, ↓GSplit_f, ↓GSplit_tf, ↓GSplit_ft, Nat.reduceAdd, Nat.reduceEqDiff, Nat.reduceLeDiff, Nat.reduceMul, Nat.reduceLT, reduceIte, Int.reduceToNat, bne_self_eq_false, beq_self_eq_true, w64_id, cast_succ, Bool.false_eq_true, Bool.and_true, Bool.true_and, Bool.and_false, Bool.false_and, Bool.not_not]))
  refine SW.condF rfl ?_
  repeat (first | (with_reducible refine SW.seq ?_) | (with_reducible refine SW.block ?_) | (with_reducible refine SW.rowC ?_) | (with_reducible refine SW.skip ?_) | (with_reducible refine SW.exit ?_) | (with_reducible intro _) | (with_reducible refine And.intro (by omega) ?_) | (simp (config := { maxSteps := 1000000 }) (disch := (first | omega | (simp only [go_sem]; try omega))) only [go_sem, ↓GSplit_t, ↓GSplit_f, ↓GSplit_tf, ↓GSplit_ft, Nat.reduceAdd, Nat.reduceEqDiff, Nat.reduceLeDiff, Nat.reduceMul, Nat.reduceLT, reduceIte, Int.reduceToNat, bne_self_eq_false, beq_self_eq_true, w64_id, cast_succ, Bool.false_eq_true, Bool.and_true, Bool.true_and, Bool.and_false, Bool.false_and, Bool.not_not]))
  refine SW.ret ?_; (try simp only [go_sem]); (first | refine FunPost.one ?_ | refine FunPost.two ?_ | refine FunPost.three ?_); (try simp (config := { maxSteps := 1000000 }) (disch := (first | omega | (simp only [go_sem]; try omega))) only [go_sem, ↓GSplit_t, ↓GSplit_f, ↓GSplit_tf, ↓GSplit_ft, Nat.reduceAdd, Nat.reduceEqDiff, Nat.reduceLeDiff, Nat.reduceMul, Nat.reduceLT, reduceIte, Int.reduceToNat, bne_self_eq_false, beq_self_eq_true, w64_id, cast_succ, Bool.false_eq_true, Bool.and_true, Bool.true_and, Bool.and_false, Bool.false_and, Bool.not_not])
  exact GR.of rfl
end Go.Proofs.Ytmgbglekgigkmaa
