/- The first difference set: the program's call. -/
import Derived.Test.YtmgbglekgigkmaaProg
import Derived.KernelRfl
import Derived.Test.YtmgbglekgigkmaaK11
set_option linter.unusedSimpArgs false
set_option linter.unusedVariables false
set_option maxHeartbeats 4000000
namespace Go.Proofs.Ytmgbglekgigkmaa
open Go.Av

/-! The abstract code of functions, printed by program and tied to the program by the kernel. -/
/-- loop.example/g00920/impl.FirstDifferenceSet -/
abbrev f_impl_FirstDifferenceSet : Nat := 44
def c_impl_FirstDifferenceSet : SC :=
 .seq (.reg [
     ⟨(some 8), .mv (.const (.slice none 0 0)), none⟩,
     ⟨(some 9), .mv (.const (.int .i64 0)), none⟩] [0, 1, 2, 3])
 (.seq (.seq (.reg [
     ⟨(some 13), .mv (.tmp 0), none⟩,
     ⟨(some 14), .call 59 [(.tmp 13), (.const (.int .i64 2)), (.const (.int .i64 32))], none⟩,
     ⟨(some 15), .un .not (.tmp 14), none⟩,
     ⟨(some 16), .mv (.tmp 15), none⟩,
     ⟨(some 17), .mv (.tmp 1), (some (16, false))⟩,
     ⟨(some 18), .mv (.tmp 0), (some (16, false))⟩,
     ⟨(some 19), .call 59 [(.tmp 17), (.const (.int .i64 2)), (.tmp 18)], (some (16, false))⟩,
     ⟨(some 20), .un .not (.tmp 19), (some (16, false))⟩,
     ⟨(some 21), .pick (.tmp 16) (.const (.bool true)) (.tmp 20), none⟩,
     ⟨(some 22), .mv (.tmp 21), none⟩,
     ⟨(some 23), .mv (.tmp 3), (some (22, false))⟩,
     ⟨(some 24), .call 98 [(.tmp 23)], (some (22, false))⟩,
     ⟨(some 25), .un .not (.tmp 24), (some (22, false))⟩,
     ⟨(some 26), .pick (.tmp 22) (.const (.bool true)) (.tmp 25), none⟩] [0, 1, 2, 3, 26])
 (.cond (.tmp 26)
  (.seq (.reg [
      ⟨(some 8), .mv (.const (.slice none 0 0)), none⟩,
      ⟨(some 9), .mv (.const (.int .i64 2)), none⟩] [8, 9])
  (.ret))
  (.skip)))
 (.seq (.seq (.reg [
     ⟨(some 27), .mv (.tmp 2), none⟩,
     ⟨(some 28), .mv (.tmp 1), none⟩,
     ⟨(some 29), .mv (.tmp 1), none⟩,
     ⟨(some 30), .bin .sub (.tmp 29) (.const (.int .i64 1)), none⟩,
     ⟨(some 31), .bin .mul (.tmp 28) (.tmp 30), none⟩,
     ⟨(some 32), .call 59 [(.tmp 27), (.const (.int .i64 1)), (.tmp 31)], none⟩,
     ⟨(some 33), .un .not (.tmp 32), none⟩,
     ⟨(some 34), .mv (.tmp 33), none⟩,
     ⟨(some 35), .mv (.tmp 1), (some (34, false))⟩,
     ⟨(some 36), .mv (.tmp 1), (some (34, false))⟩,
     ⟨(some 37), .bin .sub (.tmp 36) (.const (.int .i64 1)), (some (34, false))⟩,
     ⟨(some 38), .bin .mul (.tmp 35) (.tmp 37), (some (34, false))⟩,
     ⟨(some 39), .mv (.tmp 2), (some (34, false))⟩,
     ⟨(some 40), .mv (.tmp 0), (some (34, false))⟩,
     ⟨(some 41), .bin .sub (.tmp 40) (.const (.int .i64 1)), (some (34, false))⟩,
     ⟨(some 42), .bin .mul (.tmp 39) (.tmp 41), (some (34, false))⟩,
     ⟨(some 43), .bin .neq (.tmp 38) (.tmp 42), (some (34, false))⟩,
     ⟨(some 44), .pick (.tmp 34) (.const (.bool true)) (.tmp 43), none⟩] [0, 1, 2, 3, 44])
 (.cond (.tmp 44)
  (.seq (.reg [
      ⟨(some 8), .mv (.const (.slice none 0 0)), none⟩,
      ⟨(some 9), .mv (.const (.int .i64 6)), none⟩] [8, 9])
  (.ret))
  (.skip)))
 (.seq (.reg [
     ⟨(some 45), .mv (.tmp 3), none⟩,
     ⟨(some 46), .build [(.int .i64 0), (.bool false)] [(0, 1, (.tmp 45))], none⟩,
     ⟨(some 47), .mv (.tmp 0), none⟩,
     ⟨(some 48), .mv (.tmp 1), none⟩,
     ⟨(some 49), .mv (.tmp 2), none⟩,
     ⟨(some 50), .build [(.int .i64 0), (.bool false), (.int .i64 0), (.int .i64 0), (.int .i64 0)] [(0, 2, (.tmp 46)), (2, 1, (.tmp 47)), (3, 1, (.tmp 48)), (4, 1, (.tmp 49))], none⟩,
     ⟨(some 51), .box 100 (.tmp 50), none⟩,
     ⟨(some 10), .mv (.tmp 51), none⟩] [10])
 (.seq (.reg [
     ⟨(some 53), .mv (.tmp 10), none⟩,
     ⟨(some 54), .bslice 2 1 1 [(.int .i64 0)] [(0, (.const (.int .i64 0)))], none⟩,
     ⟨(some 55), .call 99 [(.tmp 53), (.tmp 54)], none⟩,
     ⟨(some 52), .mv (.tmp 55), none⟩,
     ⟨(some 56), .ext (.tmp 52) 0, none⟩,
     ⟨(some 57), .ext (.tmp 52) 1, none⟩,
     ⟨(some 11), .mv (.tmp 56), none⟩,
     ⟨(some 12), .mv (.tmp 57), none⟩] [10, 11, 12])
 (.seq (.block 0 (.seq (.reg [
      ⟨(some 59), .mv (.tmp 12), none⟩,
      ⟨(some 58), .mv (.tmp 59), none⟩] [10, 11, 58])
  (.cond (.tmp 58)
   (.seq (.reg [
       ⟨(some 60), .mv (.tmp 11), none⟩,
       ⟨(some 8), .mv (.tmp 60), none⟩,
       ⟨(some 9), .mv (.const (.int .i64 0)), none⟩] [8, 9])
   (.ret))
   (.seq (.reg [
       ⟨(some 62), .mv (.tmp 10), none⟩,
       ⟨(some 63), .nilc (.tmp 62), none⟩,
       ⟨(some 64), .faddr 0 (.tmp 63), none⟩,
       ⟨(some 65), .faddr 1 (.tmp 64), none⟩,
       ⟨(some 66), .load 1 false (.tmp 65), none⟩,
       ⟨(some 61), .mv (.tmp 66), none⟩] [61])
   (.cond (.tmp 61)
    (.seq (.reg [
        ⟨(some 8), .mv (.const (.slice none 0 0)), none⟩,
        ⟨(some 9), .mv (.const (.int .i64 5)), none⟩] [8, 9])
    (.ret))
    (.skip))))))
 (.seq (.reg [
     ⟨(some 8), .mv (.const (.slice none 0 0)), none⟩,
     ⟨(some 9), .mv (.const (.int .i64 3)), none⟩] [8, 9])
 (.ret)))))))
theorem s_impl_FirstDifferenceSet : stripF Try.prog 44 [[0, 1, 2, 3], [0, 1, 2, 3, 26], [8, 9], [0, 1, 2, 3, 44], [8, 9], [10], [10, 11, 12], [10, 11, 58], [8, 9], [61], [8, 9], [8, 9]] = some (c_impl_FirstDifferenceSet, [.tmp 8, .tmp 9], 67) := by kernel_rfl

/-- loop.example/g00920/impl.SingerSet -/
abbrev f_impl_SingerSet : Nat := 48
def c_impl_SingerSet : SC :=
 .seq (.reg [
     ⟨(some 2), .mv (.const (.slice none 0 0)), none⟩,
     ⟨(some 3), .mv (.const (.int .i64 0)), none⟩] [0])
 (.seq (.seq (.reg [
     ⟨(some 4), .mv (.tmp 0), none⟩,
     ⟨(some 5), .call 59 [(.tmp 4), (.const (.int .i64 2)), (.const (.int .i64 5))], none⟩,
     ⟨(some 6), .un .not (.tmp 5), none⟩] [0, 6])
 (.cond (.tmp 6)
  (.seq (.reg [
      ⟨(some 2), .mv (.const (.slice none 0 0)), none⟩,
      ⟨(some 3), .mv (.const (.int .i64 2)), none⟩] [2, 3])
  (.ret))
  (.skip)))
 (.seq (.reg [
     ⟨(some 7), .mv (.tmp 0), none⟩,
     ⟨(some 8), .mv (.tmp 0), none⟩,
     ⟨(some 9), .bin .mul (.tmp 7) (.tmp 8), none⟩,
     ⟨(some 10), .mv (.tmp 0), none⟩,
     ⟨(some 11), .bin .add (.tmp 9) (.tmp 10), none⟩,
     ⟨(some 12), .bin .add (.tmp 11) (.const (.int .i64 1)), none⟩,
     ⟨(some 13), .mv (.tmp 0), none⟩,
     ⟨(some 14), .bin .add (.tmp 13) (.const (.int .i64 1)), none⟩,
     ⟨(some 15), .call 44 [(.tmp 12), (.tmp 14), (.const (.int .i64 1)), (.const (.int .i64 20000))], none⟩,
     ⟨(some 16), .ext (.tmp 15) 0, none⟩,
     ⟨(some 17), .ext (.tmp 15) 1, none⟩,
     ⟨(some 2), .mv (.tmp 16), none⟩,
     ⟨(some 3), .mv (.tmp 17), none⟩] [2, 3])
 (.ret)))
theorem s_impl_SingerSet : stripF Try.prog 48 [[0], [0, 6], [2, 3], [2, 3]] = some (c_impl_SingerSet, [.tmp 2, .tmp 3], 18) := by kernel_rfl

/-- loop.example/g00920/impl.isBudget -/
abbrev f_impl_isBudget : Nat := 98
def c_impl_isBudget : SC :=
 .seq (.reg [
     ⟨(some 2), .mv (.const (.bool false)), none⟩] [0])
 (.seq (.reg [
     ⟨(some 3), .mv (.tmp 0), none⟩,
     ⟨(some 4), .call 59 [(.tmp 3), (.const (.int .i64 1)), (.const (.int .i64 20000))], none⟩,
     ⟨(some 2), .mv (.tmp 4), none⟩] [2])
 (.ret))
theorem s_impl_isBudget : stripF Try.prog 98 [[0], [2]] = some (c_impl_isBudget, [.tmp 2], 5) := by kernel_rfl


theorem isBudget_fn (n : Int) : PFn Try.prog f_impl_isBudget [I n] (Bv (decide (1 ≤ n) && decide (n ≤ 20000))) := by
  intro H; refine ACalls.introB s_impl_isBudget (by simp) ?_; intro hB hA; unfold c_impl_isBudget; simp (config := { maxSteps := 1000000 }) (disch := (first | omega | (simp only [go_sem]; try omega))) only [go_sem, ↓GSplit_t, ↓GSplit_f, ↓GSplit_tf, ↓GSplit_ft, Nat.reduceAdd, Nat.reduceEqDiff, Nat.reduceLeDiff, Nat.reduceMul, Nat.reduceLT, reduceIte, Int.reduceToNat, bne_self_eq_false, beq_self_eq_true, w64_id, cast_succ, Bool.false_eq_true, Bool.and_true, Bool.true_and, Bool.and_false, Bool.false_and, Bool.not_not]
  repeat (first | (with_reducible refine SW.seq ?_) | (with_reducible refine SW.block ?_) | (with_reducible refine SW.rowC ?_) | (with_reducible refine SW.skip ?_) | (with_reducible refine SW.exit ?_) | (with_reducible refine PFn.use (within_fn _ _ _) ?_) | (with_reducible refine PFn.useq (within_fn _ _ _) ?_) | (with_reducible intro _) | (with_reducible refine And.intro (by omega) ?_) | (simp (config := { maxSteps := 1000000 }) (disch := (first | omega | (simp only [go_sem]; try omega))) only [go_sem, ↓GSplit_t, ↓GSplit_f, ↓GSplit_tf, ↓GSplit_ft, Nat.reduceAdd, Nat.reduceEqDiff, Nat.reduceLeDiff, Nat.reduceMul, Nat.reduceLT, reduceIte, Int.reduceToNat, bne_self_eq_false, beq_self_eq_true, w64_id, cast_succ, Bool.false_eq_true, Bool.and_true, Bool.true_and, Bool.and_false, Bool.false_and, Bool.not_not]))
  refine SW.ret ?_; (try simp only [go_sem]); (first | refine FunPost.one ?_ | refine FunPost.two ?_ | refine FunPost.three ?_); (try simp (config := { maxSteps := 1000000 }) (disch := (first | omega | (simp only [go_sem]; try omega))) only [go_sem, ↓GSplit_t, ↓GSplit_f, ↓GSplit_tf, ↓GSplit_ft, Nat.reduceAdd, Nat.reduceEqDiff, Nat.reduceLeDiff, Nat.reduceMul, Nat.reduceLT, reduceIte, Int.reduceToNat, bne_self_eq_false, beq_self_eq_true, w64_id, cast_succ, Bool.false_eq_true, Bool.and_true, Bool.true_and, Bool.and_false, Bool.false_and, Bool.not_not]); (first | (with_reducible refine GR.drop ?_ ?_; (simp only [and_self, and_true, true_and, implies_true, Bel_lit, Bel_I, Bel_Bv, Bel_nil, Bel_junk, Bel_nm, Bel_pc, Bel_il, Bel_agg, Bel_tup, Bel_fn, Bel_el, all_mapI, all_mapB, all_mapS, all_nilB, all_consB, EB_nil, EB_cons, BB_nil, BB_cons, Bel_ilS, Bel_ilSS, Bel_ilB, List.getElem?_cons_zero, List.take_succ_cons, List.take_zero, keep_nil, keep_cons])) | refine GR.of ?_); refine ⟨?_, rfl⟩; (try with_reducible rfl)

def rangeOk (n k b : Int) : Bool := (decide (2 ≤ n) && decide (n ≤ 32)) && (decide (2 ≤ k) && decide (k ≤ n)) && (decide (1 ≤ b) && decide (b ≤ 20000))
def stateOk (n k lam : Int) : Bool := decide (1 ≤ lam) && decide (lam ≤ w64 (k * (k - 1))) && decide (w64 (k * (k - 1)) = w64 (lam * (n - 1)))

def firstV (n k lam b : Int) : List Int × Int :=
  if !rangeOk n k b then ([], 2) else if !stateOk n k lam then ([], 6) else
    match visitM n.toNat k lam n.toNat [0] b.toNat with
    | (1, s, _) => (s, 0)
    | (2, _, _) => ([], 5)
    | _ => ([], 3)

theorem nilFS {H : List Blk} {ext : List Blk} {code : Int} : ∃ ext' v t, H ++ ext = H ++ ext' ∧ AV.tup [nilS, I code] = .tup [v, I code] ∧ OwnS (H ++ ext) (Btw H.length (H ++ ext).length) t v [] ∧ t = (H ++ ext).length := ⟨ext, nilS, _, rfl, rfl, .inr ⟨rfl, .inl rfl⟩, rfl⟩
theorem nilFS0 {H : List Blk} {code : Int} : ∃ ext' v t, H = H ++ ext' ∧ AV.tup [nilS, I code] = .tup [v, I code] ∧ OwnS H (Btw H.length H.length) t v [] ∧ t = H.length := ⟨[], nilS, _, by simp, rfl, .inr ⟨rfl, .inl rfl⟩, rfl⟩

theorem firstV_3 {N K lam b : Int} {s : List Int} {l c : Nat} (h1 : rangeOk N K b = true) (h2 : stateOk N K lam = true) (hv : visitM N.toNat K lam N.toNat [0] b.toNat = (c, s, l)) :
    firstV N K lam b = if c = 1 then (s, 0) else if c = 2 then ([], 5) else ([], 3) := by
  unfold firstV
  rw [h1, h2, hv]
  simp only [Bool.not_true, Bool.false_eq_true, if_false]
  split
  · rename_i he; cases he; rfl
  · rename_i he; cases he; rfl
  · rename_i x h3 h4
    rw [if_neg (fun h => h3 s l (by rw [h])), if_neg (fun h => h4 s l (by rw [h]))]

theorem implFirst_fs (n k lam b : Int) : FS Try.prog f_impl_FirstDifferenceSet [I n, I k, I lam, I b] (firstV n k lam b).1 (firstV n k lam b).2 := by
  intro H
  cases h1 : (decide (2 ≤ n) && decide (n ≤ 32))
  · rw [firstV, rangeOk, h1]
    refine ACalls.introB s_impl_FirstDifferenceSet (by simp) ?_; intro hB hA; unfold c_impl_FirstDifferenceSet; simp (config := { maxSteps := 1000000 }) (disch := (first | omega | (simp only [go_sem]; try omega))) only [go_sem, ↓GSplit_t, ↓GSplit_f, ↓GSplit_tf, ↓GSplit_ft, Nat.reduceAdd, Nat.reduceEqDiff, Nat.reduceLeDiff, Nat.reduceMul, Nat.reduceLT, reduceIte, Int.reduceToNat, bne_self_eq_false, beq_self_eq_true, w64_id, cast_succ, Bool.false_eq_true, Bool.and_true, Bool.true_and, Bool.and_false, Bool.false_and, Bool.not_not]
    repeat (first | (with_reducible refine SW.seq ?_) | (with_reducible refine SW.block ?_) | (with_reducible refine SW.rowC ?_) | (with_reducible refine SW.skip ?_) | (with_reducible refine SW.exit ?_) | (with_reducible refine PFn.use (within_fn _ _ _) ?_) | (with_reducible refine PFn.useq (within_fn _ _ _) ?_) | (with_reducible intro _) | (with_reducible refine And.intro (by omega) ?_) | (simp (config := { maxSteps := 1000000 }) (disch := (first | omega | (simp only [go_sem]; try omega))) only [go_sem, ↓GSplit_t, ↓GSplit_f, ↓GSplit_tf, ↓GSplit_ft, Nat.reduceAdd, Nat.reduceEqDiff, Nat.reduceLeDiff, Nat.reduceMul, Nat.reduceLT, reduceIte, Int.reduceToNat, bne_self_eq_false, beq_self_eq_true, w64_id, cast_succ, Bool.false_eq_true, Bool.and_true, Bool.true_and, Bool.and_false, Bool.false_and, Bool.not_not, h1]))
    refine SW.condT rfl ?_
    repeat (first | (with_reducible refine SW.seq ?_) | (with_reducible refine SW.block ?_) | (with_reducible refine SW.rowC ?_) | (with_reducible refine SW.skip ?_) | (with_reducible refine SW.exit ?_) | (with_reducible intro _) | (with_reducible refine And.intro (by omega) ?_) | (simp (config := { maxSteps := 1000000 }) (disch := (first | omega | (simp only [go_sem]; try omega))) only [go_sem, ↓GSplit_t, ↓GSplit_f, ↓GSplit_tf, ↓GSplit_ft, Nat.reduceAdd, Nat.reduceEqDiff, Nat.reduceLeDiff, Nat.reduceMul, Nat.reduceLT, reduceIte, Int.reduceToNat, bne_self_eq_false, beq_self_eq_true, w64_id, cast_succ, Bool.false_eq_true, Bool.and_true, Bool.true_and, Bool.and_false, Bool.false_and, Bool.not_not]))
    refine SW.ret ?_; (try simp only [go_sem]); (first | refine FunPost.one ?_ | refine FunPost.two ?_ | refine FunPost.three ?_); (try simp (config := { maxSteps := 1000000 }) (disch := (first | omega | (simp only [go_sem]; try omega))) only [go_sem, ↓GSplit_t, ↓GSplit_f, ↓GSplit_tf, ↓GSplit_ft, Nat.reduceAdd, Nat.reduceEqDiff, Nat.reduceLeDiff, Nat.reduceMul, Nat.reduceLT, reduceIte, Int.reduceToNat, bne_self_eq_false, beq_self_eq_true, w64_id, cast_succ, Bool.false_eq_true, Bool.and_true, Bool.true_and, Bool.and_false, Bool.false_and, Bool.not_not])
    exact GR.of nilFS0
  cases h2 : (decide (2 ≤ k) && decide (k ≤ n))
  · rw [firstV, rangeOk, h1, h2]
    refine ACalls.introB s_impl_FirstDifferenceSet (by simp) ?_; intro hB hA; unfold c_impl_FirstDifferenceSet; simp (config := { maxSteps := 1000000 }) (disch := (first | omega | (simp only [go_sem]; try omega))) only [go_sem, ↓GSplit_t, ↓GSplit_f, ↓GSplit_tf, ↓GSplit_ft, Nat.reduceAdd, Nat.reduceEqDiff, Nat.reduceLeDiff, Nat.reduceMul, Nat.reduceLT, reduceIte, Int.reduceToNat, bne_self_eq_false, beq_self_eq_true, w64_id, cast_succ, Bool.false_eq_true, Bool.and_true, Bool.true_and, Bool.and_false, Bool.false_and, Bool.not_not]
    repeat (first | (with_reducible refine SW.seq ?_) | (with_reducible refine SW.block ?_) | (with_reducible refine SW.rowC ?_) | (with_reducible refine SW.skip ?_) | (with_reducible refine SW.exit ?_) | (with_reducible refine PFn.use (within_fn _ _ _) ?_) | (with_reducible refine PFn.useq (within_fn _ _ _) ?_) | (with_reducible intro _) | (with_reducible refine And.intro (by omega) ?_) | (simp (config := { maxSteps := 1000000 }) (disch := (first | omega | (simp only [go_sem]; try omega))) only [go_sem, ↓GSplit_t, ↓GSplit_f, ↓GSplit_tf, ↓GSplit_ft, Nat.reduceAdd, Nat.reduceEqDiff, Nat.reduceLeDiff, Nat.reduceMul, Nat.reduceLT, reduceIte, Int.reduceToNat, bne_self_eq_false, beq_self_eq_true, w64_id, cast_succ, Bool.false_eq_true, Bool.and_true, Bool.true_and, Bool.and_false, Bool.false_and, Bool.not_not, h1, h2]))
    refine SW.condT rfl ?_
    repeat (first | (with_reducible refine SW.seq ?_) | (with_reducible refine SW.block ?_) | (with_reducible refine SW.rowC ?_) | (with_reducible refine SW.skip ?_) | (with_reducible refine SW.exit ?_) | (with_reducible intro _) | (with_reducible refine And.intro (by omega) ?_) | (simp (config := { maxSteps := 1000000 }) (disch := (first | omega | (simp only [go_sem]; try omega))) only [go_sem, ↓GSplit_t, ↓GSplit_f, ↓GSplit_tf, ↓GSplit_ft, Nat.reduceAdd, Nat.reduceEqDiff, Nat.reduceLeDiff, Nat.reduceMul, Nat.reduceLT, reduceIte, Int.reduceToNat, bne_self_eq_false, beq_self_eq_true, w64_id, cast_succ, Bool.false_eq_true, Bool.and_true, Bool.true_and, Bool.and_false, Bool.false_and, Bool.not_not]))
    refine SW.ret ?_; (try simp only [go_sem]); (first | refine FunPost.one ?_ | refine FunPost.two ?_ | refine FunPost.three ?_); (try simp (config := { maxSteps := 1000000 }) (disch := (first | omega | (simp only [go_sem]; try omega))) only [go_sem, ↓GSplit_t, ↓GSplit_f, ↓GSplit_tf, ↓GSplit_ft, Nat.reduceAdd, Nat.reduceEqDiff, Nat.reduceLeDiff, Nat.reduceMul, Nat.reduceLT, reduceIte, Int.reduceToNat, bne_self_eq_false, beq_self_eq_true, w64_id, cast_succ, Bool.false_eq_true, Bool.and_true, Bool.true_and, Bool.and_false, Bool.false_and, Bool.not_not])
    exact GR.of nilFS0
  cases h3 : (decide (1 ≤ b) && decide (b ≤ 20000))
  · rw [firstV, rangeOk, h1, h2, h3]
    refine ACalls.introB s_impl_FirstDifferenceSet (by simp) ?_; intro hB hA; unfold c_impl_FirstDifferenceSet; simp (config := { maxSteps := 1000000 }) (disch := (first | omega | (simp only [go_sem]; try omega))) only [go_sem, ↓GSplit_t, ↓GSplit_f, ↓GSplit_tf, ↓GSplit_ft, Nat.reduceAdd, Nat.reduceEqDiff, Nat.reduceLeDiff, Nat.reduceMul, Nat.reduceLT, reduceIte, Int.reduceToNat, bne_self_eq_false, beq_self_eq_true, w64_id, cast_succ, Bool.false_eq_true, Bool.and_true, Bool.true_and, Bool.and_false, Bool.false_and, Bool.not_not]
    repeat (first | (with_reducible refine SW.seq ?_) | (with_reducible refine SW.block ?_) | (with_reducible refine SW.rowC ?_) | (with_reducible refine SW.skip ?_) | (with_reducible refine SW.exit ?_) | (with_reducible refine PFn.use (within_fn _ _ _) ?_) | (with_reducible refine PFn.useq (within_fn _ _ _) ?_) | (with_reducible refine PFn.use (isBudget_fn _) ?_) | (with_reducible refine PFn.useq (isBudget_fn _) ?_) | (with_reducible intro _) | (with_reducible refine And.intro (by omega) ?_) | (simp (config := { maxSteps := 1000000 }) (disch := (first | omega | (simp only [go_sem]; try omega))) only [go_sem, ↓GSplit_t, ↓GSplit_f, ↓GSplit_tf, ↓GSplit_ft, Nat.reduceAdd, Nat.reduceEqDiff, Nat.reduceLeDiff, Nat.reduceMul, Nat.reduceLT, reduceIte, Int.reduceToNat, bne_self_eq_false, beq_self_eq_true, w64_id, cast_succ, Bool.false_eq_true, Bool.and_true, Bool.true_and, Bool.and_false, Bool.false_and, Bool.not_not, h1, h2, h3]))
    refine SW.condT rfl ?_
    repeat (first | (with_reducible refine SW.seq ?_) | (with_reducible refine SW.block ?_) | (with_reducible refine SW.rowC ?_) | (with_reducible refine SW.skip ?_) | (with_reducible refine SW.exit ?_) | (with_reducible intro _) | (with_reducible refine And.intro (by omega) ?_) | (simp (config := { maxSteps := 1000000 }) (disch := (first | omega | (simp only [go_sem]; try omega))) only [go_sem, ↓GSplit_t, ↓GSplit_f, ↓GSplit_tf, ↓GSplit_ft, Nat.reduceAdd, Nat.reduceEqDiff, Nat.reduceLeDiff, Nat.reduceMul, Nat.reduceLT, reduceIte, Int.reduceToNat, bne_self_eq_false, beq_self_eq_true, w64_id, cast_succ, Bool.false_eq_true, Bool.and_true, Bool.true_and, Bool.and_false, Bool.false_and, Bool.not_not]))
    refine SW.ret ?_; (try simp only [go_sem]); (first | refine FunPost.one ?_ | refine FunPost.two ?_ | refine FunPost.three ?_); (try simp (config := { maxSteps := 1000000 }) (disch := (first | omega | (simp only [go_sem]; try omega))) only [go_sem, ↓GSplit_t, ↓GSplit_f, ↓GSplit_tf, ↓GSplit_ft, Nat.reduceAdd, Nat.reduceEqDiff, Nat.reduceLeDiff, Nat.reduceMul, Nat.reduceLT, reduceIte, Int.reduceToNat, bne_self_eq_false, beq_self_eq_true, w64_id, cast_succ, Bool.false_eq_true, Bool.and_true, Bool.true_and, Bool.and_false, Bool.false_and, Bool.not_not])
    exact GR.of nilFS0
  have hr : rangeOk n k b = true := by rw [rangeOk, h1, h2, h3]; rfl
  simp only [Bool.and_eq_true, decide_eq_true_eq] at h1 h2 h3
  obtain ⟨N, rfl⟩ := Int.eq_ofNat_of_zero_le (show 0 ≤ n by omega)
  obtain ⟨B, rfl⟩ := Int.eq_ofNat_of_zero_le (show 0 ≤ b by omega)
  have d1 : (decide ((2 : Int) ≤ N) && decide ((N : Int) ≤ 32)) = true := by simp; omega
  have d2 : (decide (2 ≤ k) && decide (k ≤ N)) = true := by simp; omega
  have d3 : (decide ((1 : Int) ≤ B) && decide ((B : Int) ≤ 20000)) = true := by simp; omega
  cases h4 : (decide (1 ≤ lam) && decide (lam ≤ w64 (k * (k - 1))))
  · rw [firstV, hr, stateOk, h4]
    refine ACalls.introB s_impl_FirstDifferenceSet (by simp) ?_; intro hB hA; unfold c_impl_FirstDifferenceSet; simp (config := { maxSteps := 1000000 }) (disch := (first | omega | (simp only [go_sem]; try omega))) only [go_sem, ↓GSplit_t, ↓GSplit_f, ↓GSplit_tf, ↓GSplit_ft, Nat.reduceAdd, Nat.reduceEqDiff, Nat.reduceLeDiff, Nat.reduceMul, Nat.reduceLT, reduceIte, Int.reduceToNat, bne_self_eq_false, beq_self_eq_true, w64_id, cast_succ, Bool.false_eq_true, Bool.and_true, Bool.true_and, Bool.and_false, Bool.false_and, Bool.not_not]
    repeat (first | (with_reducible refine SW.seq ?_) | (with_reducible refine SW.block ?_) | (with_reducible refine SW.rowC ?_) | (with_reducible refine SW.skip ?_) | (with_reducible refine SW.exit ?_) | (with_reducible refine PFn.use (within_fn _ _ _) ?_) | (with_reducible refine PFn.useq (within_fn _ _ _) ?_) | (with_reducible refine PFn.use (isBudget_fn _) ?_) | (with_reducible refine PFn.useq (isBudget_fn _) ?_) | (with_reducible intro _) | (with_reducible refine And.intro (by omega) ?_) | (simp (config := { maxSteps := 1000000 }) (disch := (first | omega | (simp only [go_sem]; try omega))) only [go_sem, ↓GSplit_t, ↓GSplit_f, ↓GSplit_tf, ↓GSplit_ft, Nat.reduceAdd, Nat.reduceEqDiff, Nat.reduceLeDiff, Nat.reduceMul, Nat.reduceLT, reduceIte, Int.reduceToNat, bne_self_eq_false, beq_self_eq_true, w64_id, cast_succ, Bool.false_eq_true, Bool.and_true, Bool.true_and, Bool.and_false, Bool.false_and, Bool.not_not, d1, d2, d3]))
    refine SW.condF rfl ?_
    repeat (first | (with_reducible refine SW.seq ?_) | (with_reducible refine SW.block ?_) | (with_reducible refine SW.rowC ?_) | (with_reducible refine SW.skip ?_) | (with_reducible refine SW.exit ?_) | (with_reducible refine PFn.use (within_fn _ _ _) ?_) | (with_reducible refine PFn.useq (within_fn _ _ _) ?_) | (with_reducible intro _) | (with_reducible refine And.intro (by omega) ?_) | (simp (config := { maxSteps := 1000000 }) (disch := (first | omega | (simp only [go_sem]; try omega))) only [go_sem, ↓GSplit_t, ↓GSplit_f, ↓GSplit_tf, ↓GSplit_ft, Nat.reduceAdd, Nat.reduceEqDiff, Nat.reduceLeDiff, Nat.reduceMul, Nat.reduceLT, reduceIte, Int.reduceToNat, bne_self_eq_false, beq_self_eq_true, w64_id, cast_succ, Bool.false_eq_true, Bool.and_true, Bool.true_and, Bool.and_false, Bool.false_and, Bool.not_not, h4]))
    refine SW.condT rfl ?_
    repeat (first | (with_reducible refine SW.seq ?_) | (with_reducible refine SW.block ?_) | (with_reducible refine SW.rowC ?_) | (with_reducible refine SW.skip ?_) | (with_reducible refine SW.exit ?_) | (with_reducible intro _) | (with_reducible refine And.intro (by omega) ?_) | (simp (config := { maxSteps := 1000000 }) (disch := (first | omega | (simp only [go_sem]; try omega))) only [go_sem, ↓GSplit_t, ↓GSplit_f, ↓GSplit_tf, ↓GSplit_ft, Nat.reduceAdd, Nat.reduceEqDiff, Nat.reduceLeDiff, Nat.reduceMul, Nat.reduceLT, reduceIte, Int.reduceToNat, bne_self_eq_false, beq_self_eq_true, w64_id, cast_succ, Bool.false_eq_true, Bool.and_true, Bool.true_and, Bool.and_false, Bool.false_and, Bool.not_not]))
    refine SW.ret ?_; (try simp only [go_sem]); (first | refine FunPost.one ?_ | refine FunPost.two ?_ | refine FunPost.three ?_); (try simp (config := { maxSteps := 1000000 }) (disch := (first | omega | (simp only [go_sem]; try omega))) only [go_sem, ↓GSplit_t, ↓GSplit_f, ↓GSplit_tf, ↓GSplit_ft, Nat.reduceAdd, Nat.reduceEqDiff, Nat.reduceLeDiff, Nat.reduceMul, Nat.reduceLT, reduceIte, Int.reduceToNat, bne_self_eq_false, beq_self_eq_true, w64_id, cast_succ, Bool.false_eq_true, Bool.and_true, Bool.true_and, Bool.and_false, Bool.false_and, Bool.not_not])
    exact GR.of nilFS0
  cases h5 : decide (w64 (k * (k - 1)) = w64 (lam * (N - 1)))
  · rw [firstV, hr, stateOk, h4, h5]
    refine ACalls.introB s_impl_FirstDifferenceSet (by simp) ?_; intro hB hA; unfold c_impl_FirstDifferenceSet; simp (config := { maxSteps := 1000000 }) (disch := (first | omega | (simp only [go_sem]; try omega))) only [go_sem, ↓GSplit_t, ↓GSplit_f, ↓GSplit_tf, ↓GSplit_ft, Nat.reduceAdd, Nat.reduceEqDiff, Nat.reduceLeDiff, Nat.reduceMul, Nat.reduceLT, reduceIte, Int.reduceToNat, bne_self_eq_false, beq_self_eq_true, w64_id, cast_succ, Bool.false_eq_true, Bool.and_true, Bool.true_and, Bool.and_false, Bool.false_and, Bool.not_not]
    repeat (first | (with_reducible refine SW.seq ?_) | (with_reducible refine SW.block ?_) | (with_reducible refine SW.rowC ?_) | (with_reducible refine SW.skip ?_) | (with_reducible refine SW.exit ?_) | (with_reducible refine PFn.use (within_fn _ _ _) ?_) | (with_reducible refine PFn.useq (within_fn _ _ _) ?_) | (with_reducible refine PFn.use (isBudget_fn _) ?_) | (with_reducible refine PFn.useq (isBudget_fn _) ?_) | (with_reducible intro _) | (with_reducible refine And.intro (by omega) ?_) | (simp (config := { maxSteps := 1000000 }) (disch := (first | omega | (simp only [go_sem]; try omega))) only [go_sem, ↓GSplit_t, ↓GSplit_f, ↓GSplit_tf, ↓GSplit_ft, Nat.reduceAdd, Nat.reduceEqDiff, Nat.reduceLeDiff, Nat.reduceMul, Nat.reduceLT, reduceIte, Int.reduceToNat, bne_self_eq_false, beq_self_eq_true, w64_id, cast_succ, Bool.false_eq_true, Bool.and_true, Bool.true_and, Bool.and_false, Bool.false_and, Bool.not_not, d1, d2, d3]))
    refine SW.condF rfl ?_
    repeat (first | (with_reducible refine SW.seq ?_) | (with_reducible refine SW.block ?_) | (with_reducible refine SW.rowC ?_) | (with_reducible refine SW.skip ?_) | (with_reducible refine SW.exit ?_) | (with_reducible refine PFn.use (within_fn _ _ _) ?_) | (with_reducible refine PFn.useq (within_fn _ _ _) ?_) | (with_reducible intro _) | (with_reducible refine And.intro (by omega) ?_) | (simp (config := { maxSteps := 1000000 }) (disch := (first | omega | (simp only [go_sem]; try omega))) only [go_sem, ↓GSplit_t, ↓GSplit_f, ↓GSplit_tf, ↓GSplit_ft, Nat.reduceAdd, Nat.reduceEqDiff, Nat.reduceLeDiff, Nat.reduceMul, Nat.reduceLT, reduceIte, Int.reduceToNat, bne_self_eq_false, beq_self_eq_true, w64_id, cast_succ, Bool.false_eq_true, Bool.and_true, Bool.true_and, Bool.and_false, Bool.false_and, Bool.not_not, h4, h5]))
    refine SW.condT rfl ?_
    repeat (first | (with_reducible refine SW.seq ?_) | (with_reducible refine SW.block ?_) | (with_reducible refine SW.rowC ?_) | (with_reducible refine SW.skip ?_) | (with_reducible refine SW.exit ?_) | (with_reducible intro _) | (with_reducible refine And.intro (by omega) ?_) | (simp (config := { maxSteps := 1000000 }) (disch := (first | omega | (simp only [go_sem]; try omega))) only [go_sem, ↓GSplit_t, ↓GSplit_f, ↓GSplit_tf, ↓GSplit_ft, Nat.reduceAdd, Nat.reduceEqDiff, Nat.reduceLeDiff, Nat.reduceMul, Nat.reduceLT, reduceIte, Int.reduceToNat, bne_self_eq_false, beq_self_eq_true, w64_id, cast_succ, Bool.false_eq_true, Bool.and_true, Bool.true_and, Bool.and_false, Bool.false_and, Bool.not_not]))
    refine SW.ret ?_; (try simp only [go_sem]); (first | refine FunPost.one ?_ | refine FunPost.two ?_ | refine FunPost.three ?_); (try simp (config := { maxSteps := 1000000 }) (disch := (first | omega | (simp only [go_sem]; try omega))) only [go_sem, ↓GSplit_t, ↓GSplit_f, ↓GSplit_tf, ↓GSplit_ft, Nat.reduceAdd, Nat.reduceEqDiff, Nat.reduceLeDiff, Nat.reduceMul, Nat.reduceLT, reduceIte, Int.reduceToNat, bne_self_eq_false, beq_self_eq_true, w64_id, cast_succ, Bool.false_eq_true, Bool.and_true, Bool.true_and, Bool.and_false, Bool.false_and, Bool.not_not])
    exact GR.of nilFS0
  have hst : stateOk N k lam = true := by rw [stateOk, h4, h5]; rfl
  cases hv : visitM N k lam N [0] B with
  | mk c sl =>
  cases sl with
  | mk s l =>
  rw [firstV_3 hr hst (by simpa using hv)]
  have hvc := visitM_code N k lam N [0] B
  rw [hv] at hvc
  simp only at hvc
  refine ACalls.introB s_impl_FirstDifferenceSet (by simp) ?_; intro hB hA; unfold c_impl_FirstDifferenceSet; simp (config := { maxSteps := 1000000 }) (disch := (first | omega | (simp only [go_sem]; try omega))) only [go_sem, ↓GSplit_t, ↓GSplit_f, ↓GSplit_tf, ↓GSplit_ft, Nat.reduceAdd, Nat.reduceEqDiff, Nat.reduceLeDiff, Nat.reduceMul, Nat.reduceLT, reduceIte, Int.reduceToNat, bne_self_eq_false, beq_self_eq_true, w64_id, cast_succ, Bool.false_eq_true, Bool.and_true, Bool.true_and, Bool.and_false, Bool.false_and, Bool.not_not]
  repeat (first | (with_reducible refine SW.seq ?_) | (with_reducible refine SW.block ?_) | (with_reducible refine SW.rowC ?_) | (with_reducible refine SW.skip ?_) | (with_reducible refine SW.exit ?_) | (with_reducible refine PFn.use (within_fn _ _ _) ?_) | (with_reducible refine PFn.useq (within_fn _ _ _) ?_) | (with_reducible refine PFn.use (isBudget_fn _) ?_) | (with_reducible refine PFn.useq (isBudget_fn _) ?_) | (with_reducible intro _) | (with_reducible refine And.intro (by omega) ?_) | (simp (config := { maxSteps := 1000000 }) (disch := (first | omega | (simp only [go_sem]; try omega))) only [go_sem, ↓GSplit_t, ↓GSplit_f, ↓GSplit_tf, ↓GSplit_ft, Nat.reduceAdd, Nat.reduceEqDiff, Nat.reduceLeDiff, Nat.reduceMul, Nat.reduceLT, reduceIte, Int.reduceToNat, bne_self_eq_false, beq_self_eq_true, w64_id, cast_succ, Bool.false_eq_true, Bool.and_true, Bool.true_and, Bool.and_false, Bool.false_and, Bool.not_not, d1, d2, d3]))
  refine SW.condF rfl ?_
  repeat (first | (with_reducible refine SW.seq ?_) | (with_reducible refine SW.block ?_) | (with_reducible refine SW.rowC ?_) | (with_reducible refine SW.skip ?_) | (with_reducible refine SW.exit ?_) | (with_reducible refine PFn.use (within_fn _ _ _) ?_) | (with_reducible refine PFn.useq (within_fn _ _ _) ?_) | (with_reducible intro _) | (with_reducible refine And.intro (by omega) ?_) | (simp (config := { maxSteps := 1000000 }) (disch := (first | omega | (simp only [go_sem]; try omega))) only [go_sem, ↓GSplit_t, ↓GSplit_f, ↓GSplit_tf, ↓GSplit_ft, Nat.reduceAdd, Nat.reduceEqDiff, Nat.reduceLeDiff, Nat.reduceMul, Nat.reduceLT, reduceIte, Int.reduceToNat, bne_self_eq_false, beq_self_eq_true, w64_id, cast_succ, Bool.false_eq_true, Bool.and_true, Bool.true_and, Bool.and_false, Bool.false_and, Bool.not_not, h4, h5]))
  refine SW.condF rfl ?_
  repeat (first | (with_reducible refine SW.seq ?_) | (with_reducible refine SW.block ?_) | (with_reducible refine SW.rowC ?_) | (with_reducible refine SW.skip ?_) | (with_reducible refine SW.exit ?_) | (with_reducible intro _) | (with_reducible refine And.intro (by omega) ?_) | (simp (config := { maxSteps := 1000000 }) (disch := (first | omega | (simp only [go_sem]; try omega))) only [go_sem, ↓GSplit_t, ↓GSplit_f, ↓GSplit_tf, ↓GSplit_ft, Nat.reduceAdd, Nat.reduceEqDiff, Nat.reduceLeDiff, Nat.reduceMul, Nat.reduceLT, reduceIte, Int.reduceToNat, bne_self_eq_false, beq_self_eq_true, w64_id, cast_succ, Bool.false_eq_true, Bool.and_true, Bool.true_and, Bool.and_false, Bool.false_and, Bool.not_not]))
  have hfo := finder_ok N k lam (by omega) N (H ++ [fCells N k lam B false, ⟨0, 2, 1, [0].map I⟩]) H.length (H.length + 1) 0 [0] B (by simp) (by simp) (by omega) (by simp) (by simp [asc]; omega) (by simp [lastI]) (by omega)
  rw [hv] at hfo
  refine hfo.mono ?_
  rintro r1 H1 hpost
  unfold FPost at hpost
  split at hpost
  · rename_i hc1
    simp only at hc1
    subst hc1
    obtain ⟨v', r', rfl, hr', hor, hlen2, hpre⟩ := hpost
    simp only [List.length_append, List.length_cons, List.length_nil] at hlen2 hor
    repeat (first | (with_reducible refine SW.seq ?_) | (with_reducible refine SW.block ?_) | (with_reducible refine SW.rowC ?_) | (with_reducible refine SW.skip ?_) | (with_reducible refine SW.exit ?_) | (with_reducible intro _) | (with_reducible refine And.intro (by omega) ?_) | (simp (config := { maxSteps := 1000000 }) (disch := (first | omega | (simp only [go_sem]; try omega))) only [go_sem, ↓GSplit_t, ↓GSplit_f, ↓GSplit_tf, ↓GSplit_ft, Nat.reduceAdd, Nat.reduceEqDiff, Nat.reduceLeDiff, Nat.reduceMul, Nat.reduceLT, reduceIte, Int.reduceToNat, bne_self_eq_false, beq_self_eq_true, w64_id, cast_succ, Bool.false_eq_true, Bool.and_true, Bool.true_and, Bool.and_false, Bool.false_and, Bool.not_not]))
    refine SW.condT rfl ?_
    repeat (first | (with_reducible refine SW.seq ?_) | (with_reducible refine SW.block ?_) | (with_reducible refine SW.rowC ?_) | (with_reducible refine SW.skip ?_) | (with_reducible refine SW.exit ?_) | (with_reducible intro _) | (with_reducible refine And.intro (by omega) ?_) | (simp (config := { maxSteps := 1000000 }) (disch := (first | omega | (simp only [go_sem]; try omega))) only [go_sem, ↓GSplit_t, ↓GSplit_f, ↓GSplit_tf, ↓GSplit_ft, Nat.reduceAdd, Nat.reduceEqDiff, Nat.reduceLeDiff, Nat.reduceMul, Nat.reduceLT, reduceIte, Int.reduceToNat, bne_self_eq_false, beq_self_eq_true, w64_id, cast_succ, Bool.false_eq_true, Bool.and_true, Bool.true_and, Bool.and_false, Bool.false_and, Bool.not_not]))
    refine SW.ret ?_; (try simp only [go_sem]); (first | refine FunPost.one ?_ | refine FunPost.two ?_ | refine FunPost.three ?_); (try simp (config := { maxSteps := 1000000 }) (disch := (first | omega | (simp only [go_sem]; try omega))) only [go_sem, ↓GSplit_t, ↓GSplit_f, ↓GSplit_tf, ↓GSplit_ft, Nat.reduceAdd, Nat.reduceEqDiff, Nat.reduceLeDiff, Nat.reduceMul, Nat.reduceLT, reduceIte, Int.reduceToNat, bne_self_eq_false, beq_self_eq_true, w64_id, cast_succ, Bool.false_eq_true, Bool.and_true, Bool.true_and, Bool.and_false, Bool.false_and, Bool.not_not])
    refine GR.of ?_
    obtain ⟨ext, he⟩ := prefix_of (H := H) (H' := H1) (by omega) (fun j hj => by rw [hpre j (by omega) (by simp; omega), List.getElem?_append_left hj])
    have := (List.getElem?_eq_some_iff.1 hr').1
    exact ⟨ext, _, _, he, rfl, .inl ⟨r', v', _, rfl, ⟨by omega, this⟩, by omega, hr'⟩, rfl⟩
  · rename_i hc1
    simp only at hc1
    obtain ⟨rfl, rfl⟩ := hpost
    simp only [hset0, List.set_cons_zero]
    unfold fCells
    repeat (first | (with_reducible refine SW.seq ?_) | (with_reducible refine SW.block ?_) | (with_reducible refine SW.rowC ?_) | (with_reducible refine SW.skip ?_) | (with_reducible refine SW.exit ?_) | (with_reducible intro _) | (with_reducible refine And.intro (by omega) ?_) | (simp (config := { maxSteps := 1000000 }) (disch := (first | omega | (simp only [go_sem]; try omega))) only [go_sem, ↓GSplit_t, ↓GSplit_f, ↓GSplit_tf, ↓GSplit_ft, Nat.reduceAdd, Nat.reduceEqDiff, Nat.reduceLeDiff, Nat.reduceMul, Nat.reduceLT, reduceIte, Int.reduceToNat, bne_self_eq_false, beq_self_eq_true, w64_id, cast_succ, Bool.false_eq_true, Bool.and_true, Bool.true_and, Bool.and_false, Bool.false_and, Bool.not_not]))
    refine SW.condF rfl ?_
    repeat (first | (with_reducible refine SW.seq ?_) | (with_reducible refine SW.block ?_) | (with_reducible refine SW.rowC ?_) | (with_reducible refine SW.skip ?_) | (with_reducible refine SW.exit ?_) | (with_reducible intro _) | (with_reducible refine And.intro (by omega) ?_) | (simp (config := { maxSteps := 1000000 }) (disch := (first | omega | (simp only [go_sem]; try omega))) only [go_sem, ↓GSplit_t, ↓GSplit_f, ↓GSplit_tf, ↓GSplit_ft, Nat.reduceAdd, Nat.reduceEqDiff, Nat.reduceLeDiff, Nat.reduceMul, Nat.reduceLT, reduceIte, Int.reduceToNat, bne_self_eq_false, beq_self_eq_true, w64_id, cast_succ, Bool.false_eq_true, Bool.and_true, Bool.true_and, Bool.and_false, Bool.false_and, Bool.not_not]))
    rw [if_neg hc1]
    by_cases hc2 : c = 2
    · refine SW.condT (by simp [go_sem, hc2]) ?_
      rw [if_pos hc2]
      repeat (first | (with_reducible refine SW.seq ?_) | (with_reducible refine SW.block ?_) | (with_reducible refine SW.rowC ?_) | (with_reducible refine SW.skip ?_) | (with_reducible refine SW.exit ?_) | (with_reducible intro _) | (with_reducible refine And.intro (by omega) ?_) | (simp (config := { maxSteps := 1000000 }) (disch := (first | omega | (simp only [go_sem]; try omega))) only [go_sem, ↓GSplit_t, ↓GSplit_f, ↓GSplit_tf, ↓GSplit_ft, Nat.reduceAdd, Nat.reduceEqDiff, Nat.reduceLeDiff, Nat.reduceMul, Nat.reduceLT, reduceIte, Int.reduceToNat, bne_self_eq_false, beq_self_eq_true, w64_id, cast_succ, Bool.false_eq_true, Bool.and_true, Bool.true_and, Bool.and_false, Bool.false_and, Bool.not_not]))
      refine SW.ret ?_; (try simp only [go_sem]); (first | refine FunPost.one ?_ | refine FunPost.two ?_ | refine FunPost.three ?_); (try simp (config := { maxSteps := 1000000 }) (disch := (first | omega | (simp only [go_sem]; try omega))) only [go_sem, ↓GSplit_t, ↓GSplit_f, ↓GSplit_tf, ↓GSplit_ft, Nat.reduceAdd, Nat.reduceEqDiff, Nat.reduceLeDiff, Nat.reduceMul, Nat.reduceLT, reduceIte, Int.reduceToNat, bne_self_eq_false, beq_self_eq_true, w64_id, cast_succ, Bool.false_eq_true, Bool.and_true, Bool.true_and, Bool.and_false, Bool.false_and, Bool.not_not])
      exact GR.of nilFS
    · refine SW.condF (by simp [go_sem, hc2]) ?_
      rw [if_neg hc2]
      repeat (first | (with_reducible refine SW.seq ?_) | (with_reducible refine SW.block ?_) | (with_reducible refine SW.rowC ?_) | (with_reducible refine SW.skip ?_) | (with_reducible refine SW.exit ?_) | (with_reducible intro _) | (with_reducible refine And.intro (by omega) ?_) | (simp (config := { maxSteps := 1000000 }) (disch := (first | omega | (simp only [go_sem]; try omega))) only [go_sem, ↓GSplit_t, ↓GSplit_f, ↓GSplit_tf, ↓GSplit_ft, Nat.reduceAdd, Nat.reduceEqDiff, Nat.reduceLeDiff, Nat.reduceMul, Nat.reduceLT, reduceIte, Int.reduceToNat, bne_self_eq_false, beq_self_eq_true, w64_id, cast_succ, Bool.false_eq_true, Bool.and_true, Bool.true_and, Bool.and_false, Bool.false_and, Bool.not_not]))
      refine SW.ret ?_; (try simp only [go_sem]); (first | refine FunPost.one ?_ | refine FunPost.two ?_ | refine FunPost.three ?_); (try simp (config := { maxSteps := 1000000 }) (disch := (first | omega | (simp only [go_sem]; try omega))) only [go_sem, ↓GSplit_t, ↓GSplit_f, ↓GSplit_tf, ↓GSplit_ft, Nat.reduceAdd, Nat.reduceEqDiff, Nat.reduceLeDiff, Nat.reduceMul, Nat.reduceLT, reduceIte, Int.reduceToNat, bne_self_eq_false, beq_self_eq_true, w64_id, cast_succ, Bool.false_eq_true, Bool.and_true, Bool.true_and, Bool.and_false, Bool.false_and, Bool.not_not])
      exact GR.of nilFS

def singerV (q : Int) : List Int × Int := if (decide (2 ≤ q) && decide (q ≤ 5)) then firstV (q * q + q + 1) (q + 1) 1 20000 else ([], 2)

theorem FS.use {P : Program} {f : FuncId} {args : List AV} {xs : List Int} {code : Int} (h : FS P f args xs code) {H : List Blk} {K : AV → List Blk → Prop} (hk : ∀ ext v t, OwnS (H ++ ext) (Btw H.length (H ++ ext).length) t v xs → t = (H ++ ext).length → K (.tup [v, I code]) (H ++ ext)) : ACalls P f args H K := by
  refine (h H).mono ?_
  rintro r H' ⟨ext, v, t, rfl, rfl, ho, ht⟩
  exact hk ext v t ho ht

theorem implSinger_fs (q : Int) : FS Try.prog f_impl_SingerSet [I q] (singerV q).1 (singerV q).2 := by
  intro H
  cases h1 : (decide (2 ≤ q) && decide (q ≤ 5))
  · rw [singerV, h1]
    refine ACalls.introB s_impl_SingerSet (by simp) ?_; intro hB hA; unfold c_impl_SingerSet; simp (config := { maxSteps := 1000000 }) (disch := (first | omega | (simp only [go_sem]; try omega))) only [go_sem, ↓GSplit_t, ↓GSplit_f, ↓GSplit_tf, ↓GSplit_ft, Nat.reduceAdd, Nat.reduceEqDiff, Nat.reduceLeDiff, Nat.reduceMul, Nat.reduceLT, reduceIte, Int.reduceToNat, bne_self_eq_false, beq_self_eq_true, w64_id, cast_succ, Bool.false_eq_true, Bool.and_true, Bool.true_and, Bool.and_false, Bool.false_and, Bool.not_not]
    repeat (first | (with_reducible refine SW.seq ?_) | (with_reducible refine SW.block ?_) | (with_reducible refine SW.rowC ?_) | (with_reducible refine SW.skip ?_) | (with_reducible refine SW.exit ?_) | (with_reducible refine PFn.use (within_fn _ _ _) ?_) | (with_reducible refine PFn.useq (within_fn _ _ _) ?_) | (with_reducible intro _) | (with_reducible refine And.intro (by omega) ?_) | (simp (config := { maxSteps := 1000000 }) (disch := (first | omega | (simp only [go_sem]; try omega))) only [go_sem, ↓GSplit_t, ↓GSplit_f, ↓GSplit_tf, ↓GSplit_ft, Nat.reduceAdd, Nat.reduceEqDiff, Nat.reduceLeDiff, Nat.reduceMul, Nat.reduceLT, reduceIte, Int.reduceToNat, bne_self_eq_false, beq_self_eq_true, w64_id, cast_succ, Bool.false_eq_true, Bool.and_true, Bool.true_and, Bool.and_false, Bool.false_and, Bool.not_not, h1]))
    refine SW.condT rfl ?_
    repeat (first | (with_reducible refine SW.seq ?_) | (with_reducible refine SW.block ?_) | (with_reducible refine SW.rowC ?_) | (with_reducible refine SW.skip ?_) | (with_reducible refine SW.exit ?_) | (with_reducible intro _) | (with_reducible refine And.intro (by omega) ?_) | (simp (config := { maxSteps := 1000000 }) (disch := (first | omega | (simp only [go_sem]; try omega))) only [go_sem, ↓GSplit_t, ↓GSplit_f, ↓GSplit_tf, ↓GSplit_ft, Nat.reduceAdd, Nat.reduceEqDiff, Nat.reduceLeDiff, Nat.reduceMul, Nat.reduceLT, reduceIte, Int.reduceToNat, bne_self_eq_false, beq_self_eq_true, w64_id, cast_succ, Bool.false_eq_true, Bool.and_true, Bool.true_and, Bool.and_false, Bool.false_and, Bool.not_not]))
    refine SW.ret ?_; (try simp only [go_sem]); (first | refine FunPost.one ?_ | refine FunPost.two ?_ | refine FunPost.three ?_); (try simp (config := { maxSteps := 1000000 }) (disch := (first | omega | (simp only [go_sem]; try omega))) only [go_sem, ↓GSplit_t, ↓GSplit_f, ↓GSplit_tf, ↓GSplit_ft, Nat.reduceAdd, Nat.reduceEqDiff, Nat.reduceLeDiff, Nat.reduceMul, Nat.reduceLT, reduceIte, Int.reduceToNat, bne_self_eq_false, beq_self_eq_true, w64_id, cast_succ, Bool.false_eq_true, Bool.and_true, Bool.true_and, Bool.and_false, Bool.false_and, Bool.not_not])
    exact GR.of nilFS0
  · rw [singerV, h1, if_pos rfl]
    refine ACalls.introB s_impl_SingerSet (by simp) ?_; intro hB hA; unfold c_impl_SingerSet; simp (config := { maxSteps := 1000000 }) (disch := (first | omega | (simp only [go_sem]; try omega))) only [go_sem, ↓GSplit_t, ↓GSplit_f, ↓GSplit_tf, ↓GSplit_ft, Nat.reduceAdd, Nat.reduceEqDiff, Nat.reduceLeDiff, Nat.reduceMul, Nat.reduceLT, reduceIte, Int.reduceToNat, bne_self_eq_false, beq_self_eq_true, w64_id, cast_succ, Bool.false_eq_true, Bool.and_true, Bool.true_and, Bool.and_false, Bool.false_and, Bool.not_not]
    repeat (first | (with_reducible refine SW.seq ?_) | (with_reducible refine SW.block ?_) | (with_reducible refine SW.rowC ?_) | (with_reducible refine SW.skip ?_) | (with_reducible refine SW.exit ?_) | (with_reducible refine PFn.use (within_fn _ _ _) ?_) | (with_reducible refine PFn.useq (within_fn _ _ _) ?_) | (with_reducible intro _) | (with_reducible refine And.intro (by omega) ?_) | (simp (config := { maxSteps := 1000000 }) (disch := (first | omega | (simp only [go_sem]; try omega))) only [go_sem, ↓GSplit_t, ↓GSplit_f, ↓GSplit_tf, ↓GSplit_ft, Nat.reduceAdd, Nat.reduceEqDiff, Nat.reduceLeDiff, Nat.reduceMul, Nat.reduceLT, reduceIte, Int.reduceToNat, bne_self_eq_false, beq_self_eq_true, w64_id, cast_succ, Bool.false_eq_true, Bool.and_true, Bool.true_and, Bool.and_false, Bool.false_and, Bool.not_not, h1]))
    refine SW.condF rfl ?_
    simp only [Bool.and_eq_true, decide_eq_true_eq] at h1
    have hq : w64 (q * q) = q * q := by
      have : q = 2 ∨ q = 3 ∨ q = 4 ∨ q = 5 := by omega
      rcases this with rfl | rfl | rfl | rfl <;> rfl
    have hq2 : q * q ≤ 25 ∧ 4 ≤ q * q := by
      have : q = 2 ∨ q = 3 ∨ q = 4 ∨ q = 5 := by omega
      rcases this with rfl | rfl | rfl | rfl <;> decide
    repeat (first | (with_reducible refine SW.seq ?_) | (with_reducible refine SW.block ?_) | (with_reducible refine SW.rowC ?_) | (with_reducible refine SW.skip ?_) | (with_reducible refine SW.exit ?_) | (with_reducible intro _) | (with_reducible refine And.intro (by omega) ?_) | (simp (config := { maxSteps := 1000000 }) (disch := (first | omega | (simp only [go_sem]; try omega))) only [go_sem, ↓GSplit_t, ↓GSplit_f, ↓GSplit_tf, ↓GSplit_ft, Nat.reduceAdd, Nat.reduceEqDiff, Nat.reduceLeDiff, Nat.reduceMul, Nat.reduceLT, reduceIte, Int.reduceToNat, bne_self_eq_false, beq_self_eq_true, w64_id, cast_succ, Bool.false_eq_true, Bool.and_true, Bool.true_and, Bool.and_false, Bool.false_and, Bool.not_not, hq]))
    refine (implFirst_fs _ _ _ _).use ?_
    intro ext v t ho ht
    repeat (first | (with_reducible refine SW.seq ?_) | (with_reducible refine SW.block ?_) | (with_reducible refine SW.rowC ?_) | (with_reducible refine SW.skip ?_) | (with_reducible refine SW.exit ?_) | (with_reducible intro _) | (with_reducible refine And.intro (by omega) ?_) | (simp (config := { maxSteps := 1000000 }) (disch := (first | omega | (simp only [go_sem]; try omega))) only [go_sem, ↓GSplit_t, ↓GSplit_f, ↓GSplit_tf, ↓GSplit_ft, Nat.reduceAdd, Nat.reduceEqDiff, Nat.reduceLeDiff, Nat.reduceMul, Nat.reduceLT, reduceIte, Int.reduceToNat, bne_self_eq_false, beq_self_eq_true, w64_id, cast_succ, Bool.false_eq_true, Bool.and_true, Bool.true_and, Bool.and_false, Bool.false_and, Bool.not_not]))
    refine SW.ret ?_; (try simp only [go_sem]); (first | refine FunPost.one ?_ | refine FunPost.two ?_ | refine FunPost.three ?_); (try simp (config := { maxSteps := 1000000 }) (disch := (first | omega | (simp only [go_sem]; try omega))) only [go_sem, ↓GSplit_t, ↓GSplit_f, ↓GSplit_tf, ↓GSplit_ft, Nat.reduceAdd, Nat.reduceEqDiff, Nat.reduceLeDiff, Nat.reduceMul, Nat.reduceLT, reduceIte, Int.reduceToNat, bne_self_eq_false, beq_self_eq_true, w64_id, cast_succ, Bool.false_eq_true, Bool.and_true, Bool.true_and, Bool.and_false, Bool.false_and, Bool.not_not])
    exact GR.of ⟨ext, v, t, rfl, rfl, ho, ht⟩
end Go.Proofs.Ytmgbglekgigkmaa
