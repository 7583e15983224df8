/- Slices of integers, read. -/
import Derived.Test.YtmdeibdplpodpaaGreatProg
import Derived.KernelRfl
import Derived.Test.YtmdeibdplpodpaaGreatzAvC
set_option linter.unusedSimpArgs false
set_option linter.unusedVariables false
set_option maxHeartbeats 4000000
set_option maxRecDepth 100000
namespace Go.Proofs.YtmdeibdplpodpaaGreat
open Go.Av
abbrev f_laws_eqInt64S : Nat := 31
def c_laws_eqInt64S : SC :=
 .seq (.reg [
     ⟨(some 4), .mv (.const (.bool false)), none⟩] [0, 1])
 (.seq (.seq (.reg [
     ⟨(some 6), .mv (.tmp 0), none⟩,
     ⟨(some 7), .len (.tmp 6), none⟩,
     ⟨(some 8), .mv (.tmp 1), none⟩,
     ⟨(some 9), .len (.tmp 8), none⟩,
     ⟨(some 10), .bin .neq (.tmp 7) (.tmp 9), none⟩] [0, 1, 10])
 (.cond (.tmp 10)
  (.seq (.reg [
      ⟨(some 4), .mv (.const (.bool false)), none⟩] [4])
  (.ret))
  (.skip)))
 (.seq (.seq (.reg [
     ⟨(some 5), .mv (.const (.int .i64 0)), none⟩] [0, 1, 5])
 (.block 0 (.loop [0, 1, 5]
   (.seq (.seq (.reg [
       ⟨(some 11), .mv (.tmp 5), none⟩,
       ⟨(some 12), .mv (.tmp 0), none⟩,
       ⟨(some 13), .len (.tmp 12), none⟩,
       ⟨(some 14), .bin .lss (.tmp 11) (.tmp 13), none⟩] [0, 1, 5, 14])
   (.cond (.tmp 14)
    (.skip)
    (.exit 0)))
   (.seq (.block 1 (.seq (.reg [
        ⟨(some 17), .mv (.tmp 0), none⟩,
        ⟨(some 18), .mv (.tmp 5), none⟩,
        ⟨(some 19), .iaddr 1 (.tmp 17) (.tmp 18), none⟩,
        ⟨(some 20), .load 1 false (.tmp 19), none⟩,
        ⟨(some 21), .mv (.tmp 1), none⟩,
        ⟨(some 22), .mv (.tmp 5), none⟩,
        ⟨(some 23), .iaddr 1 (.tmp 21) (.tmp 22), none⟩,
        ⟨(some 24), .load 1 false (.tmp 23), none⟩,
        ⟨(some 25), .bin .neq (.tmp 20) (.tmp 24), none⟩] [0, 1, 5, 25])
    (.cond (.tmp 25)
     (.seq (.reg [
         ⟨(some 4), .mv (.const (.bool false)), none⟩] [4])
     (.ret))
     (.skip))))
   (.reg [
       ⟨(some 15), .mv (.tmp 5), none⟩,
       ⟨(some 16), .bin .add (.tmp 15) (.const (.int .i64 1)), none⟩,
       ⟨(some 5), .mv (.tmp 16), none⟩] [0, 1, 5]))))))
 (.seq (.reg [
     ⟨(some 4), .mv (.const (.bool true)), none⟩] [4])
 (.ret))))
theorem s_laws_eqInt64S : stripF Tryz.prog 31 [[0, 1], [0, 1, 10], [4], [0, 1, 5], [0, 1, 5], [0, 1, 5, 14], [0, 1, 5, 25], [4], [0, 1, 5], [4]] = some (c_laws_eqInt64S, [.tmp 4], 26) := by kernel_rfl
abbrev f_laws_markInt64S : Nat := 37
def c_laws_markInt64S : SC :=
 .seq (.reg [
     ⟨(some 4), .mv (.const (.int .i64 0)), none⟩] [0, 1])
 (.seq (.seq (.reg [
     ⟨(some 5), .mv (.const (.int .i64 0)), none⟩] [0, 1, 5])
 (.block 0 (.loop [0, 1, 5]
   (.seq (.seq (.reg [
       ⟨(some 6), .mv (.tmp 5), none⟩,
       ⟨(some 7), .mv (.tmp 0), none⟩,
       ⟨(some 8), .len (.tmp 7), none⟩,
       ⟨(some 9), .bin .lss (.tmp 6) (.tmp 8), none⟩] [0, 1, 5, 9])
   (.cond (.tmp 9)
    (.skip)
    (.exit 0)))
   (.seq (.block 1 (.seq (.reg [
        ⟨(some 12), .mv (.tmp 0), none⟩,
        ⟨(some 13), .mv (.tmp 5), none⟩,
        ⟨(some 14), .mv (.tmp 1), none⟩,
        ⟨(some 15), .iaddr 1 (.tmp 12) (.tmp 13), none⟩,
        ⟨none, .store 1 (.tmp 15) (.tmp 14), none⟩] [0, 1, 5])
    (.reg [
        ⟨(some 16), .mv (.tmp 1), none⟩,
        ⟨(some 17), .bin .add (.tmp 16) (.const (.int .i64 1)), none⟩,
        ⟨(some 1), .mv (.tmp 17), none⟩] [0, 1, 5])))
   (.reg [
       ⟨(some 10), .mv (.tmp 5), none⟩,
       ⟨(some 11), .bin .add (.tmp 10) (.const (.int .i64 1)), none⟩,
       ⟨(some 5), .mv (.tmp 11), none⟩] [0, 1, 5]))))))
 (.seq (.reg [
     ⟨(some 18), .mv (.tmp 1), none⟩,
     ⟨(some 4), .mv (.tmp 18), none⟩] [4])
 (.ret)))
theorem s_laws_markInt64S : stripF Tryz.prog 37 [[0, 1], [0, 1, 5], [0, 1, 5], [0, 1, 5, 9], [0, 1, 5], [0, 1, 5], [0, 1, 5], [4]] = some (c_laws_markInt64S, [.tmp 4], 19) := by kernel_rfl
abbrev f_laws_heldInt64S : Nat := 39
def c_laws_heldInt64S : SC :=
 .seq (.reg [
     ⟨(some 4), .mv (.const (.int .i64 0)), none⟩] [0, 1])
 (.seq (.seq (.reg [
     ⟨(some 5), .mv (.const (.int .i64 0)), none⟩] [0, 1, 5])
 (.block 0 (.loop [0, 1, 5]
   (.seq (.seq (.reg [
       ⟨(some 6), .mv (.tmp 5), none⟩,
       ⟨(some 7), .mv (.tmp 0), none⟩,
       ⟨(some 8), .len (.tmp 7), none⟩,
       ⟨(some 9), .bin .lss (.tmp 6) (.tmp 8), none⟩] [0, 1, 5, 9])
   (.cond (.tmp 9)
    (.skip)
    (.exit 0)))
   (.seq (.block 1 (.seq (.seq (.reg [
        ⟨(some 12), .mv (.tmp 0), none⟩,
        ⟨(some 13), .mv (.tmp 5), none⟩,
        ⟨(some 14), .iaddr 1 (.tmp 12) (.tmp 13), none⟩,
        ⟨(some 15), .load 1 false (.tmp 14), none⟩,
        ⟨(some 16), .mv (.tmp 1), none⟩,
        ⟨(some 17), .bin .neq (.tmp 15) (.tmp 16), none⟩] [0, 1, 5, 17])
    (.cond (.tmp 17)
     (.seq (.reg [
         ⟨(some 4), .mv (.const (.int .i64 (-1))), none⟩] [4])
     (.ret))
     (.skip)))
    (.reg [
        ⟨(some 18), .mv (.tmp 1), none⟩,
        ⟨(some 19), .bin .add (.tmp 18) (.const (.int .i64 1)), none⟩,
        ⟨(some 1), .mv (.tmp 19), none⟩] [0, 1, 5])))
   (.reg [
       ⟨(some 10), .mv (.tmp 5), none⟩,
       ⟨(some 11), .bin .add (.tmp 10) (.const (.int .i64 1)), none⟩,
       ⟨(some 5), .mv (.tmp 11), none⟩] [0, 1, 5]))))))
 (.seq (.reg [
     ⟨(some 20), .mv (.tmp 1), none⟩,
     ⟨(some 4), .mv (.tmp 20), none⟩] [4])
 (.ret)))
theorem s_laws_heldInt64S : stripF Tryz.prog 39 [[0, 1], [0, 1, 5], [0, 1, 5], [0, 1, 5, 9], [0, 1, 5, 17], [4], [0, 1, 5], [0, 1, 5], [4]] = some (c_laws_heldInt64S, [.tmp 4], 21) := by kernel_rfl
abbrev RdS (H : List Blk) (a : AV) (xs : List Int) : Prop := aview H a = some (xs.length, xs.map I)
theorem rd_get (xs : List Int) {i : Nat} (h : i < xs.length) : (xs.map I)[i]? = some (I xs[i]) := by
  simp [List.getElem?_eq_getElem h]
section
variable {H : List Blk} {a : AV} {xs : List Int} {K : AV → List Blk → Prop}
theorem idx (ha : RdS H a xs) {i : Nat} (h : i < xs.length) : IaddrW 1 a (I i) H K = K (.el a i) H := by
  rw [IaddrW_of (n := 1) (H := H) (Kv := K) (i := i) ha]
  simp only [Int.toNat_natCast, Nat.mul_one]
  exact propext ⟨fun g => g.2.2, fun g => ⟨by omega, by omega, g⟩⟩
theorem ld (ha : RdS H a xs) {i : Nat} (h : i < xs.length) : acell1 H (.el a i) = some (I xs[i]) := by
  simp only [acell1, ha]
  exact rd_get xs h
end
theorem w64_succ {i n : Nat} (h : i < n) (hn : n ≤ 9223372036854775807) : w64 ((i : Int) + 1) = ((i + 1 : Nat) : Int) := by
  rw [w64_id (by omega) (by omega)]; omega
theorem eqS_of {f : Nat} {anns : List (List Nat)} (hs : stripF Tryz.prog f anns = some (c_laws_eqInt64S, [.tmp 4], 26)) (H : List Blk) (a b : AV) (xs ys : List Int) (ha : RdS H a xs) (hb : RdS H b ys) :
    ACalls Tryz.prog f [a, b] H (fun r H' => r = Bv (decide (xs = ys)) ∧ H' = H) := by
  refine ACalls.intro hs (by simp) ?_
  refine SW.seq ?_; refine SW.row ?_; simp only [go_sem, Nat.reduceAdd, Nat.reduceEqDiff, Nat.reduceLeDiff, Nat.reduceMul, reduceIte, Nat.zero_ne_one, Nat.one_ne_zero, Nat.zero_add, Nat.add_zero, List.map_cons, List.map_nil, List.length_cons, List.length_nil, decide_true, decide_false, Bool.not_true, Bool.not_false, true_and, and_true, ne_eq, not_true_eq_false, not_false_eq_true, forall_const, List.getElem?_cons_zero, List.getElem?_cons_succ]
  refine SW.seq ?_; refine SW.seq ?_; refine SW.row ?_; simp only [go_sem, Nat.reduceAdd, Nat.reduceEqDiff, Nat.reduceLeDiff, Nat.reduceMul, reduceIte, Nat.zero_ne_one, Nat.one_ne_zero, Nat.zero_add, Nat.add_zero, List.map_cons, List.map_nil, List.length_cons, List.length_nil, decide_true, decide_false, Bool.not_true, Bool.not_false, true_and, and_true, ne_eq, not_true_eq_false, not_false_eq_true, forall_const, List.getElem?_cons_zero, List.getElem?_cons_succ, ha, hb]
  intro hla hlb
  refine SW.cond rfl (fun h => ?_) (fun h => ?_)
  · refine SW.seq ?_; refine SW.row ?_; simp only [go_sem, Nat.reduceAdd, Nat.reduceEqDiff, Nat.reduceLeDiff, Nat.reduceMul, reduceIte, Nat.zero_ne_one, Nat.one_ne_zero, Nat.zero_add, Nat.add_zero, List.map_cons, List.map_nil, List.length_cons, List.length_nil, decide_true, decide_false, Bool.not_true, Bool.not_false, true_and, and_true, ne_eq, not_true_eq_false, not_false_eq_true, forall_const, List.getElem?_cons_zero, List.getElem?_cons_succ]
    refine SW.ret ?_
    refine FunPost.one (GR.of ?_)
    refine ⟨?_, rfl⟩
    have hne : xs ≠ ys := by rintro rfl; simp at h
    simp [aget, hne]
  refine SW.skip ?_
  have hlen : xs.length = ys.length := by
    have := of_decide_eq_true (by simpa using h : decide ((xs.length : Int) = ys.length) = true)
    omega
  simp only [go_sem]
  refine SW.seq ?_; refine SW.seq ?_; refine SW.row ?_; simp only [go_sem, Nat.reduceAdd, Nat.reduceEqDiff, Nat.reduceLeDiff, Nat.reduceMul, reduceIte, Nat.zero_ne_one, Nat.one_ne_zero, Nat.zero_add, Nat.add_zero, List.map_cons, List.map_nil, List.length_cons, List.length_nil, decide_true, decide_false, Bool.not_true, Bool.not_false, true_and, and_true, ne_eq, not_true_eq_false, not_false_eq_true, forall_const, List.getElem?_cons_zero, List.getElem?_cons_succ]
  refine SW.block ?_
  refine SW.loop (fun k E H' => ∃ i : Nat, i ≤ xs.length ∧ k = xs.length - i ∧ E = [(0, a), (1, b), (5, I i)] ∧ H' = H ∧ xs.take i = ys.take i) xs.length ⟨0, by omega, by omega, rfl, rfl, rfl⟩ ?_
  rintro k E H' ⟨i, hi, rfl, rfl, rfl, heq⟩
  refine SW.seq ?_; refine SW.seq ?_; refine SW.row ?_; simp only [go_sem, Nat.reduceAdd, Nat.reduceEqDiff, Nat.reduceLeDiff, Nat.reduceMul, reduceIte, Nat.zero_ne_one, Nat.one_ne_zero, Nat.zero_add, Nat.add_zero, List.map_cons, List.map_nil, List.length_cons, List.length_nil, decide_true, decide_false, Bool.not_true, Bool.not_false, true_and, and_true, ne_eq, not_true_eq_false, not_false_eq_true, forall_const, List.getElem?_cons_zero, List.getElem?_cons_succ, ha]
  intro _
  refine SW.cond rfl (fun h => ?_) (fun h => ?_)
  · have hlt : i < xs.length := by simpa using h
    have hlt' : i < ys.length := by omega
    refine SW.skip ?_
    simp only [go_sem]
    refine SW.seq ?_; refine SW.block ?_; refine SW.seq ?_; refine SW.row ?_; simp only [go_sem, Nat.reduceAdd, Nat.reduceEqDiff, Nat.reduceLeDiff, Nat.reduceMul, reduceIte, Nat.zero_ne_one, Nat.one_ne_zero, Nat.zero_add, Nat.add_zero, List.map_cons, List.map_nil, List.length_cons, List.length_nil, decide_true, decide_false, Bool.not_true, Bool.not_false, true_and, and_true, ne_eq, not_true_eq_false, not_false_eq_true, forall_const, List.getElem?_cons_zero, List.getElem?_cons_succ, idx ha hlt, idx hb hlt', ld ha hlt, ld hb hlt']
    refine SW.cond rfl (fun h => ?_) (fun h => ?_)
    · refine SW.seq ?_; refine SW.row ?_; simp only [go_sem, Nat.reduceAdd, Nat.reduceEqDiff, Nat.reduceLeDiff, Nat.reduceMul, reduceIte, Nat.zero_ne_one, Nat.one_ne_zero, Nat.zero_add, Nat.add_zero, List.map_cons, List.map_nil, List.length_cons, List.length_nil, decide_true, decide_false, Bool.not_true, Bool.not_false, true_and, and_true, ne_eq, not_true_eq_false, not_false_eq_true, forall_const, List.getElem?_cons_zero, List.getElem?_cons_succ]
      refine SW.ret ?_
      simp only [go_sem]
      refine FunPost.one (GR.of ?_)
      refine ⟨?_, rfl⟩
      have hne : xs ≠ ys := by rintro rfl; simp at h
      simp [aget, hne]
    · refine SW.skip ?_
      simp only [go_sem]
      refine SW.row ?_; simp only [go_sem, Nat.reduceAdd, Nat.reduceEqDiff, Nat.reduceLeDiff, Nat.reduceMul, reduceIte, Nat.zero_ne_one, Nat.one_ne_zero, Nat.zero_add, Nat.add_zero, List.map_cons, List.map_nil, List.length_cons, List.length_nil, decide_true, decide_false, Bool.not_true, Bool.not_false, true_and, and_true, ne_eq, not_true_eq_false, not_false_eq_true, forall_const, List.getElem?_cons_zero, List.getElem?_cons_succ, w64_succ hlt hla]
      refine SLoop.next (xs.length - (i + 1)) (by omega) ⟨i + 1, by omega, rfl, ?_, rfl, ?_⟩
      · simp only [go_sem]; rfl
      · rw [List.take_add_one, List.take_add_one, heq, List.getElem?_eq_getElem hlt, List.getElem?_eq_getElem hlt']
        have : xs[i] = ys[i] := by simpa using h
        rw [this]
  · refine SW.exit ?_
    simp only [go_sem, reduceIte]
    refine SW.seq ?_; refine SW.row ?_; simp only [go_sem, Nat.reduceAdd, Nat.reduceEqDiff, Nat.reduceLeDiff, Nat.reduceMul, reduceIte, Nat.zero_ne_one, Nat.one_ne_zero, Nat.zero_add, Nat.add_zero, List.map_cons, List.map_nil, List.length_cons, List.length_nil, decide_true, decide_false, Bool.not_true, Bool.not_false, true_and, and_true, ne_eq, not_true_eq_false, not_false_eq_true, forall_const, List.getElem?_cons_zero, List.getElem?_cons_succ]
    refine SW.ret ?_
    refine FunPost.one (GR.of ?_)
    refine ⟨?_, rfl⟩
    have hi' : i = xs.length := by
      have : ¬ i < xs.length := by simpa using h
      omega
    subst hi'
    have : xs = ys := by
      rw [List.take_length] at heq
      rw [heq, hlen, List.take_length]
    simp [aget, this]
theorem eqInt64S_ok (H : List Blk) (a b : AV) (xs ys : List Int) (ha : RdS H a xs) (hb : RdS H b ys) :
    ACalls Tryz.prog f_laws_eqInt64S [a, b] H (fun r H' => r = Bv (decide (xs = ys)) ∧ H' = H) := eqS_of s_laws_eqInt64S H a b xs ys ha hb
theorem RdS.append {H : List Blk} {a : AV} {xs : List Int} (h : RdS H a xs) (ext : List Blk) : RdS (H ++ ext) a xs := aview_append h ext
def RdSS (H : List Blk) (a : AV) (xss : List (List Int)) : Prop := ∃ cells, aview H a = some (xss.length, cells) ∧ cells.length = xss.length ∧ ∀ (j : Nat) (c : AV) (xs : List Int), cells[j]? = some c → xss[j]? = some xs → RdS H c xs
theorem RdSS.append {H : List Blk} {a : AV} {xss : List (List Int)} (h : RdSS H a xss) (ext : List Blk) : RdSS (H ++ ext) a xss := by
  obtain ⟨cells, h1, h2, h3⟩ := h
  exact ⟨cells, aview_append h1 ext, h2, fun j c xs g1 g2 => RdS.append (h3 j c xs g1 g2) ext⟩
section
variable {H : List Blk} {a : AV} {n : Nat} {cells : List AV} {K : AV → List Blk → Prop}
theorem idxc (ha : aview H a = some (n, cells)) {i : Nat} (h : i < n) : IaddrW 1 a (I i) H K = K (.el a i) H := by
  rw [IaddrW_of (n := 1) (H := H) (Kv := K) (i := i) ha]
  simp only [Int.toNat_natCast, Nat.mul_one]
  exact propext ⟨fun g => g.2.2, fun g => ⟨by omega, by omega, g⟩⟩
theorem ldc (ha : aview H a = some (n, cells)) {i : Nat} {c : AV} (h : cells[i]? = some c) : acell1 H (.el a i) = some c := by
  simp only [acell1, ha]; exact h
theorem view_nm {r ver ty : Nat} (h : H[r]? = some ⟨ver, ty, 1, cells⟩) (hn : cells.length = n) : aview H (.nm r ver 0 n) = some (n, cells) := by
  simp only [aview, h, if_true, List.drop_zero, Nat.mul_one]
  rw [← hn, List.take_length]
theorem store_nm {r ver ty : Nat} {c : AV} (h : H[r]? = some ⟨ver, ty, 1, cells⟩) {i : Nat} (hi : i < cells.length) : astore H [c] (.el (.nm r ver 0 n) i) = some (H.set r ⟨ver, ty, 1, cells.set i c⟩) := by
  simp only [astore, h, List.length_cons, List.length_nil, Nat.zero_add, setMany]
  rw [if_pos ⟨trivial, by omega⟩]
end
@[go_sem] theorem partsOf_I (n : Int) : partsOf (I n) = [I n] := (rfl)
@[go_sem] theorem cell1_I (n : Int) : (I n).cell1 = true := (rfl)
@[go_sem] theorem all_nil1 (f : AV → Bool) : ([] : List AV).all f = true := (rfl)
@[go_sem] theorem all_cons1 (f : AV → Bool) (c : AV) (cs : List AV) : (c :: cs).all f = (f c && cs.all f) := (rfl)
attribute [go_sem] Bool.and_true Bool.true_and
def ms (k : Int) (xs : List Int) (i : Nat) : List Int := (List.range i).map (fun (j : Nat) => k + (j : Int)) ++ xs.drop i
theorem ms_zero (k : Int) (xs : List Int) : ms k xs 0 = xs := by simp [ms]
theorem ms_length (k : Int) (xs : List Int) {i : Nat} (h : i ≤ xs.length) : (ms k xs i).length = xs.length := by simp [ms]; omega
theorem ms_all (k : Int) (xs : List Int) : ms k xs xs.length = (List.range xs.length).map (fun (j : Nat) => k + (j : Int)) := by simp [ms]
theorem ms_set (k : Int) (xs : List Int) {i : Nat} (h : i < xs.length) : (ms k xs i).set i (k + i) = ms k xs (i + 1) := by
  unfold ms
  rw [List.set_append_right _ _ (by simp)]
  simp only [List.length_map, List.length_range, Nat.sub_self]
  rw [List.drop_eq_getElem_cons h, List.set_cons_zero, List.range_succ, List.map_append]
  simp
theorem markInt64S_ok (H : List Blk) (r ver ty : Nat) (xs : List Int) (k : Int) (hr : H[r]? = some ⟨ver, ty, 1, xs.map I⟩) (hk0 : 0 ≤ k) (hk : k + xs.length ≤ 4611686018427387904) :
    ACalls Tryz.prog f_laws_markInt64S [.nm r ver 0 xs.length, I k] H (fun v H' => v = I (k + xs.length) ∧ H' = H.set r ⟨ver, ty, 1, ((List.range xs.length).map (fun (j : Nat) => k + (j : Int))).map I⟩) := by
  refine ACalls.intro s_laws_markInt64S (by simp) ?_
  have hlt : r < H.length := (List.getElem?_eq_some_iff.1 hr).1
  refine SW.seq ?_; refine SW.row ?_; simp only [go_sem, Nat.reduceAdd, Nat.reduceEqDiff, Nat.reduceLeDiff, Nat.reduceMul, reduceIte, Nat.zero_ne_one, Nat.one_ne_zero, Nat.zero_add, Nat.add_zero, List.map_cons, List.map_nil, List.length_cons, List.length_nil, decide_true, decide_false, Bool.not_true, Bool.not_false, true_and, and_true, ne_eq, not_true_eq_false, not_false_eq_true, forall_const, List.getElem?_cons_zero, List.getElem?_cons_succ]
  refine SW.seq ?_; refine SW.seq ?_; refine SW.row ?_; simp only [go_sem, Nat.reduceAdd, Nat.reduceEqDiff, Nat.reduceLeDiff, Nat.reduceMul, reduceIte, Nat.zero_ne_one, Nat.one_ne_zero, Nat.zero_add, Nat.add_zero, List.map_cons, List.map_nil, List.length_cons, List.length_nil, decide_true, decide_false, Bool.not_true, Bool.not_false, true_and, and_true, ne_eq, not_true_eq_false, not_false_eq_true, forall_const, List.getElem?_cons_zero, List.getElem?_cons_succ]
  refine SW.block ?_
  refine SW.loop (fun q E H' => ∃ i : Nat, i ≤ xs.length ∧ q = xs.length - i ∧ E = [(0, .nm r ver 0 xs.length), (1, I (k + i)), (5, I i)] ∧ H' = H.set r ⟨ver, ty, 1, (ms k xs i).map I⟩) xs.length ⟨0, by omega, by omega, by simp; rfl, ?_⟩ ?_
  · rw [ms_zero]
    obtain ⟨h1, h2⟩ := List.getElem?_eq_some_iff.1 hr
    rw [← h2]; exact (List.set_getElem_self h1).symm
  rintro q E H' ⟨i, hi, rfl, rfl, rfl⟩
  have hcell : (H.set r ⟨ver, ty, 1, (ms k xs i).map I⟩)[r]? = some ⟨ver, ty, 1, (ms k xs i).map I⟩ := List.getElem?_set_self hlt
  have hv : aview (H.set r ⟨ver, ty, 1, (ms k xs i).map I⟩) (.nm r ver 0 xs.length) = some (xs.length, (ms k xs i).map I) := view_nm hcell (by simp [ms_length k xs hi])
  refine SW.seq ?_; refine SW.seq ?_; refine SW.row ?_; simp only [go_sem, Nat.reduceAdd, Nat.reduceEqDiff, Nat.reduceLeDiff, Nat.reduceMul, reduceIte, Nat.zero_ne_one, Nat.one_ne_zero, Nat.zero_add, Nat.add_zero, List.map_cons, List.map_nil, List.length_cons, List.length_nil, decide_true, decide_false, Bool.not_true, Bool.not_false, true_and, and_true, ne_eq, not_true_eq_false, not_false_eq_true, forall_const, List.getElem?_cons_zero, List.getElem?_cons_succ, hv]; (first | refine SW.cond rfl (fun h => ?_) (fun h => ?_) | (intro _; refine SW.cond rfl (fun h => ?_) (fun h => ?_)) | (intro _ _; refine SW.cond rfl (fun h => ?_) (fun h => ?_)))
  · have hx : i < xs.length := by simpa using h
    refine SW.skip ?_; simp only [go_sem, Nat.reduceAdd, Nat.reduceEqDiff, Nat.reduceLeDiff, Nat.reduceMul, reduceIte, Nat.zero_ne_one, Nat.one_ne_zero, Nat.zero_add, Nat.add_zero, List.map_cons, List.map_nil, List.length_cons, List.length_nil, decide_true, decide_false, Bool.not_true, Bool.not_false, true_and, and_true, ne_eq, not_true_eq_false, not_false_eq_true, forall_const, List.getElem?_cons_zero, List.getElem?_cons_succ]
    refine SW.seq ?_; refine SW.block ?_; refine SW.seq ?_; refine SW.row ?_; simp only [go_sem, Nat.reduceAdd, Nat.reduceEqDiff, Nat.reduceLeDiff, Nat.reduceMul, reduceIte, Nat.zero_ne_one, Nat.one_ne_zero, Nat.zero_add, Nat.add_zero, List.map_cons, List.map_nil, List.length_cons, List.length_nil, decide_true, decide_false, Bool.not_true, Bool.not_false, true_and, and_true, ne_eq, not_true_eq_false, not_false_eq_true, forall_const, List.getElem?_cons_zero, List.getElem?_cons_succ, idxc hv hx, store_nm hcell (show i < ((ms k xs i).map I).length by simp [ms_length k xs hi, hx])]
    refine SW.row ?_; simp only [go_sem, Nat.reduceAdd, Nat.reduceEqDiff, Nat.reduceLeDiff, Nat.reduceMul, reduceIte, Nat.zero_ne_one, Nat.one_ne_zero, Nat.zero_add, Nat.add_zero, List.map_cons, List.map_nil, List.length_cons, List.length_nil, decide_true, decide_false, Bool.not_true, Bool.not_false, true_and, and_true, ne_eq, not_true_eq_false, not_false_eq_true, forall_const, List.getElem?_cons_zero, List.getElem?_cons_succ, w64_id (show -9223372036854775808 ≤ k + (i : Int) + 1 by omega) (show k + (i : Int) + 1 ≤ 9223372036854775807 by omega)]
    refine SW.row ?_; simp only [go_sem, Nat.reduceAdd, Nat.reduceEqDiff, Nat.reduceLeDiff, Nat.reduceMul, reduceIte, Nat.zero_ne_one, Nat.one_ne_zero, Nat.zero_add, Nat.add_zero, List.map_cons, List.map_nil, List.length_cons, List.length_nil, decide_true, decide_false, Bool.not_true, Bool.not_false, true_and, and_true, ne_eq, not_true_eq_false, not_false_eq_true, forall_const, List.getElem?_cons_zero, List.getElem?_cons_succ, w64_id (show -9223372036854775808 ≤ (i : Int) + 1 by omega) (show (i : Int) + 1 ≤ 9223372036854775807 by omega)]
    refine SLoop.next (xs.length - (i + 1)) (by omega) ⟨i + 1, by omega, rfl, ?_, ?_⟩
    · simp only [go_sem, Nat.reduceAdd, Nat.reduceEqDiff, Nat.reduceLeDiff, Nat.reduceMul, reduceIte, Nat.zero_ne_one, Nat.one_ne_zero, Nat.zero_add, Nat.add_zero, List.map_cons, List.map_nil, List.length_cons, List.length_nil, decide_true, decide_false, Bool.not_true, Bool.not_false, true_and, and_true, ne_eq, not_true_eq_false, not_false_eq_true, forall_const, List.getElem?_cons_zero, List.getElem?_cons_succ]
      rw [Int.natCast_add, ← Int.add_assoc]; rfl
    · rw [List.set_set, ← List.map_set, ms_set k xs hx]
  · have hx : i = xs.length := by
      have : ¬ i < xs.length := by simpa using h
      omega
    subst hx
    refine SW.exit ?_; simp only [go_sem, Nat.reduceAdd, Nat.reduceEqDiff, Nat.reduceLeDiff, Nat.reduceMul, reduceIte, Nat.zero_ne_one, Nat.one_ne_zero, Nat.zero_add, Nat.add_zero, List.map_cons, List.map_nil, List.length_cons, List.length_nil, decide_true, decide_false, Bool.not_true, Bool.not_false, true_and, and_true, ne_eq, not_true_eq_false, not_false_eq_true, forall_const, List.getElem?_cons_zero, List.getElem?_cons_succ]
    refine SW.seq ?_; refine SW.row ?_; simp only [go_sem, Nat.reduceAdd, Nat.reduceEqDiff, Nat.reduceLeDiff, Nat.reduceMul, reduceIte, Nat.zero_ne_one, Nat.one_ne_zero, Nat.zero_add, Nat.add_zero, List.map_cons, List.map_nil, List.length_cons, List.length_nil, decide_true, decide_false, Bool.not_true, Bool.not_false, true_and, and_true, ne_eq, not_true_eq_false, not_false_eq_true, forall_const, List.getElem?_cons_zero, List.getElem?_cons_succ]
    refine SW.ret ?_; (try simp only [go_sem]); refine FunPost.one (GR.of ?_); (try simp only [go_sem, Nat.reduceAdd, Nat.reduceEqDiff, Nat.reduceLeDiff, Nat.reduceMul, reduceIte, Nat.zero_ne_one, Nat.one_ne_zero, Nat.zero_add, Nat.add_zero, List.map_cons, List.map_nil, List.length_cons, List.length_nil, decide_true, decide_false, Bool.not_true, Bool.not_false, true_and, and_true, ne_eq, not_true_eq_false, not_false_eq_true, forall_const, List.getElem?_cons_zero, List.getElem?_cons_succ])
    rw [ms_all]
theorem heldInt64S_ok (H : List Blk) (a : AV) (n : Nat) (k : Int) (ha : RdS H a ((List.range n).map (fun (j : Nat) => k + (j : Int)))) (hk0 : 0 ≤ k) (hk : k + n ≤ 4611686018427387904) :
    ACalls Tryz.prog f_laws_heldInt64S [a, I k] H (fun v H' => v = I (k + n) ∧ H' = H) := by
  refine ACalls.intro s_laws_heldInt64S (by simp) ?_
  have hl : ((List.range n).map (fun (j : Nat) => k + (j : Int))).length = n := by simp
  refine SW.seq ?_; refine SW.row ?_; simp only [go_sem, Nat.reduceAdd, Nat.reduceEqDiff, Nat.reduceLeDiff, Nat.reduceMul, reduceIte, Nat.zero_ne_one, Nat.one_ne_zero, Nat.zero_add, Nat.add_zero, List.map_cons, List.map_nil, List.length_cons, List.length_nil, decide_true, decide_false, Bool.not_true, Bool.not_false, true_and, and_true, ne_eq, not_true_eq_false, not_false_eq_true, forall_const, List.getElem?_cons_zero, List.getElem?_cons_succ]
  refine SW.seq ?_; refine SW.seq ?_; refine SW.row ?_; simp only [go_sem, Nat.reduceAdd, Nat.reduceEqDiff, Nat.reduceLeDiff, Nat.reduceMul, reduceIte, Nat.zero_ne_one, Nat.one_ne_zero, Nat.zero_add, Nat.add_zero, List.map_cons, List.map_nil, List.length_cons, List.length_nil, decide_true, decide_false, Bool.not_true, Bool.not_false, true_and, and_true, ne_eq, not_true_eq_false, not_false_eq_true, forall_const, List.getElem?_cons_zero, List.getElem?_cons_succ]
  refine SW.block ?_
  refine SW.loop (fun q E H' => ∃ i : Nat, i ≤ n ∧ q = n - i ∧ E = [(0, a), (1, I (k + i)), (5, I i)] ∧ H' = H) n ⟨0, by omega, by omega, by simp; rfl, rfl⟩ ?_
  rintro q E H' ⟨i, hi, rfl, rfl, rfl⟩
  refine SW.seq ?_; refine SW.seq ?_; refine SW.row ?_; simp only [go_sem, Nat.reduceAdd, Nat.reduceEqDiff, Nat.reduceLeDiff, Nat.reduceMul, reduceIte, Nat.zero_ne_one, Nat.one_ne_zero, Nat.zero_add, Nat.add_zero, List.map_cons, List.map_nil, List.length_cons, List.length_nil, decide_true, decide_false, Bool.not_true, Bool.not_false, true_and, and_true, ne_eq, not_true_eq_false, not_false_eq_true, forall_const, List.getElem?_cons_zero, List.getElem?_cons_succ, ha, hl]; (first | refine SW.cond rfl (fun h => ?_) (fun h => ?_) | (intro _; refine SW.cond rfl (fun h => ?_) (fun h => ?_)) | (intro _ _; refine SW.cond rfl (fun h => ?_) (fun h => ?_)))
  · have hx : i < n := by simpa using h
    have hx' : i < ((List.range n).map (fun (j : Nat) => k + (j : Int))).length := by rw [hl]; exact hx
    refine SW.skip ?_; simp only [go_sem, Nat.reduceAdd, Nat.reduceEqDiff, Nat.reduceLeDiff, Nat.reduceMul, reduceIte, Nat.zero_ne_one, Nat.one_ne_zero, Nat.zero_add, Nat.add_zero, List.map_cons, List.map_nil, List.length_cons, List.length_nil, decide_true, decide_false, Bool.not_true, Bool.not_false, true_and, and_true, ne_eq, not_true_eq_false, not_false_eq_true, forall_const, List.getElem?_cons_zero, List.getElem?_cons_succ]
    refine SW.seq ?_; refine SW.block ?_; refine SW.seq ?_; refine SW.seq ?_; refine SW.row ?_; simp only [go_sem, Nat.reduceAdd, Nat.reduceEqDiff, Nat.reduceLeDiff, Nat.reduceMul, reduceIte, Nat.zero_ne_one, Nat.one_ne_zero, Nat.zero_add, Nat.add_zero, List.map_cons, List.map_nil, List.length_cons, List.length_nil, decide_true, decide_false, Bool.not_true, Bool.not_false, true_and, and_true, ne_eq, not_true_eq_false, not_false_eq_true, forall_const, List.getElem?_cons_zero, List.getElem?_cons_succ, idx ha hx', ld ha hx', List.getElem_map, List.getElem_range]
    refine SW.cond rfl (fun h => ?_) (fun h => ?_)
    · simp at h
    refine SW.skip ?_; simp only [go_sem, Nat.reduceAdd, Nat.reduceEqDiff, Nat.reduceLeDiff, Nat.reduceMul, reduceIte, Nat.zero_ne_one, Nat.one_ne_zero, Nat.zero_add, Nat.add_zero, List.map_cons, List.map_nil, List.length_cons, List.length_nil, decide_true, decide_false, Bool.not_true, Bool.not_false, true_and, and_true, ne_eq, not_true_eq_false, not_false_eq_true, forall_const, List.getElem?_cons_zero, List.getElem?_cons_succ]
    refine SW.row ?_; simp only [go_sem, Nat.reduceAdd, Nat.reduceEqDiff, Nat.reduceLeDiff, Nat.reduceMul, reduceIte, Nat.zero_ne_one, Nat.one_ne_zero, Nat.zero_add, Nat.add_zero, List.map_cons, List.map_nil, List.length_cons, List.length_nil, decide_true, decide_false, Bool.not_true, Bool.not_false, true_and, and_true, ne_eq, not_true_eq_false, not_false_eq_true, forall_const, List.getElem?_cons_zero, List.getElem?_cons_succ, w64_id (show -9223372036854775808 ≤ k + (i : Int) + 1 by omega) (show k + (i : Int) + 1 ≤ 9223372036854775807 by omega)]
    refine SW.row ?_; simp only [go_sem, Nat.reduceAdd, Nat.reduceEqDiff, Nat.reduceLeDiff, Nat.reduceMul, reduceIte, Nat.zero_ne_one, Nat.one_ne_zero, Nat.zero_add, Nat.add_zero, List.map_cons, List.map_nil, List.length_cons, List.length_nil, decide_true, decide_false, Bool.not_true, Bool.not_false, true_and, and_true, ne_eq, not_true_eq_false, not_false_eq_true, forall_const, List.getElem?_cons_zero, List.getElem?_cons_succ, w64_id (show -9223372036854775808 ≤ (i : Int) + 1 by omega) (show (i : Int) + 1 ≤ 9223372036854775807 by omega)]
    refine SLoop.next (n - (i + 1)) (by omega) ⟨i + 1, by omega, rfl, ?_, rfl⟩
    · simp only [go_sem, Nat.reduceAdd, Nat.reduceEqDiff, Nat.reduceLeDiff, Nat.reduceMul, reduceIte, Nat.zero_ne_one, Nat.one_ne_zero, Nat.zero_add, Nat.add_zero, List.map_cons, List.map_nil, List.length_cons, List.length_nil, decide_true, decide_false, Bool.not_true, Bool.not_false, true_and, and_true, ne_eq, not_true_eq_false, not_false_eq_true, forall_const, List.getElem?_cons_zero, List.getElem?_cons_succ]
      rw [Int.natCast_add, ← Int.add_assoc]; rfl
  · have hx : i = n := by
      have : ¬ i < n := by simpa using h
      omega
    subst hx
    refine SW.exit ?_; simp only [go_sem, Nat.reduceAdd, Nat.reduceEqDiff, Nat.reduceLeDiff, Nat.reduceMul, reduceIte, Nat.zero_ne_one, Nat.one_ne_zero, Nat.zero_add, Nat.add_zero, List.map_cons, List.map_nil, List.length_cons, List.length_nil, decide_true, decide_false, Bool.not_true, Bool.not_false, true_and, and_true, ne_eq, not_true_eq_false, not_false_eq_true, forall_const, List.getElem?_cons_zero, List.getElem?_cons_succ]
    refine SW.seq ?_; refine SW.row ?_; simp only [go_sem, Nat.reduceAdd, Nat.reduceEqDiff, Nat.reduceLeDiff, Nat.reduceMul, reduceIte, Nat.zero_ne_one, Nat.one_ne_zero, Nat.zero_add, Nat.add_zero, List.map_cons, List.map_nil, List.length_cons, List.length_nil, decide_true, decide_false, Bool.not_true, Bool.not_false, true_and, and_true, ne_eq, not_true_eq_false, not_false_eq_true, forall_const, List.getElem?_cons_zero, List.getElem?_cons_succ]
    refine SW.ret ?_; (try simp only [go_sem]); refine FunPost.one (GR.of ?_); (try simp only [go_sem, Nat.reduceAdd, Nat.reduceEqDiff, Nat.reduceLeDiff, Nat.reduceMul, reduceIte, Nat.zero_ne_one, Nat.one_ne_zero, Nat.zero_add, Nat.add_zero, List.map_cons, List.map_nil, List.length_cons, List.length_nil, decide_true, decide_false, Bool.not_true, Bool.not_false, true_and, and_true, ne_eq, not_true_eq_false, not_false_eq_true, forall_const, List.getElem?_cons_zero, List.getElem?_cons_succ])
end Go.Proofs.YtmdeibdplpodpaaGreat
namespace Go.Proofs.YtmdeibdplpodpaaGreat
open Go.Av
def OwnS (H : List Blk) (N : Nat → Prop) (t : Nat) (c : AV) (xs : List Int) : Prop :=
  (∃ r ver ty, c = .nm r ver 0 xs.length ∧ N r ∧ r ≠ t ∧ H[r]? = some ⟨ver, ty, 1, xs.map I⟩) ∨ (xs = [] ∧ (c = nilS ∨ c = .il 0 []))
def Fr (b : Nat) : Nat → Prop := fun r => b ≤ r
def Btw (b t : Nat) : Nat → Prop := fun r => b ≤ r ∧ r < t
def OwnC (H : List Blk) (N : Nat → Prop) (t ver ty : Nat) (cells : List AV) (xss : List (List Int)) : Prop :=
  N t ∧ H[t]? = some ⟨ver, ty, 1, cells⟩ ∧ cells.length = xss.length ∧ (∀ (j : Nat) (c : AV) (xs : List Int), cells[j]? = some c → xss[j]? = some xs → OwnS H N t c xs) ∧
  (∀ (i j r v o l v' o' l' : Nat), i ≠ j → cells[i]? = some (.nm r v o l) → cells[j]? ≠ some (.nm r v' o' l'))
def OwnSS (H : List Blk) (N : Nat → Prop) (a : AV) (xss : List (List Int)) : Prop := (∃ t ver ty cells, a = .nm t ver 0 xss.length ∧ OwnC H N t ver ty cells xss) ∨ (xss = [] ∧ (a = nilS ∨ a = .il 0 []))
theorem OwnS.rd {H : List Blk} {N : Nat → Prop} {t : Nat} {c : AV} {xs : List Int} (h : OwnS H N t c xs) : RdS H c xs := by
  rcases h with ⟨r, ver, ty, rfl, _, _, h3⟩ | ⟨rfl, rfl | rfl⟩
  · exact view_nm h3 (by simp)
  · rfl
  · rfl
theorem OwnC.rd {H : List Blk} {N : Nat → Prop} {t ver ty : Nat} {cells : List AV} {xss : List (List Int)} (h : OwnC H N t ver ty cells xss) : RdSS H (.nm t ver 0 xss.length) xss :=
  ⟨cells, view_nm h.2.1 h.2.2.1, h.2.2.1, fun j c xs g1 g2 => (h.2.2.2.1 j c xs g1 g2).rd⟩
theorem OwnSS.rd {H : List Blk} {N : Nat → Prop} {a : AV} {xss : List (List Int)} (h : OwnSS H N a xss) : RdSS H a xss := by
  rcases h with ⟨t, ver, ty, cells, rfl, h⟩ | ⟨rfl, rfl | rfl⟩
  · exact h.rd
  · exact ⟨[], rfl, rfl, fun j c xs h => by simp at h⟩
  · exact ⟨[], rfl, rfl, fun j c xs h => by simp at h⟩
theorem OwnC.append {H : List Blk} {N : Nat → Prop} {t ver ty : Nat} {cells : List AV} {xss : List (List Int)} (h : OwnC H N t ver ty cells xss) (ext : List Blk) : OwnC (H ++ ext) N t ver ty cells xss := by
  obtain ⟨h1, h2, h3, h4, h5⟩ := h
  have ap : ∀ {r : Nat} {b : Blk}, H[r]? = some b → (H ++ ext)[r]? = some b := by
    intro r b hr
    rw [List.getElem?_append_left (List.getElem?_eq_some_iff.1 hr).1]; exact hr
  refine ⟨h1, ap h2, h3, fun j c xs g1 g2 => ?_, h5⟩
  rcases h4 j c xs g1 g2 with ⟨r, v, ty', hc, o1, o2, o3⟩ | h
  · exact .inl ⟨r, v, ty', hc, o1, o2, ap o3⟩
  · exact .inr h
theorem OwnSS.append {H : List Blk} {N : Nat → Prop} {a : AV} {xss : List (List Int)} (h : OwnSS H N a xss) (ext : List Blk) : OwnSS (H ++ ext) N a xss := by
  rcases h with ⟨t, ver, ty, cells, ha, h⟩ | h
  · exact .inl ⟨t, ver, ty, cells, ha, h.append ext⟩
  · exact .inr h
def numbered (k : Int) : List (List Int) → List (List Int)
  | [] => []
  | xs :: r => (List.range xs.length).map (fun (q : Nat) => k + (q : Int)) :: numbered (k + xs.length) r
theorem markInt64S_nil (H : List Blk) (c : AV) (k : Int) (hc : aview H c = some (0, [])) :
    ACalls Tryz.prog f_laws_markInt64S [c, I k] H (fun v H' => v = I k ∧ H' = H) := by
  refine ACalls.intro s_laws_markInt64S (by simp) ?_
  refine SW.seq ?_; refine SW.row ?_; simp only [go_sem, Nat.reduceAdd, Nat.reduceEqDiff, Nat.reduceLeDiff, Nat.reduceMul, reduceIte, Nat.zero_ne_one, Nat.one_ne_zero, Nat.zero_add, Nat.add_zero, List.map_cons, List.map_nil, List.length_cons, List.length_nil, decide_true, decide_false, Bool.not_true, Bool.not_false, true_and, and_true, ne_eq, not_true_eq_false, not_false_eq_true, forall_const, List.getElem?_cons_zero, List.getElem?_cons_succ]
  refine SW.seq ?_; refine SW.seq ?_; refine SW.row ?_; simp only [go_sem, Nat.reduceAdd, Nat.reduceEqDiff, Nat.reduceLeDiff, Nat.reduceMul, reduceIte, Nat.zero_ne_one, Nat.one_ne_zero, Nat.zero_add, Nat.add_zero, List.map_cons, List.map_nil, List.length_cons, List.length_nil, decide_true, decide_false, Bool.not_true, Bool.not_false, true_and, and_true, ne_eq, not_true_eq_false, not_false_eq_true, forall_const, List.getElem?_cons_zero, List.getElem?_cons_succ]
  refine SW.block ?_
  refine SW.loop (fun q E H' => q = 0 ∧ E = [(0, c), (1, I k), (5, I 0)] ∧ H' = H) 0 ⟨rfl, rfl, rfl⟩ ?_
  rintro q E H' ⟨rfl, rfl, rfl⟩
  refine SW.seq ?_; refine SW.seq ?_; refine SW.row ?_; simp only [go_sem, Nat.reduceAdd, Nat.reduceEqDiff, Nat.reduceLeDiff, Nat.reduceMul, reduceIte, Nat.zero_ne_one, Nat.one_ne_zero, Nat.zero_add, Nat.add_zero, List.map_cons, List.map_nil, List.length_cons, List.length_nil, decide_true, decide_false, Bool.not_true, Bool.not_false, true_and, and_true, ne_eq, not_true_eq_false, not_false_eq_true, forall_const, List.getElem?_cons_zero, List.getElem?_cons_succ, hc]; (first | refine SW.cond rfl (fun h => ?_) (fun h => ?_) | (intro _; refine SW.cond rfl (fun h => ?_) (fun h => ?_)) | (intro _ _; refine SW.cond rfl (fun h => ?_) (fun h => ?_)))
  · simp at h
  · refine SW.exit ?_; simp only [go_sem, Nat.reduceAdd, Nat.reduceEqDiff, Nat.reduceLeDiff, Nat.reduceMul, reduceIte, Nat.zero_ne_one, Nat.one_ne_zero, Nat.zero_add, Nat.add_zero, List.map_cons, List.map_nil, List.length_cons, List.length_nil, decide_true, decide_false, Bool.not_true, Bool.not_false, true_and, and_true, ne_eq, not_true_eq_false, not_false_eq_true, forall_const, List.getElem?_cons_zero, List.getElem?_cons_succ]
    refine SW.seq ?_; refine SW.row ?_; simp only [go_sem, Nat.reduceAdd, Nat.reduceEqDiff, Nat.reduceLeDiff, Nat.reduceMul, reduceIte, Nat.zero_ne_one, Nat.one_ne_zero, Nat.zero_add, Nat.add_zero, List.map_cons, List.map_nil, List.length_cons, List.length_nil, decide_true, decide_false, Bool.not_true, Bool.not_false, true_and, and_true, ne_eq, not_true_eq_false, not_false_eq_true, forall_const, List.getElem?_cons_zero, List.getElem?_cons_succ]
    refine SW.ret ?_; (try simp only [go_sem]); refine FunPost.one (GR.of ?_); (try simp only [go_sem, Nat.reduceAdd, Nat.reduceEqDiff, Nat.reduceLeDiff, Nat.reduceMul, reduceIte, Nat.zero_ne_one, Nat.one_ne_zero, Nat.zero_add, Nat.add_zero, List.map_cons, List.map_nil, List.length_cons, List.length_nil, decide_true, decide_false, Bool.not_true, Bool.not_false, true_and, and_true, ne_eq, not_true_eq_false, not_false_eq_true, forall_const, List.getElem?_cons_zero, List.getElem?_cons_succ])
theorem OwnC.set {H : List Blk} {N : Nat → Prop} {t ver ty : Nat} {cells : List AV} {xss yss : List (List Int)} (h : OwnC H N t ver ty cells xss) {i r v ty' : Nat} {xs ys : List Int} (hi : cells[i]? = some (.nm r v 0 xs.length)) (hx : xss[i]? = some xs) (hr : H[r]? = some ⟨v, ty', 1, xs.map I⟩)
    (hl : ys.length = xs.length) (hy : yss[i]? = some ys) (hyl : yss.length = xss.length) (hyo : ∀ j, j ≠ i → yss[j]? = xss[j]?) (hrt : r ≠ t) : OwnC (H.set r ⟨v, ty', 1, ys.map I⟩) N t ver ty cells yss := by
  obtain ⟨h1, h2, h3, h4, h5⟩ := h
  have hlt := (List.getElem?_eq_some_iff.1 hr).1
  refine ⟨h1, by rw [List.getElem?_set_ne hrt]; exact h2, by rw [h3, hyl], fun j c zs g1 g2 => ?_, h5⟩
  by_cases hji : j = i
  · subst hji
    rw [hi] at g1; cases g1
    rw [hy] at g2; cases g2
    rcases h4 j _ _ hi hx with ⟨r', v', ty2, hc, o1, o2, o3⟩ | ⟨_, hc | hc⟩
    · simp only [AV.nm.injEq] at hc
      obtain ⟨rfl, rfl, _⟩ := hc
      exact .inl ⟨r, v, ty', by rw [hl], o1, o2, List.getElem?_set_self hlt⟩
    · simp [nilS] at hc
    · simp at hc
  · rw [hyo j hji] at g2
    rcases h4 j c zs g1 g2 with ⟨r', v', ty2, hc, o1, o2, o3⟩ | h
    · refine .inl ⟨r', v', ty2, hc, o1, o2, ?_⟩
      have : r ≠ r' := by
        rintro rfl
        rw [hc] at g1
        exact h5 i j r v 0 xs.length v' 0 zs.length (Ne.symm hji) hi g1
      rw [List.getElem?_set_ne this]; exact o3
    · exact .inr h
def ilS (xs : List Int) : AV := .il xs.length (xs.map I)
def ilSS (xss : List (List Int)) : AV := .il xss.length (xss.map ilS)
theorem froz_I (H : List Blk) (base : Nat) (n : Int) : Froz H base (I n) (I n) := .old _ (.lit _)
theorem froz_row {H : List Blk} {base r ver ty : Nat} {xs : List Int} (hb : base ≤ r) (hr : H[r]? = some ⟨ver, ty, 1, xs.map I⟩) : Froz H base (.nm r ver 0 xs.length) (ilS xs) := by
  have hc : ((xs.map I).drop 0).take (xs.length * 1) = xs.map I := by rw [List.drop_zero, Nat.mul_one]; apply List.take_of_length_le; simp
  refine .nm r ver 0 xs.length _ _ hb hr rfl (by simp only [hc]) ?_
  intro j c c' h1 h2
  simp only [hc] at h1
  rw [h1] at h2; cases h2
  rw [List.getElem?_map] at h1
  cases hx : xs[j]? with
  | none => rw [hx] at h1; simp at h1
  | some x => rw [hx] at h1; simp at h1; rw [← h1]; exact froz_I _ _ _
theorem OwnS.froz {H : List Blk} {N : Nat → Prop} {base t : Nat} {c : AV} {xs : List Int} (h : OwnS H N t c xs) (hN : ∀ r, N r → base ≤ r) : Froz H base c (ilS xs) := by
  rcases h with ⟨r, ver, ty, rfl, h1, _, h3⟩ | ⟨rfl, rfl | rfl⟩
  · exact froz_row (hN _ h1) h3
  · exact .nil
  · exact .old _ (.il _ _ (fun c h => by simp at h))
theorem OwnSS.froz {H : List Blk} {N : Nat → Prop} {base : Nat} {a : AV} {xss : List (List Int)} (h : OwnSS H N a xss) (hN : ∀ r, N r → base ≤ r) : Froz H base a (ilSS xss) := by
  rcases h with ⟨t, ver, ty, cells, rfl, h1, h2, h3, h4, _⟩ | ⟨rfl, rfl | rfl⟩
  · have hc : (cells.drop 0).take (xss.length * 1) = cells := by rw [List.drop_zero, Nat.mul_one]; apply List.take_of_length_le; omega
    refine .nm t ver 0 xss.length _ _ (hN _ h1) h2 rfl (by simp only [hc, List.length_map]; exact h3.symm) ?_
    intro j c c' g1 g2
    simp only [hc] at g1
    rw [List.getElem?_map] at g2
    cases hx : xss[j]? with
    | none => rw [hx] at g2; simp at g2
    | some xs => rw [hx] at g2; simp at g2; rw [← g2]; exact (h4 j c xs g1 hx).froz hN
  · exact .nil
  · exact .old _ (.il _ _ (fun c h => by simp at h))
theorem rd_ilS (H : List Blk) (xs : List Int) : RdS H (ilS xs) xs := rfl
end Go.Proofs.YtmdeibdplpodpaaGreat
namespace Go.Proofs.YtmdeibdplpodpaaGreat
open Go.Av
abbrev f_spec_l00In : Nat := 41
def c_spec_l00In : SC :=
 .seq (.reg [
     ⟨(some 6), .mv (.const (.bool false)), none⟩] [0, 1, 2])
 (.seq (.reg [
     ⟨(some 7), .mv (.tmp 0), none⟩,
     ⟨(some 8), .mv (.tmp 1), none⟩,
     ⟨(some 9), .bin .geq (.tmp 7) (.tmp 8), none⟩,
     ⟨(some 10), .mv (.tmp 9), none⟩,
     ⟨(some 11), .mv (.tmp 0), (some (10, true))⟩,
     ⟨(some 12), .mv (.tmp 2), (some (10, true))⟩,
     ⟨(some 13), .bin .leq (.tmp 11) (.tmp 12), (some (10, true))⟩,
     ⟨(some 14), .pick (.tmp 10) (.tmp 13) (.const (.bool false)), none⟩,
     ⟨(some 6), .mv (.tmp 14), none⟩] [6])
 (.ret))
theorem s_spec_l00In : stripF Tryz.prog 41 [[0, 1, 2], [6]] = some (c_spec_l00In, [.tmp 6], 15) := by kernel_rfl
abbrev f_impl_within : Nat := 46
def c_impl_within : SC :=
 .seq (.reg [
     ⟨(some 6), .mv (.const (.bool false)), none⟩] [0, 1, 2])
 (.seq (.reg [
     ⟨(some 7), .mv (.tmp 0), none⟩,
     ⟨(some 8), .mv (.tmp 1), none⟩,
     ⟨(some 9), .bin .geq (.tmp 7) (.tmp 8), none⟩,
     ⟨(some 10), .mv (.tmp 9), none⟩,
     ⟨(some 11), .mv (.tmp 0), (some (10, true))⟩,
     ⟨(some 12), .mv (.tmp 2), (some (10, true))⟩,
     ⟨(some 13), .bin .leq (.tmp 11) (.tmp 12), (some (10, true))⟩,
     ⟨(some 14), .pick (.tmp 10) (.tmp 13) (.const (.bool false)), none⟩,
     ⟨(some 6), .mv (.tmp 14), none⟩] [6])
 (.ret))
theorem s_impl_within : stripF Tryz.prog 46 [[0, 1, 2], [6]] = some (c_impl_within, [.tmp 6], 15) := by kernel_rfl
theorem within_ok (H : List Blk) (n lo hi : Int) : ACalls Tryz.prog f_impl_within [I n, I lo, I hi] H (fun r H' => r = Bv (decide (lo ≤ n) && decide (n ≤ hi)) ∧ H' = H) := by
  refine ACalls.intro s_impl_within (by simp) ?_
  refine SW.seq ?_; refine SW.row ?_; simp only [go_sem, Nat.reduceAdd, Nat.reduceEqDiff, Nat.reduceLeDiff, Nat.reduceMul, reduceIte, Nat.zero_ne_one, Nat.one_ne_zero, Nat.zero_add, Nat.add_zero, List.map_cons, List.map_nil, List.length_cons, List.length_nil, decide_true, decide_false, Bool.not_true, Bool.not_false, true_and, and_true, ne_eq, not_true_eq_false, not_false_eq_true, forall_const, List.getElem?_cons_zero, List.getElem?_cons_succ]
  refine SW.seq ?_; refine SW.row ?_; simp only [go_sem, Nat.reduceAdd, Nat.reduceEqDiff, Nat.reduceLeDiff, Nat.reduceMul, reduceIte, Nat.zero_ne_one, Nat.one_ne_zero, Nat.zero_add, Nat.add_zero, List.map_cons, List.map_nil, List.length_cons, List.length_nil, decide_true, decide_false, Bool.not_true, Bool.not_false, true_and, and_true, ne_eq, not_true_eq_false, not_false_eq_true, forall_const, List.getElem?_cons_zero, List.getElem?_cons_succ]
  refine ⟨fun h => ?_, fun h => ?_⟩
  · refine SW.ret ?_; (try simp only [go_sem]); refine FunPost.one (GR.of ?_); (try simp only [go_sem, Nat.reduceAdd, Nat.reduceEqDiff, Nat.reduceLeDiff, Nat.reduceMul, reduceIte, Nat.zero_ne_one, Nat.one_ne_zero, Nat.zero_add, Nat.add_zero, List.map_cons, List.map_nil, List.length_cons, List.length_nil, decide_true, decide_false, Bool.not_true, Bool.not_false, true_and, and_true, ne_eq, not_true_eq_false, not_false_eq_true, forall_const, List.getElem?_cons_zero, List.getElem?_cons_succ])
    rw [h]; simp [PickW]
  · refine SW.ret ?_; (try simp only [go_sem]); refine FunPost.one (GR.of ?_); (try simp only [go_sem, Nat.reduceAdd, Nat.reduceEqDiff, Nat.reduceLeDiff, Nat.reduceMul, reduceIte, Nat.zero_ne_one, Nat.one_ne_zero, Nat.zero_add, Nat.add_zero, List.map_cons, List.map_nil, List.length_cons, List.length_nil, decide_true, decide_false, Bool.not_true, Bool.not_false, true_and, and_true, ne_eq, not_true_eq_false, not_false_eq_true, forall_const, List.getElem?_cons_zero, List.getElem?_cons_succ])
    rw [h]; simp [PickW]
theorem l00In_ok (H : List Blk) (n lo hi : Int) : ACalls Tryz.prog f_spec_l00In [I n, I lo, I hi] H (fun r H' => r = Bv (decide (lo ≤ n) && decide (n ≤ hi)) ∧ H' = H) := by
  refine ACalls.intro s_spec_l00In (by simp) ?_
  refine SW.seq ?_; refine SW.row ?_; simp only [go_sem, Nat.reduceAdd, Nat.reduceEqDiff, Nat.reduceLeDiff, Nat.reduceMul, reduceIte, Nat.zero_ne_one, Nat.one_ne_zero, Nat.zero_add, Nat.add_zero, List.map_cons, List.map_nil, List.length_cons, List.length_nil, decide_true, decide_false, Bool.not_true, Bool.not_false, true_and, and_true, ne_eq, not_true_eq_false, not_false_eq_true, forall_const, List.getElem?_cons_zero, List.getElem?_cons_succ]
  refine SW.seq ?_; refine SW.row ?_; simp only [go_sem, Nat.reduceAdd, Nat.reduceEqDiff, Nat.reduceLeDiff, Nat.reduceMul, reduceIte, Nat.zero_ne_one, Nat.one_ne_zero, Nat.zero_add, Nat.add_zero, List.map_cons, List.map_nil, List.length_cons, List.length_nil, decide_true, decide_false, Bool.not_true, Bool.not_false, true_and, and_true, ne_eq, not_true_eq_false, not_false_eq_true, forall_const, List.getElem?_cons_zero, List.getElem?_cons_succ]
  refine ⟨fun h => ?_, fun h => ?_⟩
  · refine SW.ret ?_; (try simp only [go_sem]); refine FunPost.one (GR.of ?_); (try simp only [go_sem, Nat.reduceAdd, Nat.reduceEqDiff, Nat.reduceLeDiff, Nat.reduceMul, reduceIte, Nat.zero_ne_one, Nat.one_ne_zero, Nat.zero_add, Nat.add_zero, List.map_cons, List.map_nil, List.length_cons, List.length_nil, decide_true, decide_false, Bool.not_true, Bool.not_false, true_and, and_true, ne_eq, not_true_eq_false, not_false_eq_true, forall_const, List.getElem?_cons_zero, List.getElem?_cons_succ])
    rw [h]; simp
  · refine SW.ret ?_; (try simp only [go_sem]); refine FunPost.one (GR.of ?_); (try simp only [go_sem, Nat.reduceAdd, Nat.reduceEqDiff, Nat.reduceLeDiff, Nat.reduceMul, reduceIte, Nat.zero_ne_one, Nat.one_ne_zero, Nat.zero_add, Nat.add_zero, List.map_cons, List.map_nil, List.length_cons, List.length_nil, decide_true, decide_false, Bool.not_true, Bool.not_false, true_and, and_true, ne_eq, not_true_eq_false, not_false_eq_true, forall_const, List.getElem?_cons_zero, List.getElem?_cons_succ])
    rw [h]; simp
def GrowSS (H : List Blk) (base ty : Nat) (v : AV) (xss : List (List Int)) : Prop :=
  (v = nilS ∧ xss = []) ∨ ∃ t ver cells, v = .nm t ver 0 xss.length ∧ OwnC H (Fr base) t ver ty cells xss
theorem OwnS.weak {H : List Blk} {N N' : Nat → Prop} {t : Nat} {c : AV} {xs : List Int} (h : OwnS H N t c xs) (hN : ∀ r, N r → r < H.length → N' r) : OwnS H N' t c xs := by
  rcases h with ⟨r, ver, ty, hc, h1, h2, h3⟩ | h
  · exact .inl ⟨r, ver, ty, hc, hN r h1 (List.getElem?_eq_some_iff.1 h3).1, h2, h3⟩
  · exact .inr h
theorem OwnC.weak {H : List Blk} {N N' : Nat → Prop} {t ver ty : Nat} {cells : List AV} {xss : List (List Int)} (h : OwnC H N t ver ty cells xss) (hN : ∀ r, N r → r < H.length → N' r) : OwnC H N' t ver ty cells xss := by
  obtain ⟨h1, h2, h3, h4, h5⟩ := h
  exact ⟨hN t h1 (List.getElem?_eq_some_iff.1 h2).1, h2, h3, fun j c xs g1 g2 => (h4 j c xs g1 g2).weak hN, h5⟩
theorem OwnSS.weak {H : List Blk} {N N' : Nat → Prop} {a : AV} {xss : List (List Int)} (h : OwnSS H N a xss) (hN : ∀ r, N r → r < H.length → N' r) : OwnSS H N' a xss := by
  rcases h with ⟨t, ver, ty, cells, ha, h⟩ | h
  · exact .inl ⟨t, ver, ty, cells, ha, h.weak hN⟩
  · exact .inr h
theorem GrowSS.own {H : List Blk} {base ty : Nat} {v : AV} {xss : List (List Int)} (h : GrowSS H base ty v xss) {b : Nat} (hb : b ≤ base) : OwnSS H (Btw b H.length) v xss := by
  rcases h with ⟨rfl, rfl⟩ | ⟨t, ver, cells, rfl, h⟩
  · exact .inr ⟨rfl, .inl rfl⟩
  · exact .inl ⟨t, ver, ty, cells, rfl, h.weak (fun r h1 h2 => ⟨by unfold Fr at h1; omega, h2⟩)⟩
theorem GrowSS.cell1 {H : List Blk} {base ty : Nat} {v : AV} {xss : List (List Int)} (h : GrowSS H base ty v xss) : v.cell1 = true := by
  rcases h with ⟨rfl, rfl⟩ | ⟨t, ver, cells, rfl, h⟩ <;> rfl
theorem GrowSS.parts {H : List Blk} {base ty : Nat} {v : AV} {xss : List (List Int)} (h : GrowSS H base ty v xss) : partsOf v = [v] := by
  rcases h with ⟨rfl, rfl⟩ | ⟨t, ver, cells, rfl, h⟩ <;> rfl
theorem OwnS.same {H H' : List Blk} {N : Nat → Prop} {t : Nat} {c : AV} {xs : List Int} (h : OwnS H N t c xs) (hs : ∀ j b, N j → j ≠ t → H[j]? = some b → H'[j]? = some b) : OwnS H' N t c xs := by
  rcases h with ⟨r, ver, ty, hc, h1, h2, h3⟩ | h
  · exact .inl ⟨r, ver, ty, hc, h1, h2, hs r _ h1 h2 h3⟩
  · exact .inr h
theorem GrowSS.same {H H' : List Blk} {base ty : Nat} {v : AV} {xss : List (List Int)} (h : GrowSS H base ty v xss) (hs : ∀ j b, base ≤ j → H[j]? = some b → H'[j]? = some b) : GrowSS H' base ty v xss := by
  rcases h with h | ⟨t, ver, cells, rfl, h1, h2, h3, h4, h5⟩
  · exact .inl h
  · exact .inr ⟨t, ver, cells, rfl, h1, hs t _ h1 h2, h3, fun j c xs g1 g2 => (h4 j c xs g1 g2).same (fun j b q _ => hs j b q), h5⟩
theorem OwnC.nm_lt {H : List Blk} {N : Nat → Prop} {t ver ty : Nat} {cells : List AV} {xss : List (List Int)} (h : OwnC H N t ver ty cells xss) {j r v o l : Nat} (hj : cells[j]? = some (.nm r v o l)) : r < H.length := by
  obtain ⟨h1, h2, h3, h4, h5⟩ := h
  have hlt := (List.getElem?_eq_some_iff.1 hj).1
  rcases h4 j _ _ hj (List.getElem?_eq_getElem (by omega)) with ⟨r', v', ty', hc, _, _, o3⟩ | ⟨_, hc | hc⟩
  · simp only [AV.nm.injEq] at hc
    rw [hc.1]; exact (List.getElem?_eq_some_iff.1 o3).1
  · simp [nilS] at hc
  · simp at hc
theorem OwnC.same {H H' : List Blk} {N : Nat → Prop} {t ver ty : Nat} {cells : List AV} {xss : List (List Int)} (h : OwnC H N t ver ty cells xss) (hs : ∀ j b, N j → H[j]? = some b → H'[j]? = some b) : OwnC H' N t ver ty cells xss := by
  obtain ⟨h1, h2, h3, h4, h5⟩ := h
  exact ⟨h1, hs t _ h1 h2, h3, fun j c xs g1 g2 => (h4 j c xs g1 g2).same (fun j b q _ => hs j b q), h5⟩
theorem OwnSS.same {H H' : List Blk} {N : Nat → Prop} {a : AV} {xss : List (List Int)} (h : OwnSS H N a xss) (hs : ∀ j b, N j → H[j]? = some b → H'[j]? = some b) : OwnSS H' N a xss := by
  rcases h with ⟨t, ver, ty, cells, ha, h⟩ | h
  · exact .inl ⟨t, ver, ty, cells, ha, h.same hs⟩
  · exact .inr h
theorem GrowSS.app {H : List Blk} {base ty rty : Nat} {v : AV} {xss : List (List Int)} {xs : List Int} (h : GrowSS H base ty v xss) (hb : base ≤ H.length) (hl : (xss.length + 1) * 24 ≤ 140737488355328)
    {K : AV → List Blk → Prop} (hk : ∀ v' H', GrowSS H' base ty v' (xss ++ [xs]) → H.length ≤ H'.length → (∀ j, j < base → H'[j]? = H[j]?) → K v' H') :
    swpApp ty 1 24 (H ++ [⟨0, rty, 1, xs.map I⟩, ⟨0, ty, 1, [.nm H.length 0 0 xs.length]⟩]) v (.nm (H.length + 1) 0 0 1) K := by
  have hrow : ∀ H' : List Blk, H'[H.length]? = some ⟨0, rty, 1, xs.map I⟩ → ∀ t, t ≠ H.length → OwnS H' (Fr base) t (.nm H.length 0 0 xs.length) xs := fun H' h t ht => .inl ⟨H.length, 0, rty, rfl, hb, fun e => ht e.symm, h⟩
  rcases h with ⟨rfl, rfl⟩ | ⟨t, ver, cells, rfl, hc⟩
  · simp only [swpApp, aview, hget, nilS]
    simp only [List.getElem?_cons_succ, List.getElem?_cons_zero, if_true, List.drop_zero]
    refine ⟨rfl, by simp [AV.cell1], by omega, by omega, hk _ _ (.inr ⟨H.length + 2, 1, [.nm H.length 0 0 xs.length], by simp, ?_⟩) (by simp) (fun j hj => ?_)⟩
    · refine ⟨show base ≤ H.length + 2 by omega, ?_, rfl, ?_, ?_⟩
      · simp
      · intro j c ys g1 g2
        cases j with
        | zero => simp at g1 g2; subst g1; subst g2; exact hrow _ (by simp) _ (by omega)
        | succ j => simp at g1
      · intro i j r v o l v' o' l' hij g1 g2
        cases i <;> cases j <;> simp at g1 g2 hij
    · rw [List.append_assoc, List.getElem?_append_left (by omega)]
  · obtain ⟨h1, h2, h3, h4, h5⟩ := id hc
    have htl := (List.getElem?_eq_some_iff.1 h2).1
    have h1' : base ≤ t := h1
    simp only [swpApp, aview, hget]
    simp only [List.getElem?_cons_succ, List.getElem?_cons_zero, if_true, List.drop_zero, List.getElem?_append_left htl, h2]
    refine ⟨rfl, by simp [AV.cell1], trivial, trivial, trivial, by omega, by omega, by omega, hk _ _ (.inr ⟨t, ver + 1, cells ++ [.nm H.length 0 0 xs.length], by simp, ?_⟩) (by simp) (fun j hj => ?_)⟩
    · refine ⟨h1, ?_, by simp [h3], ?_, ?_⟩
      · rw [List.getElem?_set_self (by simp; omega)]
        simp [← h3]
      · intro j c ys g1 g2
        by_cases hj : j < cells.length
        · rw [List.getElem?_append_left hj] at g1
          rw [List.getElem?_append_left (by omega)] at g2
          refine (h4 j c ys g1 g2).same ?_
          intro q b q1 q2 q3
          rw [List.getElem?_set_ne (Ne.symm q2), List.getElem?_append_left (List.getElem?_eq_some_iff.1 q3).1]; exact q3
        · rw [List.getElem?_append_right (by omega)] at g1 g2
          have hj' : j = cells.length := by
            have := (List.getElem?_eq_some_iff.1 g1).1
            simp at this; omega
          subst hj'
          rw [Nat.sub_self] at g1
          rw [h3, Nat.sub_self] at g2
          simp at g1 g2; subst g1; subst g2
          refine hrow _ ?_ _ (by omega)
          rw [List.getElem?_set_ne (by omega)]; simp
      · intro i j r v o l v' o' l' hij g1 g2
        by_cases hi : i < cells.length
        · rw [List.getElem?_append_left hi] at g1
          have hr := hc.nm_lt g1
          by_cases hj : j < cells.length
          · rw [List.getElem?_append_left hj] at g2
            exact h5 i j r v o l v' o' l' hij g1 g2
          · rw [List.getElem?_append_right (by omega)] at g2
            have hj' : j = cells.length := by
              have := (List.getElem?_eq_some_iff.1 g2).1
              simp at this; omega
            subst hj'
            simp at g2
            omega
        · rw [List.getElem?_append_right (by omega)] at g1
          have hi' : i = cells.length := by
            have := (List.getElem?_eq_some_iff.1 g1).1
            simp at this; omega
          subst hi'
          simp at g1
          by_cases hj : j < cells.length
          · rw [List.getElem?_append_left hj] at g2
            have hr := hc.nm_lt g2
            omega
          · rw [List.getElem?_append_right (by omega)] at g2
            have := (List.getElem?_eq_some_iff.1 g2).1
            simp at this; omega
    · rw [List.getElem?_set_ne (by omega), List.getElem?_append_left (by omega)]
end Go.Proofs.YtmdeibdplpodpaaGreat
namespace Go.Proofs.YtmdeibdplpodpaaGreat
open Go.Av
theorem prefix_of {H H' : List Blk} (hl : H.length ≤ H'.length) (h : ∀ j, j < H.length → H'[j]? = H[j]?) : ∃ ext, H' = H ++ ext := by
  refine ⟨H'.drop H.length, ?_⟩
  have : H'.take H.length = H := by
    apply List.ext_getElem?
    intro j
    by_cases hj : j < H.length
    · rw [List.getElem?_take_of_lt hj, h j hj]
    · rw [List.getElem?_eq_none (by simp; omega), List.getElem?_eq_none (by omega)]
  rw [← this, List.length_take, Nat.min_eq_left (by omega), List.take_append_drop]
end Go.Proofs.YtmdeibdplpodpaaGreat
namespace Go.Proofs.YtmdeibdplpodpaaGreat
open Go.Av
def nmsB : Nat → List (List Int) → List AV
  | _, [] => []
  | k, xs :: r => .nm k 0 0 xs.length :: nmsB (k + 1) r
def rowsB (xss : List (List Int)) : List Blk := xss.map fun xs => ⟨0, 2, 1, xs.map I⟩
theorem nmsB_length (k : Nat) (xss : List (List Int)) : (nmsB k xss).length = xss.length := by
  induction xss generalizing k with
  | nil => rfl
  | cons xs r ih => simp [nmsB, ih]
theorem nmsB_get (k : Nat) (xss : List (List Int)) (j : Nat) : (nmsB k xss)[j]? = xss[j]?.map fun xs => .nm (k + j) 0 0 xs.length := by
  induction xss generalizing k j with
  | nil => simp [nmsB]
  | cons ys r ih =>
    cases j with
    | zero => simp [nmsB]
    | succ j => simp only [nmsB, List.getElem?_cons_succ, ih]; rw [show k + 1 + j = k + (j + 1) by omega]
theorem OwnC.names {H : List Blk} {ext : List Blk} {ver ty : Nat} (xss : List (List Int)) : OwnC (H ++ ⟨ver, ty, 1, nmsB (H.length + 1) xss⟩ :: (rowsB xss ++ ext)) (Btw H.length (H.length + 1 + xss.length)) H.length ver ty (nmsB (H.length + 1) xss) xss := by
  refine ⟨⟨by omega, by omega⟩, by simp, nmsB_length _ _, ?_, ?_⟩
  · intro j c xs h1 h2
    rw [nmsB_get, h2] at h1
    simp only [Option.map_some, Option.some.injEq] at h1
    subst h1
    have hlt := (List.getElem?_eq_some_iff.1 h2).1
    refine .inl ⟨_, 0, 2, rfl, ⟨by omega, by omega⟩, by omega, ?_⟩
    rw [show H.length + 1 + j = H.length + (j + 1) by omega, hget, List.getElem?_cons_succ, List.getElem?_append_left (by simpa [rowsB] using hlt)]
    simp [rowsB, h2]
  · intro i j r v o l v' o' l' hij h1 h2
    rw [nmsB_get] at h1 h2
    cases hi : xss[i]? with
    | none => rw [hi] at h1; simp at h1
    | some x =>
      cases hj : xss[j]? with
      | none => rw [hj] at h2; simp at h2
      | some y =>
        rw [hi] at h1; rw [hj] at h2
        simp at h1 h2
        omega
theorem _root_.Go.Av.ACalls.gr {P : Program} {f : FuncId} {args : List AV} {H : List Blk} {R0 R : AV → List Blk → Prop} (h : ACalls P f args H R0) (hg : ∀ r H', R0 r H' → GR H R r H') : ACalls P f args H R := by
  intro B W0 F m w vs h1 h2
  refine (h B W0 F m w vs h1 h2).mono ?_
  rintro e w' ⟨F', m', H', r, v, rfl, g2, g3, g4, g5, g6⟩
  obtain ⟨F2, m2, r2, H2, k1, k2, k3, k4, k5⟩ := hg r H' g6 B W0 F m w F' m' w' v h2 g2 g3 g4 g5
  exact ⟨F2, m2, H2, r2, v, rfl, k1, k2, k3, k4, k5⟩
end Go.Proofs.YtmdeibdplpodpaaGreat
