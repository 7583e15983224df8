/- Slices of integers, read. -/
import Derived.Test.YtdgcgckehihboaaDoorProg
import Derived.KernelRfl
import Derived.Test.YtdgcgckehihboaaDoorProg
import Derived.Test.YtdgcgckehihboaaDoorAvC
set_option linter.unusedSimpArgs false
set_option linter.unusedVariables false
set_option maxHeartbeats 4000000
set_option maxRecDepth 100000
namespace Go.Proofs.YtdgcgckehihboaaDoor
open Go.Av

/-! The abstract code of functions, printed by program and tied to the program by the kernel. -/
/-- loop.example/g00920/laws.eqInt64S -/
abbrev f_laws_eqInt64S : Nat := 19
def c_laws_eqInt64S : SC :=
 .seq (.reg [
     ⟨(some 4), .mv (.const (.bool false)), none⟩] [0, 1])
 (.seq (.seq (.reg [
     ⟨(some 6), .mv (.tmp 0), none⟩,
     ⟨(some 7), .len (.tmp 6), none⟩,
     ⟨(some 8), .mv (.tmp 1), none⟩,
     ⟨(some 9), .len (.tmp 8), none⟩,
     ⟨(some 10), .bin .neq (.tmp 7) (.tmp 9), none⟩] [0, 1, 10])
 (.cond (.tmp 10)
  (.seq (.reg [
      ⟨(some 4), .mv (.const (.bool false)), none⟩] [4])
  (.ret))
  (.skip)))
 (.seq (.seq (.reg [
     ⟨(some 5), .mv (.const (.int .i64 0)), none⟩] [0, 1, 5])
 (.block 0 (.loop [0, 1, 5]
   (.seq (.seq (.reg [
       ⟨(some 11), .mv (.tmp 5), none⟩,
       ⟨(some 12), .mv (.tmp 0), none⟩,
       ⟨(some 13), .len (.tmp 12), none⟩,
       ⟨(some 14), .bin .lss (.tmp 11) (.tmp 13), none⟩] [0, 1, 5, 14])
   (.cond (.tmp 14)
    (.skip)
    (.exit 0)))
   (.seq (.block 1 (.seq (.reg [
        ⟨(some 17), .mv (.tmp 0), none⟩,
        ⟨(some 18), .mv (.tmp 5), none⟩,
        ⟨(some 19), .iaddr 1 (.tmp 17) (.tmp 18), none⟩,
        ⟨(some 20), .load 1 false (.tmp 19), none⟩,
        ⟨(some 21), .mv (.tmp 1), none⟩,
        ⟨(some 22), .mv (.tmp 5), none⟩,
        ⟨(some 23), .iaddr 1 (.tmp 21) (.tmp 22), none⟩,
        ⟨(some 24), .load 1 false (.tmp 23), none⟩,
        ⟨(some 25), .bin .neq (.tmp 20) (.tmp 24), none⟩] [0, 1, 5, 25])
    (.cond (.tmp 25)
     (.seq (.reg [
         ⟨(some 4), .mv (.const (.bool false)), none⟩] [4])
     (.ret))
     (.skip))))
   (.reg [
       ⟨(some 15), .mv (.tmp 5), none⟩,
       ⟨(some 16), .bin .add (.tmp 15) (.const (.int .i64 1)), none⟩,
       ⟨(some 5), .mv (.tmp 16), none⟩] [0, 1, 5]))))))
 (.seq (.reg [
     ⟨(some 4), .mv (.const (.bool true)), none⟩] [4])
 (.ret))))
theorem s_laws_eqInt64S : stripF Tryd.prog 19 [[0, 1], [0, 1, 10], [4], [0, 1, 5], [0, 1, 5], [0, 1, 5, 14], [0, 1, 5, 25], [4], [0, 1, 5], [4]] = some (c_laws_eqInt64S, [.tmp 4], 26) := by kernel_rfl

/-- loop.example/g00920/laws.markInt64S -/
abbrev f_laws_markInt64S : Nat := 21
def c_laws_markInt64S : SC :=
 .seq (.reg [
     ⟨(some 4), .mv (.const (.int .i64 0)), none⟩] [0, 1])
 (.seq (.seq (.reg [
     ⟨(some 5), .mv (.const (.int .i64 0)), none⟩] [0, 1, 5])
 (.block 0 (.loop [0, 1, 5]
   (.seq (.seq (.reg [
       ⟨(some 6), .mv (.tmp 5), none⟩,
       ⟨(some 7), .mv (.tmp 0), none⟩,
       ⟨(some 8), .len (.tmp 7), none⟩,
       ⟨(some 9), .bin .lss (.tmp 6) (.tmp 8), none⟩] [0, 1, 5, 9])
   (.cond (.tmp 9)
    (.skip)
    (.exit 0)))
   (.seq (.block 1 (.seq (.reg [
        ⟨(some 12), .mv (.tmp 0), none⟩,
        ⟨(some 13), .mv (.tmp 5), none⟩,
        ⟨(some 14), .mv (.tmp 1), none⟩,
        ⟨(some 15), .iaddr 1 (.tmp 12) (.tmp 13), none⟩,
        ⟨none, .store 1 (.tmp 15) (.tmp 14), none⟩] [0, 1, 5])
    (.reg [
        ⟨(some 16), .mv (.tmp 1), none⟩,
        ⟨(some 17), .bin .add (.tmp 16) (.const (.int .i64 1)), none⟩,
        ⟨(some 1), .mv (.tmp 17), none⟩] [0, 1, 5])))
   (.reg [
       ⟨(some 10), .mv (.tmp 5), none⟩,
       ⟨(some 11), .bin .add (.tmp 10) (.const (.int .i64 1)), none⟩,
       ⟨(some 5), .mv (.tmp 11), none⟩] [0, 1, 5]))))))
 (.seq (.reg [
     ⟨(some 18), .mv (.tmp 1), none⟩,
     ⟨(some 4), .mv (.tmp 18), none⟩] [4])
 (.ret)))
theorem s_laws_markInt64S : stripF Tryd.prog 21 [[0, 1], [0, 1, 5], [0, 1, 5], [0, 1, 5, 9], [0, 1, 5], [0, 1, 5], [0, 1, 5], [4]] = some (c_laws_markInt64S, [.tmp 4], 19) := by kernel_rfl

/-- loop.example/g00920/laws.heldInt64S -/
abbrev f_laws_heldInt64S : Nat := 23
def c_laws_heldInt64S : SC :=
 .seq (.reg [
     ⟨(some 4), .mv (.const (.int .i64 0)), none⟩] [0, 1])
 (.seq (.seq (.reg [
     ⟨(some 5), .mv (.const (.int .i64 0)), none⟩] [0, 1, 5])
 (.block 0 (.loop [0, 1, 5]
   (.seq (.seq (.reg [
       ⟨(some 6), .mv (.tmp 5), none⟩,
       ⟨(some 7), .mv (.tmp 0), none⟩,
       ⟨(some 8), .len (.tmp 7), none⟩,
       ⟨(some 9), .bin .lss (.tmp 6) (.tmp 8), none⟩] [0, 1, 5, 9])
   (.cond (.tmp 9)
    (.skip)
    (.exit 0)))
   (.seq (.block 1 (.seq (.seq (.reg [
        ⟨(some 12), .mv (.tmp 0), none⟩,
        ⟨(some 13), .mv (.tmp 5), none⟩,
        ⟨(some 14), .iaddr 1 (.tmp 12) (.tmp 13), none⟩,
        ⟨(some 15), .load 1 false (.tmp 14), none⟩,
        ⟨(some 16), .mv (.tmp 1), none⟩,
        ⟨(some 17), .bin .neq (.tmp 15) (.tmp 16), none⟩] [0, 1, 5, 17])
    (.cond (.tmp 17)
     (.seq (.reg [
         ⟨(some 4), .mv (.const (.int .i64 (-1))), none⟩] [4])
     (.ret))
     (.skip)))
    (.reg [
        ⟨(some 18), .mv (.tmp 1), none⟩,
        ⟨(some 19), .bin .add (.tmp 18) (.const (.int .i64 1)), none⟩,
        ⟨(some 1), .mv (.tmp 19), none⟩] [0, 1, 5])))
   (.reg [
       ⟨(some 10), .mv (.tmp 5), none⟩,
       ⟨(some 11), .bin .add (.tmp 10) (.const (.int .i64 1)), none⟩,
       ⟨(some 5), .mv (.tmp 11), none⟩] [0, 1, 5]))))))
 (.seq (.reg [
     ⟨(some 20), .mv (.tmp 1), none⟩,
     ⟨(some 4), .mv (.tmp 20), none⟩] [4])
 (.ret)))
theorem s_laws_heldInt64S : stripF Tryd.prog 23 [[0, 1], [0, 1, 5], [0, 1, 5], [0, 1, 5, 9], [0, 1, 5, 17], [4], [0, 1, 5], [0, 1, 5], [4]] = some (c_laws_heldInt64S, [.tmp 4], 21) := by kernel_rfl


/-- The slice reads as these integers. -/
abbrev RdS (H : List Blk) (a : AV) (xs : List Int) : Prop := aview H a = some (xs.length, xs.map I)

theorem rd_get (xs : List Int) {i : Nat} (h : i < xs.length) : (xs.map I)[i]? = some (I xs[i]) := by
  simp [List.getElem?_eq_getElem h]

section
variable {H : List Blk} {a : AV} {xs : List Int} {K : AV → List Blk → Prop}
theorem idx (ha : RdS H a xs) {i : Nat} (h : i < xs.length) : IaddrW 1 a (I i) H K = K (.el a i) H := by
  rw [IaddrW_of (n := 1) (H := H) (Kv := K) (i := i) ha]
  simp only [Int.toNat_natCast, Nat.mul_one]
  exact propext ⟨fun g => g.2.2, fun g => ⟨by omega, by omega, g⟩⟩
theorem idxz (ha : RdS H a xs) {z : Int} (h0 : 0 ≤ z) (h : z < xs.length) : IaddrW 1 a (I z) H K = K (.el a z.toNat) H := by
  rw [IaddrW_of (n := 1) (H := H) (Kv := K) (i := z) ha]
  simp only [Nat.mul_one]
  exact propext ⟨fun g => g.2.2, fun g => ⟨by omega, by omega, g⟩⟩
theorem ld (ha : RdS H a xs) {i : Nat} (h : i < xs.length) : acell1 H (.el a i) = some (I xs[i]) := by
  simp only [acell1, ha]
  exact rd_get xs h
end

theorem w64_succ {i n : Nat} (h : i < n) (hn : n ≤ 9223372036854775807) : w64 ((i : Int) + 1) = ((i + 1 : Nat) : Int) := by
  rw [w64_id (by omega) (by omega)]; omega

theorem eqS_of {f : Nat} {anns : List (List Nat)} (hs : stripF Tryd.prog f anns = some (c_laws_eqInt64S, [.tmp 4], 26)) (H : List Blk) (a b : AV) (xs ys : List Int) (ha : RdS H a xs) (hb : RdS H b ys) :
    ACalls Tryd.prog f [a, b] H (fun r H' => r = Bv (decide (xs = ys)) ∧ H' = H) := by
  refine ACalls.intro hs (by simp) ?_
  refine SW.seq ?_; refine SW.row ?_; simp only [go_sem, Nat.reduceAdd, Nat.reduceEqDiff, Nat.reduceLeDiff, Nat.reduceMul, reduceIte, Nat.zero_ne_one, Nat.one_ne_zero, Nat.zero_add, Nat.add_zero, List.map_cons, List.map_nil, List.length_cons, List.length_nil, decide_true, decide_false, Bool.not_true, Bool.not_false, true_and, and_true, ne_eq, not_true_eq_false, not_false_eq_true, forall_const, List.getElem?_cons_zero, List.getElem?_cons_succ]
  refine SW.seq ?_; refine SW.seq ?_; refine SW.row ?_; simp only [go_sem, Nat.reduceAdd, Nat.reduceEqDiff, Nat.reduceLeDiff, Nat.reduceMul, reduceIte, Nat.zero_ne_one, Nat.one_ne_zero, Nat.zero_add, Nat.add_zero, List.map_cons, List.map_nil, List.length_cons, List.length_nil, decide_true, decide_false, Bool.not_true, Bool.not_false, true_and, and_true, ne_eq, not_true_eq_false, not_false_eq_true, forall_const, List.getElem?_cons_zero, List.getElem?_cons_succ, ha, hb]
  intro hla hlb
  refine SW.cond rfl (fun h => ?_) (fun h => ?_)
  · refine SW.seq ?_; refine SW.row ?_; simp only [go_sem, Nat.reduceAdd, Nat.reduceEqDiff, Nat.reduceLeDiff, Nat.reduceMul, reduceIte, Nat.zero_ne_one, Nat.one_ne_zero, Nat.zero_add, Nat.add_zero, List.map_cons, List.map_nil, List.length_cons, List.length_nil, decide_true, decide_false, Bool.not_true, Bool.not_false, true_and, and_true, ne_eq, not_true_eq_false, not_false_eq_true, forall_const, List.getElem?_cons_zero, List.getElem?_cons_succ]
    refine SW.ret ?_
    refine FunPost.one (GR.of ?_)
    refine ⟨?_, rfl⟩
    have hne : xs ≠ ys := by rintro rfl; simp at h
    simp [aget, hne]
  refine SW.skip ?_
  have hlen : xs.length = ys.length := by
    have := of_decide_eq_true (by simpa using h : decide ((xs.length : Int) = ys.length) = true)
    omega
  simp only [go_sem]
  refine SW.seq ?_; refine SW.seq ?_; refine SW.row ?_; simp only [go_sem, Nat.reduceAdd, Nat.reduceEqDiff, Nat.reduceLeDiff, Nat.reduceMul, reduceIte, Nat.zero_ne_one, Nat.one_ne_zero, Nat.zero_add, Nat.add_zero, List.map_cons, List.map_nil, List.length_cons, List.length_nil, decide_true, decide_false, Bool.not_true, Bool.not_false, true_and, and_true, ne_eq, not_true_eq_false, not_false_eq_true, forall_const, List.getElem?_cons_zero, List.getElem?_cons_succ]
  refine SW.block ?_
  refine SW.loop (fun k E H' => ∃ i : Nat, i ≤ xs.length ∧ k = xs.length - i ∧ E = [(0, a), (1, b), (5, I i)] ∧ H' = H ∧ xs.take i = ys.take i) xs.length ⟨0, by omega, by omega, rfl, rfl, rfl⟩ ?_
  rintro k E H' ⟨i, hi, rfl, rfl, rfl, heq⟩
  refine SW.seq ?_; refine SW.seq ?_; refine SW.row ?_; simp only [go_sem, Nat.reduceAdd, Nat.reduceEqDiff, Nat.reduceLeDiff, Nat.reduceMul, reduceIte, Nat.zero_ne_one, Nat.one_ne_zero, Nat.zero_add, Nat.add_zero, List.map_cons, List.map_nil, List.length_cons, List.length_nil, decide_true, decide_false, Bool.not_true, Bool.not_false, true_and, and_true, ne_eq, not_true_eq_false, not_false_eq_true, forall_const, List.getElem?_cons_zero, List.getElem?_cons_succ, ha]
  intro _
  refine SW.cond rfl (fun h => ?_) (fun h => ?_)
  · have hlt : i < xs.length := by simpa using h
    have hlt' : i < ys.length := by omega
    refine SW.skip ?_
    simp only [go_sem]
    refine SW.seq ?_; refine SW.block ?_; refine SW.seq ?_; refine SW.row ?_; simp only [go_sem, Nat.reduceAdd, Nat.reduceEqDiff, Nat.reduceLeDiff, Nat.reduceMul, reduceIte, Nat.zero_ne_one, Nat.one_ne_zero, Nat.zero_add, Nat.add_zero, List.map_cons, List.map_nil, List.length_cons, List.length_nil, decide_true, decide_false, Bool.not_true, Bool.not_false, true_and, and_true, ne_eq, not_true_eq_false, not_false_eq_true, forall_const, List.getElem?_cons_zero, List.getElem?_cons_succ, idx ha hlt, idx hb hlt', ld ha hlt, ld hb hlt']
    refine SW.cond rfl (fun h => ?_) (fun h => ?_)
    · refine SW.seq ?_; refine SW.row ?_; simp only [go_sem, Nat.reduceAdd, Nat.reduceEqDiff, Nat.reduceLeDiff, Nat.reduceMul, reduceIte, Nat.zero_ne_one, Nat.one_ne_zero, Nat.zero_add, Nat.add_zero, List.map_cons, List.map_nil, List.length_cons, List.length_nil, decide_true, decide_false, Bool.not_true, Bool.not_false, true_and, and_true, ne_eq, not_true_eq_false, not_false_eq_true, forall_const, List.getElem?_cons_zero, List.getElem?_cons_succ]
      refine SW.ret ?_
      simp only [go_sem]
      refine FunPost.one (GR.of ?_)
      refine ⟨?_, rfl⟩
      have hne : xs ≠ ys := by rintro rfl; simp at h
      simp [aget, hne]
    · refine SW.skip ?_
      simp only [go_sem]
      refine SW.row ?_; simp only [go_sem, Nat.reduceAdd, Nat.reduceEqDiff, Nat.reduceLeDiff, Nat.reduceMul, reduceIte, Nat.zero_ne_one, Nat.one_ne_zero, Nat.zero_add, Nat.add_zero, List.map_cons, List.map_nil, List.length_cons, List.length_nil, decide_true, decide_false, Bool.not_true, Bool.not_false, true_and, and_true, ne_eq, not_true_eq_false, not_false_eq_true, forall_const, List.getElem?_cons_zero, List.getElem?_cons_succ, w64_succ hlt hla]
      refine SLoop.next (xs.length - (i + 1)) (by omega) ⟨i + 1, by omega, rfl, ?_, rfl, ?_⟩
      · simp only [go_sem]; rfl
      · rw [List.take_add_one, List.take_add_one, heq, List.getElem?_eq_getElem hlt, List.getElem?_eq_getElem hlt']
        have : xs[i] = ys[i] := by simpa using h
        rw [this]
  · refine SW.exit ?_
    simp only [go_sem, reduceIte]
    refine SW.seq ?_; refine SW.row ?_; simp only [go_sem, Nat.reduceAdd, Nat.reduceEqDiff, Nat.reduceLeDiff, Nat.reduceMul, reduceIte, Nat.zero_ne_one, Nat.one_ne_zero, Nat.zero_add, Nat.add_zero, List.map_cons, List.map_nil, List.length_cons, List.length_nil, decide_true, decide_false, Bool.not_true, Bool.not_false, true_and, and_true, ne_eq, not_true_eq_false, not_false_eq_true, forall_const, List.getElem?_cons_zero, List.getElem?_cons_succ]
    refine SW.ret ?_
    refine FunPost.one (GR.of ?_)
    refine ⟨?_, rfl⟩
    have hi' : i = xs.length := by
      have : ¬ i < xs.length := by simpa using h
      omega
    subst hi'
    have : xs = ys := by
      rw [List.take_length] at heq
      rw [heq, hlen, List.take_length]
    simp [aget, this]

theorem eqInt64S_ok (H : List Blk) (a b : AV) (xs ys : List Int) (ha : RdS H a xs) (hb : RdS H b ys) :
    ACalls Tryd.prog f_laws_eqInt64S [a, b] H (fun r H' => r = Bv (decide (xs = ys)) ∧ H' = H) := eqS_of s_laws_eqInt64S H a b xs ys ha hb

theorem RdS.append {H : List Blk} {a : AV} {xs : List Int} (h : RdS H a xs) (ext : List Blk) : RdS (H ++ ext) a xs := aview_append h ext

theorem eqInt64S_fn (H : List Blk) (a b : AV) (xs ys : List Int) (ha : RdS H a xs) (hb : RdS H b ys) : AFn Tryd.prog f_laws_eqInt64S [a, b] H (Bv (decide (xs = ys))) :=
  fun ext => eqInt64S_ok _ _ _ _ _ (RdS.append ha ext) (RdS.append hb ext)

/-- The slice of slices reads as these rows. -/
def RdSS (H : List Blk) (a : AV) (xss : List (List Int)) : Prop := ∃ cells, aview H a = some (xss.length, cells) ∧ cells.length = xss.length ∧ ∀ (j : Nat) (c : AV) (xs : List Int), cells[j]? = some c → xss[j]? = some xs → RdS H c xs

theorem RdSS.append {H : List Blk} {a : AV} {xss : List (List Int)} (h : RdSS H a xss) (ext : List Blk) : RdSS (H ++ ext) a xss := by
  obtain ⟨cells, h1, h2, h3⟩ := h
  exact ⟨cells, aview_append h1 ext, h2, fun j c xs g1 g2 => RdS.append (h3 j c xs g1 g2) ext⟩

section
variable {H : List Blk} {a : AV} {n : Nat} {cells : List AV} {K : AV → List Blk → Prop}
theorem idxc (ha : aview H a = some (n, cells)) {i : Nat} (h : i < n) : IaddrW 1 a (I i) H K = K (.el a i) H := by
  rw [IaddrW_of (n := 1) (H := H) (Kv := K) (i := i) ha]
  simp only [Int.toNat_natCast, Nat.mul_one]
  exact propext ⟨fun g => g.2.2, fun g => ⟨by omega, by omega, g⟩⟩
theorem idxcz (ha : aview H a = some (n, cells)) {z : Int} (h0 : 0 ≤ z) (h : z < n) : IaddrW 1 a (I z) H K = K (.el a z.toNat) H := by
  rw [IaddrW_of (n := 1) (H := H) (Kv := K) (i := z) ha]
  simp only [Nat.mul_one]
  exact propext ⟨fun g => g.2.2, fun g => ⟨by omega, by omega, g⟩⟩
theorem ldc (ha : aview H a = some (n, cells)) {i : Nat} {c : AV} (h : cells[i]? = some c) : acell1 H (.el a i) = some c := by
  simp only [acell1, ha]; exact h
theorem view_nm {r ver ty : Nat} (h : H[r]? = some ⟨ver, ty, 1, cells⟩) (hn : cells.length = n) : aview H (.nm r ver 0 n) = some (n, cells) := by
  simp only [aview, h, if_true, List.drop_zero, Nat.mul_one]
  rw [← hn, List.take_length]
theorem store_nm {r ver ty : Nat} {c : AV} (h : H[r]? = some ⟨ver, ty, 1, cells⟩) {i : Nat} (hi : i < cells.length) : astore H [c] (.el (.nm r ver 0 n) i) = some (H.set r ⟨ver, ty, 1, cells.set i c⟩) := by
  simp only [astore, h, List.length_cons, List.length_nil, Nat.zero_add, setMany]
  rw [if_pos ⟨trivial, by omega⟩]
end

@[go_sem] theorem partsOf_I (n : Int) : partsOf (I n) = [I n] := (rfl)
@[go_sem] theorem cell1_I (n : Int) : (I n).cell1 = true := (rfl)
@[go_sem] theorem all_nil1 (f : AV → Bool) : ([] : List AV).all f = true := (rfl)
@[go_sem] theorem all_cons1 (f : AV → Bool) (c : AV) (cs : List AV) : (c :: cs).all f = (f c && cs.all f) := (rfl)
attribute [go_sem] Bool.and_true Bool.true_and

/-- Behind i rounds of marking. -/
def ms (k : Int) (xs : List Int) (i : Nat) : List Int := (List.range i).map (fun (j : Nat) => k + (j : Int)) ++ xs.drop i
theorem ms_zero (k : Int) (xs : List Int) : ms k xs 0 = xs := by simp [ms]
theorem ms_length (k : Int) (xs : List Int) {i : Nat} (h : i ≤ xs.length) : (ms k xs i).length = xs.length := by simp [ms]; omega
theorem ms_all (k : Int) (xs : List Int) : ms k xs xs.length = (List.range xs.length).map (fun (j : Nat) => k + (j : Int)) := by simp [ms]
theorem ms_set (k : Int) (xs : List Int) {i : Nat} (h : i < xs.length) : (ms k xs i).set i (k + i) = ms k xs (i + 1) := by
  unfold ms
  rw [List.set_append_right _ _ (by simp)]
  simp only [List.length_map, List.length_range, Nat.sub_self]
  rw [List.drop_eq_getElem_cons h, List.set_cons_zero, List.range_succ, List.map_append]
  simp

theorem markInt64S_ok (H : List Blk) (r ver ty : Nat) (xs : List Int) (k : Int) (hr : H[r]? = some ⟨ver, ty, 1, xs.map I⟩) (hk0 : 0 ≤ k) (hk : k + xs.length ≤ 4611686018427387904) :
    ACalls Tryd.prog f_laws_markInt64S [.nm r ver 0 xs.length, I k] H (fun v H' => v = I (k + xs.length) ∧ H' = H.set r ⟨ver, ty, 1, ((List.range xs.length).map (fun (j : Nat) => k + (j : Int))).map I⟩) := by
  refine ACalls.intro s_laws_markInt64S (by simp) ?_
  have hlt : r < H.length := (List.getElem?_eq_some_iff.1 hr).1
  refine SW.seq ?_; refine SW.row ?_; simp only [go_sem, Nat.reduceAdd, Nat.reduceEqDiff, Nat.reduceLeDiff, Nat.reduceMul, reduceIte, Nat.zero_ne_one, Nat.one_ne_zero, Nat.zero_add, Nat.add_zero, List.map_cons, List.map_nil, List.length_cons, List.length_nil, decide_true, decide_false, Bool.not_true, Bool.not_false, true_and, and_true, ne_eq, not_true_eq_false, not_false_eq_true, forall_const, List.getElem?_cons_zero, List.getElem?_cons_succ]
  refine SW.seq ?_; refine SW.seq ?_; refine SW.row ?_; simp only [go_sem, Nat.reduceAdd, Nat.reduceEqDiff, Nat.reduceLeDiff, Nat.reduceMul, reduceIte, Nat.zero_ne_one, Nat.one_ne_zero, Nat.zero_add, Nat.add_zero, List.map_cons, List.map_nil, List.length_cons, List.length_nil, decide_true, decide_false, Bool.not_true, Bool.not_false, true_and, and_true, ne_eq, not_true_eq_false, not_false_eq_true, forall_const, List.getElem?_cons_zero, List.getElem?_cons_succ]
  refine SW.block ?_
  refine SW.loop (fun q E H' => ∃ i : Nat, i ≤ xs.length ∧ q = xs.length - i ∧ E = [(0, .nm r ver 0 xs.length), (1, I (k + i)), (5, I i)] ∧ H' = H.set r ⟨ver, ty, 1, (ms k xs i).map I⟩) xs.length ⟨0, by omega, by omega, by simp; rfl, ?_⟩ ?_
  · rw [ms_zero]
    obtain ⟨h1, h2⟩ := List.getElem?_eq_some_iff.1 hr
    rw [← h2]; exact (List.set_getElem_self h1).symm
  rintro q E H' ⟨i, hi, rfl, rfl, rfl⟩
  have hcell : (H.set r ⟨ver, ty, 1, (ms k xs i).map I⟩)[r]? = some ⟨ver, ty, 1, (ms k xs i).map I⟩ := List.getElem?_set_self hlt
  have hv : aview (H.set r ⟨ver, ty, 1, (ms k xs i).map I⟩) (.nm r ver 0 xs.length) = some (xs.length, (ms k xs i).map I) := view_nm hcell (by simp [ms_length k xs hi])
  refine SW.seq ?_; refine SW.seq ?_; refine SW.row ?_; simp only [go_sem, Nat.reduceAdd, Nat.reduceEqDiff, Nat.reduceLeDiff, Nat.reduceMul, reduceIte, Nat.zero_ne_one, Nat.one_ne_zero, Nat.zero_add, Nat.add_zero, List.map_cons, List.map_nil, List.length_cons, List.length_nil, decide_true, decide_false, Bool.not_true, Bool.not_false, true_and, and_true, ne_eq, not_true_eq_false, not_false_eq_true, forall_const, List.getElem?_cons_zero, List.getElem?_cons_succ, hv]; (first | refine SW.cond rfl (fun h => ?_) (fun h => ?_) | (intro _; refine SW.cond rfl (fun h => ?_) (fun h => ?_)) | (intro _ _; refine SW.cond rfl (fun h => ?_) (fun h => ?_)))
  · have hx : i < xs.length := by simpa using h
    refine SW.skip ?_; simp only [go_sem, Nat.reduceAdd, Nat.reduceEqDiff, Nat.reduceLeDiff, Nat.reduceMul, reduceIte, Nat.zero_ne_one, Nat.one_ne_zero, Nat.zero_add, Nat.add_zero, List.map_cons, List.map_nil, List.length_cons, List.length_nil, decide_true, decide_false, Bool.not_true, Bool.not_false, true_and, and_true, ne_eq, not_true_eq_false, not_false_eq_true, forall_const, List.getElem?_cons_zero, List.getElem?_cons_succ]
    refine SW.seq ?_; refine SW.block ?_; refine SW.seq ?_; refine SW.row ?_; simp only [go_sem, Nat.reduceAdd, Nat.reduceEqDiff, Nat.reduceLeDiff, Nat.reduceMul, reduceIte, Nat.zero_ne_one, Nat.one_ne_zero, Nat.zero_add, Nat.add_zero, List.map_cons, List.map_nil, List.length_cons, List.length_nil, decide_true, decide_false, Bool.not_true, Bool.not_false, true_and, and_true, ne_eq, not_true_eq_false, not_false_eq_true, forall_const, List.getElem?_cons_zero, List.getElem?_cons_succ, idxc hv hx, store_nm hcell (show i < ((ms k xs i).map I).length by simp [ms_length k xs hi, hx])]
    refine SW.row ?_; simp only [go_sem, Nat.reduceAdd, Nat.reduceEqDiff, Nat.reduceLeDiff, Nat.reduceMul, reduceIte, Nat.zero_ne_one, Nat.one_ne_zero, Nat.zero_add, Nat.add_zero, List.map_cons, List.map_nil, List.length_cons, List.length_nil, decide_true, decide_false, Bool.not_true, Bool.not_false, true_and, and_true, ne_eq, not_true_eq_false, not_false_eq_true, forall_const, List.getElem?_cons_zero, List.getElem?_cons_succ, w64_id (show -9223372036854775808 ≤ k + (i : Int) + 1 by omega) (show k + (i : Int) + 1 ≤ 9223372036854775807 by omega)]
    refine SW.row ?_; simp only [go_sem, Nat.reduceAdd, Nat.reduceEqDiff, Nat.reduceLeDiff, Nat.reduceMul, reduceIte, Nat.zero_ne_one, Nat.one_ne_zero, Nat.zero_add, Nat.add_zero, List.map_cons, List.map_nil, List.length_cons, List.length_nil, decide_true, decide_false, Bool.not_true, Bool.not_false, true_and, and_true, ne_eq, not_true_eq_false, not_false_eq_true, forall_const, List.getElem?_cons_zero, List.getElem?_cons_succ, w64_id (show -9223372036854775808 ≤ (i : Int) + 1 by omega) (show (i : Int) + 1 ≤ 9223372036854775807 by omega)]
    refine SLoop.next (xs.length - (i + 1)) (by omega) ⟨i + 1, by omega, rfl, ?_, ?_⟩
    · simp only [go_sem, Nat.reduceAdd, Nat.reduceEqDiff, Nat.reduceLeDiff, Nat.reduceMul, reduceIte, Nat.zero_ne_one, Nat.one_ne_zero, Nat.zero_add, Nat.add_zero, List.map_cons, List.map_nil, List.length_cons, List.length_nil, decide_true, decide_false, Bool.not_true, Bool.not_false, true_and, and_true, ne_eq, not_true_eq_false, not_false_eq_true, forall_const, List.getElem?_cons_zero, List.getElem?_cons_succ]
      rw [Int.natCast_add, ← Int.add_assoc]; rfl
    · rw [List.set_set, ← List.map_set, ms_set k xs hx]
  · have hx : i = xs.length := by
      have : ¬ i < xs.length := by simpa using h
      omega
    subst hx
    refine SW.exit ?_; simp only [go_sem, Nat.reduceAdd, Nat.reduceEqDiff, Nat.reduceLeDiff, Nat.reduceMul, reduceIte, Nat.zero_ne_one, Nat.one_ne_zero, Nat.zero_add, Nat.add_zero, List.map_cons, List.map_nil, List.length_cons, List.length_nil, decide_true, decide_false, Bool.not_true, Bool.not_false, true_and, and_true, ne_eq, not_true_eq_false, not_false_eq_true, forall_const, List.getElem?_cons_zero, List.getElem?_cons_succ]
    refine SW.seq ?_; refine SW.row ?_; simp only [go_sem, Nat.reduceAdd, Nat.reduceEqDiff, Nat.reduceLeDiff, Nat.reduceMul, reduceIte, Nat.zero_ne_one, Nat.one_ne_zero, Nat.zero_add, Nat.add_zero, List.map_cons, List.map_nil, List.length_cons, List.length_nil, decide_true, decide_false, Bool.not_true, Bool.not_false, true_and, and_true, ne_eq, not_true_eq_false, not_false_eq_true, forall_const, List.getElem?_cons_zero, List.getElem?_cons_succ]
    refine SW.ret ?_; (try simp only [go_sem]); refine FunPost.one (GR.of ?_); (try simp only [go_sem, Nat.reduceAdd, Nat.reduceEqDiff, Nat.reduceLeDiff, Nat.reduceMul, reduceIte, Nat.zero_ne_one, Nat.one_ne_zero, Nat.zero_add, Nat.add_zero, List.map_cons, List.map_nil, List.length_cons, List.length_nil, decide_true, decide_false, Bool.not_true, Bool.not_false, true_and, and_true, ne_eq, not_true_eq_false, not_false_eq_true, forall_const, List.getElem?_cons_zero, List.getElem?_cons_succ])
    rw [ms_all]


theorem heldInt64S_ok (H : List Blk) (a : AV) (n : Nat) (k : Int) (ha : RdS H a ((List.range n).map (fun (j : Nat) => k + (j : Int)))) (hk0 : 0 ≤ k) (hk : k + n ≤ 4611686018427387904) :
    ACalls Tryd.prog f_laws_heldInt64S [a, I k] H (fun v H' => v = I (k + n) ∧ H' = H) := by
  refine ACalls.intro s_laws_heldInt64S (by simp) ?_
  have hl : ((List.range n).map (fun (j : Nat) => k + (j : Int))).length = n := by simp
  refine SW.seq ?_; refine SW.row ?_; simp only [go_sem, Nat.reduceAdd, Nat.reduceEqDiff, Nat.reduceLeDiff, Nat.reduceMul, reduceIte, Nat.zero_ne_one, Nat.one_ne_zero, Nat.zero_add, Nat.add_zero, List.map_cons, List.map_nil, List.length_cons, List.length_nil, decide_true, decide_false, Bool.not_true, Bool.not_false, true_and, and_true, ne_eq, not_true_eq_false, not_false_eq_true, forall_const, List.getElem?_cons_zero, List.getElem?_cons_succ]
  refine SW.seq ?_; refine SW.seq ?_; refine SW.row ?_; simp only [go_sem, Nat.reduceAdd, Nat.reduceEqDiff, Nat.reduceLeDiff, Nat.reduceMul, reduceIte, Nat.zero_ne_one, Nat.one_ne_zero, Nat.zero_add, Nat.add_zero, List.map_cons, List.map_nil, List.length_cons, List.length_nil, decide_true, decide_false, Bool.not_true, Bool.not_false, true_and, and_true, ne_eq, not_true_eq_false, not_false_eq_true, forall_const, List.getElem?_cons_zero, List.getElem?_cons_succ]
  refine SW.block ?_
  refine SW.loop (fun q E H' => ∃ i : Nat, i ≤ n ∧ q = n - i ∧ E = [(0, a), (1, I (k + i)), (5, I i)] ∧ H' = H) n ⟨0, by omega, by omega, by simp; rfl, rfl⟩ ?_
  rintro q E H' ⟨i, hi, rfl, rfl, rfl⟩
  refine SW.seq ?_; refine SW.seq ?_; refine SW.row ?_; simp only [go_sem, Nat.reduceAdd, Nat.reduceEqDiff, Nat.reduceLeDiff, Nat.reduceMul, reduceIte, Nat.zero_ne_one, Nat.one_ne_zero, Nat.zero_add, Nat.add_zero, List.map_cons, List.map_nil, List.length_cons, List.length_nil, decide_true, decide_false, Bool.not_true, Bool.not_false, true_and, and_true, ne_eq, not_true_eq_false, not_false_eq_true, forall_const, List.getElem?_cons_zero, List.getElem?_cons_succ, ha, hl]; (first | refine SW.cond rfl (fun h => ?_) (fun h => ?_) | (intro _; refine SW.cond rfl (fun h => ?_) (fun h => ?_)) | (intro _ _; refine SW.cond rfl (fun h => ?_) (fun h => ?_)))
  · have hx : i < n := by simpa using h
    have hx' : i < ((List.range n).map (fun (j : Nat) => k + (j : Int))).length := by rw [hl]; exact hx
    refine SW.skip ?_; simp only [go_sem, Nat.reduceAdd, Nat.reduceEqDiff, Nat.reduceLeDiff, Nat.reduceMul, reduceIte, Nat.zero_ne_one, Nat.one_ne_zero, Nat.zero_add, Nat.add_zero, List.map_cons, List.map_nil, List.length_cons, List.length_nil, decide_true, decide_false, Bool.not_true, Bool.not_false, true_and, and_true, ne_eq, not_true_eq_false, not_false_eq_true, forall_const, List.getElem?_cons_zero, List.getElem?_cons_succ]
    refine SW.seq ?_; refine SW.block ?_; refine SW.seq ?_; refine SW.seq ?_; refine SW.row ?_; simp only [go_sem, Nat.reduceAdd, Nat.reduceEqDiff, Nat.reduceLeDiff, Nat.reduceMul, reduceIte, Nat.zero_ne_one, Nat.one_ne_zero, Nat.zero_add, Nat.add_zero, List.map_cons, List.map_nil, List.length_cons, List.length_nil, decide_true, decide_false, Bool.not_true, Bool.not_false, true_and, and_true, ne_eq, not_true_eq_false, not_false_eq_true, forall_const, List.getElem?_cons_zero, List.getElem?_cons_succ, idx ha hx', ld ha hx', List.getElem_map, List.getElem_range]
    refine SW.cond rfl (fun h => ?_) (fun h => ?_)
    · simp at h
    refine SW.skip ?_; simp only [go_sem, Nat.reduceAdd, Nat.reduceEqDiff, Nat.reduceLeDiff, Nat.reduceMul, reduceIte, Nat.zero_ne_one, Nat.one_ne_zero, Nat.zero_add, Nat.add_zero, List.map_cons, List.map_nil, List.length_cons, List.length_nil, decide_true, decide_false, Bool.not_true, Bool.not_false, true_and, and_true, ne_eq, not_true_eq_false, not_false_eq_true, forall_const, List.getElem?_cons_zero, List.getElem?_cons_succ]
    refine SW.row ?_; simp only [go_sem, Nat.reduceAdd, Nat.reduceEqDiff, Nat.reduceLeDiff, Nat.reduceMul, reduceIte, Nat.zero_ne_one, Nat.one_ne_zero, Nat.zero_add, Nat.add_zero, List.map_cons, List.map_nil, List.length_cons, List.length_nil, decide_true, decide_false, Bool.not_true, Bool.not_false, true_and, and_true, ne_eq, not_true_eq_false, not_false_eq_true, forall_const, List.getElem?_cons_zero, List.getElem?_cons_succ, w64_id (show -9223372036854775808 ≤ k + (i : Int) + 1 by omega) (show k + (i : Int) + 1 ≤ 9223372036854775807 by omega)]
    refine SW.row ?_; simp only [go_sem, Nat.reduceAdd, Nat.reduceEqDiff, Nat.reduceLeDiff, Nat.reduceMul, reduceIte, Nat.zero_ne_one, Nat.one_ne_zero, Nat.zero_add, Nat.add_zero, List.map_cons, List.map_nil, List.length_cons, List.length_nil, decide_true, decide_false, Bool.not_true, Bool.not_false, true_and, and_true, ne_eq, not_true_eq_false, not_false_eq_true, forall_const, List.getElem?_cons_zero, List.getElem?_cons_succ, w64_id (show -9223372036854775808 ≤ (i : Int) + 1 by omega) (show (i : Int) + 1 ≤ 9223372036854775807 by omega)]
    refine SLoop.next (n - (i + 1)) (by omega) ⟨i + 1, by omega, rfl, ?_, rfl⟩
    · simp only [go_sem, Nat.reduceAdd, Nat.reduceEqDiff, Nat.reduceLeDiff, Nat.reduceMul, reduceIte, Nat.zero_ne_one, Nat.one_ne_zero, Nat.zero_add, Nat.add_zero, List.map_cons, List.map_nil, List.length_cons, List.length_nil, decide_true, decide_false, Bool.not_true, Bool.not_false, true_and, and_true, ne_eq, not_true_eq_false, not_false_eq_true, forall_const, List.getElem?_cons_zero, List.getElem?_cons_succ]
      rw [Int.natCast_add, ← Int.add_assoc]; rfl
  · have hx : i = n := by
      have : ¬ i < n := by simpa using h
      omega
    subst hx
    refine SW.exit ?_; simp only [go_sem, Nat.reduceAdd, Nat.reduceEqDiff, Nat.reduceLeDiff, Nat.reduceMul, reduceIte, Nat.zero_ne_one, Nat.one_ne_zero, Nat.zero_add, Nat.add_zero, List.map_cons, List.map_nil, List.length_cons, List.length_nil, decide_true, decide_false, Bool.not_true, Bool.not_false, true_and, and_true, ne_eq, not_true_eq_false, not_false_eq_true, forall_const, List.getElem?_cons_zero, List.getElem?_cons_succ]
    refine SW.seq ?_; refine SW.row ?_; simp only [go_sem, Nat.reduceAdd, Nat.reduceEqDiff, Nat.reduceLeDiff, Nat.reduceMul, reduceIte, Nat.zero_ne_one, Nat.one_ne_zero, Nat.zero_add, Nat.add_zero, List.map_cons, List.map_nil, List.length_cons, List.length_nil, decide_true, decide_false, Bool.not_true, Bool.not_false, true_and, and_true, ne_eq, not_true_eq_false, not_false_eq_true, forall_const, List.getElem?_cons_zero, List.getElem?_cons_succ]
    refine SW.ret ?_; (try simp only [go_sem]); refine FunPost.one (GR.of ?_); (try simp only [go_sem, Nat.reduceAdd, Nat.reduceEqDiff, Nat.reduceLeDiff, Nat.reduceMul, reduceIte, Nat.zero_ne_one, Nat.one_ne_zero, Nat.zero_add, Nat.add_zero, List.map_cons, List.map_nil, List.length_cons, List.length_nil, decide_true, decide_false, Bool.not_true, Bool.not_false, true_and, and_true, ne_eq, not_true_eq_false, not_false_eq_true, forall_const, List.getElem?_cons_zero, List.getElem?_cons_succ])

/-- The code of a comparison of rows, by g. -/
def cEqSS (g : Nat) : SC :=
 .seq (.reg [
     ⟨(some 4), .mv (.const (.bool false)), none⟩] [0, 1])
 (.seq (.seq (.reg [
     ⟨(some 6), .mv (.tmp 0), none⟩,
     ⟨(some 7), .len (.tmp 6), none⟩,
     ⟨(some 8), .mv (.tmp 1), none⟩,
     ⟨(some 9), .len (.tmp 8), none⟩,
     ⟨(some 10), .bin .neq (.tmp 7) (.tmp 9), none⟩] [0, 1, 10])
 (.cond (.tmp 10)
  (.seq (.reg [
      ⟨(some 4), .mv (.const (.bool false)), none⟩] [4])
  (.ret))
  (.skip)))
 (.seq (.seq (.reg [
     ⟨(some 5), .mv (.const (.int .i64 0)), none⟩] [0, 1, 5])
 (.block 0 (.loop [0, 1, 5]
   (.seq (.seq (.reg [
       ⟨(some 11), .mv (.tmp 5), none⟩,
       ⟨(some 12), .mv (.tmp 0), none⟩,
       ⟨(some 13), .len (.tmp 12), none⟩,
       ⟨(some 14), .bin .lss (.tmp 11) (.tmp 13), none⟩] [0, 1, 5, 14])
   (.cond (.tmp 14)
    (.skip)
    (.exit 0)))
   (.seq (.block 1 (.seq (.reg [
        ⟨(some 17), .mv (.tmp 0), none⟩,
        ⟨(some 18), .mv (.tmp 5), none⟩,
        ⟨(some 19), .iaddr 1 (.tmp 17) (.tmp 18), none⟩,
        ⟨(some 20), .load 1 false (.tmp 19), none⟩,
        ⟨(some 21), .mv (.tmp 1), none⟩,
        ⟨(some 22), .mv (.tmp 5), none⟩,
        ⟨(some 23), .iaddr 1 (.tmp 21) (.tmp 22), none⟩,
        ⟨(some 24), .load 1 false (.tmp 23), none⟩,
        ⟨(some 25), .qcall g [(.tmp 20), (.tmp 24)], none⟩,
        ⟨(some 26), .un .not (.tmp 25), none⟩] [0, 1, 5, 26])
    (.cond (.tmp 26)
     (.seq (.reg [
         ⟨(some 4), .mv (.const (.bool false)), none⟩] [4])
     (.ret))
     (.skip))))
   (.reg [
       ⟨(some 15), .mv (.tmp 5), none⟩,
       ⟨(some 16), .bin .add (.tmp 15) (.const (.int .i64 1)), none⟩,
       ⟨(some 5), .mv (.tmp 16), none⟩] [0, 1, 5]))))))
 (.seq (.reg [
     ⟨(some 4), .mv (.const (.bool true)), none⟩] [4])
 (.ret))))

theorem eqSS_of {f g : Nat} {anns : List (List Nat)} (hs : stripF Tryd.prog f anns = some (cEqSS g, [.tmp 4], 27))
    (hg : ∀ (H : List Blk) (a b : AV) (xs ys : List Int), RdS H a xs → RdS H b ys → ACalls Tryd.prog g [a, b] H (fun r H' => r = Bv (decide (xs = ys)) ∧ H' = H))
    (H : List Blk) (a b : AV) (xs ys : List (List Int)) (ha : RdSS H a xs) (hb : RdSS H b ys) :
    ACalls Tryd.prog f [a, b] H (fun r H' => r = Bv (decide (xs = ys)) ∧ H' = H) := by
  refine ACalls.intro hs (by simp) ?_
  obtain ⟨ca, ha1, ha2, ha3⟩ := ha
  obtain ⟨cb, hb1, hb2, hb3⟩ := hb
  refine SW.seq ?_; refine SW.row ?_; simp only [go_sem, Nat.reduceAdd, Nat.reduceEqDiff, Nat.reduceLeDiff, Nat.reduceMul, reduceIte, Nat.zero_ne_one, Nat.one_ne_zero, Nat.zero_add, Nat.add_zero, List.map_cons, List.map_nil, List.length_cons, List.length_nil, decide_true, decide_false, Bool.not_true, Bool.not_false, true_and, and_true, ne_eq, not_true_eq_false, not_false_eq_true, forall_const, List.getElem?_cons_zero, List.getElem?_cons_succ]
  refine SW.seq ?_; refine SW.seq ?_; refine SW.row ?_; simp only [go_sem, Nat.reduceAdd, Nat.reduceEqDiff, Nat.reduceLeDiff, Nat.reduceMul, reduceIte, Nat.zero_ne_one, Nat.one_ne_zero, Nat.zero_add, Nat.add_zero, List.map_cons, List.map_nil, List.length_cons, List.length_nil, decide_true, decide_false, Bool.not_true, Bool.not_false, true_and, and_true, ne_eq, not_true_eq_false, not_false_eq_true, forall_const, List.getElem?_cons_zero, List.getElem?_cons_succ, ha1, hb1]
  intro hla hlb
  refine SW.cond rfl (fun h => ?_) (fun h => ?_)
  · refine SW.seq ?_; refine SW.row ?_; simp only [go_sem, Nat.reduceAdd, Nat.reduceEqDiff, Nat.reduceLeDiff, Nat.reduceMul, reduceIte, Nat.zero_ne_one, Nat.one_ne_zero, Nat.zero_add, Nat.add_zero, List.map_cons, List.map_nil, List.length_cons, List.length_nil, decide_true, decide_false, Bool.not_true, Bool.not_false, true_and, and_true, ne_eq, not_true_eq_false, not_false_eq_true, forall_const, List.getElem?_cons_zero, List.getElem?_cons_succ]
    refine SW.ret ?_; (try simp only [go_sem]); refine FunPost.one (GR.of ?_); (try simp only [go_sem, Nat.reduceAdd, Nat.reduceEqDiff, Nat.reduceLeDiff, Nat.reduceMul, reduceIte, Nat.zero_ne_one, Nat.one_ne_zero, Nat.zero_add, Nat.add_zero, List.map_cons, List.map_nil, List.length_cons, List.length_nil, decide_true, decide_false, Bool.not_true, Bool.not_false, true_and, and_true, ne_eq, not_true_eq_false, not_false_eq_true, forall_const, List.getElem?_cons_zero, List.getElem?_cons_succ])
    have hne : xs ≠ ys := by rintro rfl; simp at h
    simp [hne]
  refine SW.skip ?_
  have hlen : xs.length = ys.length := by
    have := of_decide_eq_true (by simpa using h : decide ((xs.length : Int) = ys.length) = true)
    omega
  simp only [go_sem]
  refine SW.seq ?_; refine SW.seq ?_; refine SW.row ?_; simp only [go_sem, Nat.reduceAdd, Nat.reduceEqDiff, Nat.reduceLeDiff, Nat.reduceMul, reduceIte, Nat.zero_ne_one, Nat.one_ne_zero, Nat.zero_add, Nat.add_zero, List.map_cons, List.map_nil, List.length_cons, List.length_nil, decide_true, decide_false, Bool.not_true, Bool.not_false, true_and, and_true, ne_eq, not_true_eq_false, not_false_eq_true, forall_const, List.getElem?_cons_zero, List.getElem?_cons_succ]
  refine SW.block ?_
  refine SW.loop (fun k E H' => ∃ i : Nat, i ≤ xs.length ∧ k = xs.length - i ∧ E = [(0, a), (1, b), (5, I i)] ∧ H' = H ∧ xs.take i = ys.take i) xs.length ⟨0, by omega, by omega, rfl, rfl, rfl⟩ ?_
  rintro k E H' ⟨i, hi, rfl, rfl, rfl, heq⟩
  refine SW.seq ?_; refine SW.seq ?_; refine SW.row ?_; simp only [go_sem, Nat.reduceAdd, Nat.reduceEqDiff, Nat.reduceLeDiff, Nat.reduceMul, reduceIte, Nat.zero_ne_one, Nat.one_ne_zero, Nat.zero_add, Nat.add_zero, List.map_cons, List.map_nil, List.length_cons, List.length_nil, decide_true, decide_false, Bool.not_true, Bool.not_false, true_and, and_true, ne_eq, not_true_eq_false, not_false_eq_true, forall_const, List.getElem?_cons_zero, List.getElem?_cons_succ, ha1]; (first | refine SW.cond rfl (fun h => ?_) (fun h => ?_) | (intro _; refine SW.cond rfl (fun h => ?_) (fun h => ?_)) | (intro _ _; refine SW.cond rfl (fun h => ?_) (fun h => ?_)))
  · have hlt : i < xs.length := by simpa using h
    have hlt' : i < ys.length := by omega
    have hca : i < ca.length := by omega
    have hcb : i < cb.length := by omega
    refine SW.skip ?_; simp only [go_sem, Nat.reduceAdd, Nat.reduceEqDiff, Nat.reduceLeDiff, Nat.reduceMul, reduceIte, Nat.zero_ne_one, Nat.one_ne_zero, Nat.zero_add, Nat.add_zero, List.map_cons, List.map_nil, List.length_cons, List.length_nil, decide_true, decide_false, Bool.not_true, Bool.not_false, true_and, and_true, ne_eq, not_true_eq_false, not_false_eq_true, forall_const, List.getElem?_cons_zero, List.getElem?_cons_succ]
    refine SW.seq ?_; refine SW.block ?_; refine SW.seq ?_; refine SW.row ?_; simp only [go_sem, Nat.reduceAdd, Nat.reduceEqDiff, Nat.reduceLeDiff, Nat.reduceMul, reduceIte, Nat.zero_ne_one, Nat.one_ne_zero, Nat.zero_add, Nat.add_zero, List.map_cons, List.map_nil, List.length_cons, List.length_nil, decide_true, decide_false, Bool.not_true, Bool.not_false, true_and, and_true, ne_eq, not_true_eq_false, not_false_eq_true, forall_const, List.getElem?_cons_zero, List.getElem?_cons_succ, idxc ha1 hlt, idxc hb1 hlt', ldc ha1 (List.getElem?_eq_getElem hca), ldc hb1 (List.getElem?_eq_getElem hcb)]
    refine QcallW.of (fun ext => hg _ _ _ _ _ (RdS.append (ha3 i _ _ (List.getElem?_eq_getElem hca) (List.getElem?_eq_getElem hlt)) ext) (RdS.append (hb3 i _ _ (List.getElem?_eq_getElem hcb) (List.getElem?_eq_getElem hlt')) ext)) ?_
    simp only [go_sem, Nat.reduceAdd, Nat.reduceEqDiff, Nat.reduceLeDiff, Nat.reduceMul, reduceIte, Nat.zero_ne_one, Nat.one_ne_zero, Nat.zero_add, Nat.add_zero, List.map_cons, List.map_nil, List.length_cons, List.length_nil, decide_true, decide_false, Bool.not_true, Bool.not_false, true_and, and_true, ne_eq, not_true_eq_false, not_false_eq_true, forall_const, List.getElem?_cons_zero, List.getElem?_cons_succ]
    refine SW.cond rfl (fun h => ?_) (fun h => ?_)
    · refine SW.seq ?_; refine SW.row ?_; simp only [go_sem, Nat.reduceAdd, Nat.reduceEqDiff, Nat.reduceLeDiff, Nat.reduceMul, reduceIte, Nat.zero_ne_one, Nat.one_ne_zero, Nat.zero_add, Nat.add_zero, List.map_cons, List.map_nil, List.length_cons, List.length_nil, decide_true, decide_false, Bool.not_true, Bool.not_false, true_and, and_true, ne_eq, not_true_eq_false, not_false_eq_true, forall_const, List.getElem?_cons_zero, List.getElem?_cons_succ]
      refine SW.ret ?_; (try simp only [go_sem]); refine FunPost.one (GR.of ?_); (try simp only [go_sem, Nat.reduceAdd, Nat.reduceEqDiff, Nat.reduceLeDiff, Nat.reduceMul, reduceIte, Nat.zero_ne_one, Nat.one_ne_zero, Nat.zero_add, Nat.add_zero, List.map_cons, List.map_nil, List.length_cons, List.length_nil, decide_true, decide_false, Bool.not_true, Bool.not_false, true_and, and_true, ne_eq, not_true_eq_false, not_false_eq_true, forall_const, List.getElem?_cons_zero, List.getElem?_cons_succ])
      have hne : xs ≠ ys := by rintro rfl; simp at h
      simp [hne]
    · refine SW.skip ?_; simp only [go_sem, Nat.reduceAdd, Nat.reduceEqDiff, Nat.reduceLeDiff, Nat.reduceMul, reduceIte, Nat.zero_ne_one, Nat.one_ne_zero, Nat.zero_add, Nat.add_zero, List.map_cons, List.map_nil, List.length_cons, List.length_nil, decide_true, decide_false, Bool.not_true, Bool.not_false, true_and, and_true, ne_eq, not_true_eq_false, not_false_eq_true, forall_const, List.getElem?_cons_zero, List.getElem?_cons_succ]
      refine SW.row ?_; simp only [go_sem, Nat.reduceAdd, Nat.reduceEqDiff, Nat.reduceLeDiff, Nat.reduceMul, reduceIte, Nat.zero_ne_one, Nat.one_ne_zero, Nat.zero_add, Nat.add_zero, List.map_cons, List.map_nil, List.length_cons, List.length_nil, decide_true, decide_false, Bool.not_true, Bool.not_false, true_and, and_true, ne_eq, not_true_eq_false, not_false_eq_true, forall_const, List.getElem?_cons_zero, List.getElem?_cons_succ, w64_succ hlt hla]
      refine SLoop.next (xs.length - (i + 1)) (by omega) ⟨i + 1, by omega, rfl, ?_, rfl, ?_⟩
      · simp only [go_sem]; rfl
      · rw [List.take_add_one, List.take_add_one, heq, List.getElem?_eq_getElem hlt, List.getElem?_eq_getElem hlt']
        have : xs[i] = ys[i] := by simpa using h
        rw [this]
  · refine SW.exit ?_; simp only [go_sem, Nat.reduceAdd, Nat.reduceEqDiff, Nat.reduceLeDiff, Nat.reduceMul, reduceIte, Nat.zero_ne_one, Nat.one_ne_zero, Nat.zero_add, Nat.add_zero, List.map_cons, List.map_nil, List.length_cons, List.length_nil, decide_true, decide_false, Bool.not_true, Bool.not_false, true_and, and_true, ne_eq, not_true_eq_false, not_false_eq_true, forall_const, List.getElem?_cons_zero, List.getElem?_cons_succ]
    refine SW.seq ?_; refine SW.row ?_; simp only [go_sem, Nat.reduceAdd, Nat.reduceEqDiff, Nat.reduceLeDiff, Nat.reduceMul, reduceIte, Nat.zero_ne_one, Nat.one_ne_zero, Nat.zero_add, Nat.add_zero, List.map_cons, List.map_nil, List.length_cons, List.length_nil, decide_true, decide_false, Bool.not_true, Bool.not_false, true_and, and_true, ne_eq, not_true_eq_false, not_false_eq_true, forall_const, List.getElem?_cons_zero, List.getElem?_cons_succ]
    refine SW.ret ?_; (try simp only [go_sem]); refine FunPost.one (GR.of ?_); (try simp only [go_sem, Nat.reduceAdd, Nat.reduceEqDiff, Nat.reduceLeDiff, Nat.reduceMul, reduceIte, Nat.zero_ne_one, Nat.one_ne_zero, Nat.zero_add, Nat.add_zero, List.map_cons, List.map_nil, List.length_cons, List.length_nil, decide_true, decide_false, Bool.not_true, Bool.not_false, true_and, and_true, ne_eq, not_true_eq_false, not_false_eq_true, forall_const, List.getElem?_cons_zero, List.getElem?_cons_succ])
    have hi' : i = xs.length := by
      have : ¬ i < xs.length := by simpa using h
      omega
    subst hi'
    have : xs = ys := by
      rw [List.take_length] at heq
      rw [heq, hlen, List.take_length]
    simp [this]

end Go.Proofs.YtdgcgckehihboaaDoor
