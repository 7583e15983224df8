/- Slices of integers, read. -/
import Derived.Test.YtmdeibdplpodpaaProg
import Derived.KernelRfl
import Derived.Test.YtmdeibdplpodpaazAvC
set_option linter.unusedSimpArgs false
set_option linter.unusedVariables false
set_option maxHeartbeats 4000000
set_option maxRecDepth 100000
namespace Go.Proofs.Ytmdeibdplpodpaa
open Go.Av
abbrev f_laws_eqInt64S : Nat := 12
def c_laws_eqInt64S : SC :=
 .seq (.reg [
     ⟨(some 4), .mv (.const (.bool false)), none⟩] [0, 1])
 (.seq (.seq (.reg [
     ⟨(some 6), .mv (.tmp 0), none⟩,
     ⟨(some 7), .len (.tmp 6), none⟩,
     ⟨(some 8), .mv (.tmp 1), none⟩,
     ⟨(some 9), .len (.tmp 8), none⟩,
     ⟨(some 10), .bin .neq (.tmp 7) (.tmp 9), none⟩] [0, 1, 10])
 (.cond (.tmp 10)
  (.seq (.reg [
      ⟨(some 4), .mv (.const (.bool false)), none⟩] [4])
  (.ret))
  (.skip)))
 (.seq (.seq (.reg [
     ⟨(some 5), .mv (.const (.int .i64 0)), none⟩] [0, 1, 5])
 (.block 0 (.loop [0, 1, 5]
   (.seq (.seq (.reg [
       ⟨(some 11), .mv (.tmp 5), none⟩,
       ⟨(some 12), .mv (.tmp 0), none⟩,
       ⟨(some 13), .len (.tmp 12), none⟩,
       ⟨(some 14), .bin .lss (.tmp 11) (.tmp 13), none⟩] [0, 1, 5, 14])
   (.cond (.tmp 14)
    (.skip)
    (.exit 0)))
   (.seq (.block 1 (.seq (.reg [
        ⟨(some 17), .mv (.tmp 0), none⟩,
        ⟨(some 18), .mv (.tmp 5), none⟩,
        ⟨(some 19), .iaddr 1 (.tmp 17) (.tmp 18), none⟩,
        ⟨(some 20), .load 1 false (.tmp 19), none⟩,
        ⟨(some 21), .mv (.tmp 1), none⟩,
        ⟨(some 22), .mv (.tmp 5), none⟩,
        ⟨(some 23), .iaddr 1 (.tmp 21) (.tmp 22), none⟩,
        ⟨(some 24), .load 1 false (.tmp 23), none⟩,
        ⟨(some 25), .bin .neq (.tmp 20) (.tmp 24), none⟩] [0, 1, 5, 25])
    (.cond (.tmp 25)
     (.seq (.reg [
         ⟨(some 4), .mv (.const (.bool false)), none⟩] [4])
     (.ret))
     (.skip))))
   (.reg [
       ⟨(some 15), .mv (.tmp 5), none⟩,
       ⟨(some 16), .bin .add (.tmp 15) (.const (.int .i64 1)), none⟩,
       ⟨(some 5), .mv (.tmp 16), none⟩] [0, 1, 5]))))))
 (.seq (.reg [
     ⟨(some 4), .mv (.const (.bool true)), none⟩] [4])
 (.ret))))
theorem s_laws_eqInt64S : stripF Try.prog 12 [[0, 1], [0, 1, 10], [4], [0, 1, 5], [0, 1, 5], [0, 1, 5, 14], [0, 1, 5, 25], [4], [0, 1, 5], [4]] = some (c_laws_eqInt64S, [.tmp 4], 26) := by kernel_rfl
abbrev RdS (H : List Blk) (a : AV) (xs : List Int) : Prop := aview H a = some (xs.length, xs.map I)
theorem rd_get (xs : List Int) {i : Nat} (h : i < xs.length) : (xs.map I)[i]? = some (I xs[i]) := by
  simp [List.getElem?_eq_getElem h]
section
variable {H : List Blk} {a : AV} {xs : List Int} {K : AV → List Blk → Prop}
theorem idx (ha : RdS H a xs) {i : Nat} (h : i < xs.length) : IaddrW 1 a (I i) H K = K (.el a i) H := by
  rw [IaddrW_of (n := 1) (H := H) (Kv := K) (i := i) ha]
  simp only [Int.toNat_natCast, Nat.mul_one]
  exact propext ⟨fun g => g.2.2, fun g => ⟨by omega, by omega, g⟩⟩
theorem ld (ha : RdS H a xs) {i : Nat} (h : i < xs.length) : acell1 H (.el a i) = some (I xs[i]) := by
  simp only [acell1, ha]
  exact rd_get xs h
end
theorem w64_succ {i n : Nat} (h : i < n) (hn : n ≤ 9223372036854775807) : w64 ((i : Int) + 1) = ((i + 1 : Nat) : Int) := by
  rw [w64_id (by omega) (by omega)]; omega
theorem eqS_of {f : Nat} {anns : List (List Nat)} (hs : stripF Try.prog f anns = some (c_laws_eqInt64S, [.tmp 4], 26)) (H : List Blk) (a b : AV) (xs ys : List Int) (ha : RdS H a xs) (hb : RdS H b ys) :
    ACalls Try.prog f [a, b] H (fun r H' => r = Bv (decide (xs = ys)) ∧ H' = H) := by
  refine ACalls.intro hs (by simp) ?_
  refine SW.seq ?_; refine SW.row ?_; simp only [go_sem, Nat.reduceAdd, Nat.reduceEqDiff, Nat.reduceLeDiff, Nat.reduceMul, reduceIte, Nat.zero_ne_one, Nat.one_ne_zero, Nat.zero_add, Nat.add_zero, List.map_cons, List.map_nil, List.length_cons, List.length_nil, decide_true, decide_false, Bool.not_true, Bool.not_false, true_and, and_true, ne_eq, not_true_eq_false, not_false_eq_true, forall_const, List.getElem?_cons_zero, List.getElem?_cons_succ]
  refine SW.seq ?_; refine SW.seq ?_; refine SW.row ?_; simp only [go_sem, Nat.reduceAdd, Nat.reduceEqDiff, Nat.reduceLeDiff, Nat.reduceMul, reduceIte, Nat.zero_ne_one, Nat.one_ne_zero, Nat.zero_add, Nat.add_zero, List.map_cons, List.map_nil, List.length_cons, List.length_nil, decide_true, decide_false, Bool.not_true, Bool.not_false, true_and, and_true, ne_eq, not_true_eq_false, not_false_eq_true, forall_const, List.getElem?_cons_zero, List.getElem?_cons_succ, ha, hb]
  intro hla hlb
  refine SW.cond rfl (fun h => ?_) (fun h => ?_)
  · refine SW.seq ?_; refine SW.row ?_; simp only [go_sem, Nat.reduceAdd, Nat.reduceEqDiff, Nat.reduceLeDiff, Nat.reduceMul, reduceIte, Nat.zero_ne_one, Nat.one_ne_zero, Nat.zero_add, Nat.add_zero, List.map_cons, List.map_nil, List.length_cons, List.length_nil, decide_true, decide_false, Bool.not_true, Bool.not_false, true_and, and_true, ne_eq, not_true_eq_false, not_false_eq_true, forall_const, List.getElem?_cons_zero, List.getElem?_cons_succ]
    refine SW.ret ?_
    refine FunPost.one (GR.of ?_)
    refine ⟨?_, rfl⟩
    have hne : xs ≠ ys := by rintro rfl; simp at h
    simp [aget, hne]
  refine SW.skip ?_
  have hlen : xs.length = ys.length := by
    have := of_decide_eq_true (by simpa using h : decide ((xs.length : Int) = ys.length) = true)
    omega
  simp only [go_sem]
  refine SW.seq ?_; refine SW.seq ?_; refine SW.row ?_; simp only [go_sem, Nat.reduceAdd, Nat.reduceEqDiff, Nat.reduceLeDiff, Nat.reduceMul, reduceIte, Nat.zero_ne_one, Nat.one_ne_zero, Nat.zero_add, Nat.add_zero, List.map_cons, List.map_nil, List.length_cons, List.length_nil, decide_true, decide_false, Bool.not_true, Bool.not_false, true_and, and_true, ne_eq, not_true_eq_false, not_false_eq_true, forall_const, List.getElem?_cons_zero, List.getElem?_cons_succ]
  refine SW.block ?_
  refine SW.loop (fun k E H' => ∃ i : Nat, i ≤ xs.length ∧ k = xs.length - i ∧ E = [(0, a), (1, b), (5, I i)] ∧ H' = H ∧ xs.take i = ys.take i) xs.length ⟨0, by omega, by omega, rfl, rfl, rfl⟩ ?_
  rintro k E H' ⟨i, hi, rfl, rfl, rfl, heq⟩
  refine SW.seq ?_; refine SW.seq ?_; refine SW.row ?_; simp only [go_sem, Nat.reduceAdd, Nat.reduceEqDiff, Nat.reduceLeDiff, Nat.reduceMul, reduceIte, Nat.zero_ne_one, Nat.one_ne_zero, Nat.zero_add, Nat.add_zero, List.map_cons, List.map_nil, List.length_cons, List.length_nil, decide_true, decide_false, Bool.not_true, Bool.not_false, true_and, and_true, ne_eq, not_true_eq_false, not_false_eq_true, forall_const, List.getElem?_cons_zero, List.getElem?_cons_succ, ha]
  intro _
  refine SW.cond rfl (fun h => ?_) (fun h => ?_)
  · have hlt : i < xs.length := by simpa using h
    have hlt' : i < ys.length := by omega
    refine SW.skip ?_
    simp only [go_sem]
    refine SW.seq ?_; refine SW.block ?_; refine SW.seq ?_; refine SW.row ?_; simp only [go_sem, Nat.reduceAdd, Nat.reduceEqDiff, Nat.reduceLeDiff, Nat.reduceMul, reduceIte, Nat.zero_ne_one, Nat.one_ne_zero, Nat.zero_add, Nat.add_zero, List.map_cons, List.map_nil, List.length_cons, List.length_nil, decide_true, decide_false, Bool.not_true, Bool.not_false, true_and, and_true, ne_eq, not_true_eq_false, not_false_eq_true, forall_const, List.getElem?_cons_zero, List.getElem?_cons_succ, idx ha hlt, idx hb hlt', ld ha hlt, ld hb hlt']
    refine SW.cond rfl (fun h => ?_) (fun h => ?_)
    · refine SW.seq ?_; refine SW.row ?_; simp only [go_sem, Nat.reduceAdd, Nat.reduceEqDiff, Nat.reduceLeDiff, Nat.reduceMul, reduceIte, Nat.zero_ne_one, Nat.one_ne_zero, Nat.zero_add, Nat.add_zero, List.map_cons, List.map_nil, List.length_cons, List.length_nil, decide_true, decide_false, Bool.not_true, Bool.not_false, true_and, and_true, ne_eq, not_true_eq_false, not_false_eq_true, forall_const, List.getElem?_cons_zero, List.getElem?_cons_succ]
      refine SW.ret ?_
      simp only [go_sem]
      refine FunPost.one (GR.of ?_)
      refine ⟨?_, rfl⟩
      have hne : xs ≠ ys := by rintro rfl; simp at h
      simp [aget, hne]
    · refine SW.skip ?_
      simp only [go_sem]
      refine SW.row ?_; simp only [go_sem, Nat.reduceAdd, Nat.reduceEqDiff, Nat.reduceLeDiff, Nat.reduceMul, reduceIte, Nat.zero_ne_one, Nat.one_ne_zero, Nat.zero_add, Nat.add_zero, List.map_cons, List.map_nil, List.length_cons, List.length_nil, decide_true, decide_false, Bool.not_true, Bool.not_false, true_and, and_true, ne_eq, not_true_eq_false, not_false_eq_true, forall_const, List.getElem?_cons_zero, List.getElem?_cons_succ, w64_succ hlt hla]
      refine SLoop.next (xs.length - (i + 1)) (by omega) ⟨i + 1, by omega, rfl, ?_, rfl, ?_⟩
      · simp only [go_sem]; rfl
      · rw [List.take_add_one, List.take_add_one, heq, List.getElem?_eq_getElem hlt, List.getElem?_eq_getElem hlt']
        have : xs[i] = ys[i] := by simpa using h
        rw [this]
  · refine SW.exit ?_
    simp only [go_sem, reduceIte]
    refine SW.seq ?_; refine SW.row ?_; simp only [go_sem, Nat.reduceAdd, Nat.reduceEqDiff, Nat.reduceLeDiff, Nat.reduceMul, reduceIte, Nat.zero_ne_one, Nat.one_ne_zero, Nat.zero_add, Nat.add_zero, List.map_cons, List.map_nil, List.length_cons, List.length_nil, decide_true, decide_false, Bool.not_true, Bool.not_false, true_and, and_true, ne_eq, not_true_eq_false, not_false_eq_true, forall_const, List.getElem?_cons_zero, List.getElem?_cons_succ]
    refine SW.ret ?_
    refine FunPost.one (GR.of ?_)
    refine ⟨?_, rfl⟩
    have hi' : i = xs.length := by
      have : ¬ i < xs.length := by simpa using h
      omega
    subst hi'
    have : xs = ys := by
      rw [List.take_length] at heq
      rw [heq, hlen, List.take_length]
    simp [aget, this]
theorem eqInt64S_ok (H : List Blk) (a b : AV) (xs ys : List Int) (ha : RdS H a xs) (hb : RdS H b ys) :
    ACalls Try.prog f_laws_eqInt64S [a, b] H (fun r H' => r = Bv (decide (xs = ys)) ∧ H' = H) := eqS_of s_laws_eqInt64S H a b xs ys ha hb
theorem RdS.append {H : List Blk} {a : AV} {xs : List Int} (h : RdS H a xs) (ext : List Blk) : RdS (H ++ ext) a xs := aview_append h ext
def RdSS (H : List Blk) (a : AV) (xss : List (List Int)) : Prop := ∃ cells, aview H a = some (xss.length, cells) ∧ cells.length = xss.length ∧ ∀ (j : Nat) (c : AV) (xs : List Int), cells[j]? = some c → xss[j]? = some xs → RdS H c xs
theorem RdSS.append {H : List Blk} {a : AV} {xss : List (List Int)} (h : RdSS H a xss) (ext : List Blk) : RdSS (H ++ ext) a xss := by
  obtain ⟨cells, h1, h2, h3⟩ := h
  exact ⟨cells, aview_append h1 ext, h2, fun j c xs g1 g2 => RdS.append (h3 j c xs g1 g2) ext⟩
section
variable {H : List Blk} {a : AV} {n : Nat} {cells : List AV} {K : AV → List Blk → Prop}
theorem idxc (ha : aview H a = some (n, cells)) {i : Nat} (h : i < n) : IaddrW 1 a (I i) H K = K (.el a i) H := by
  rw [IaddrW_of (n := 1) (H := H) (Kv := K) (i := i) ha]
  simp only [Int.toNat_natCast, Nat.mul_one]
  exact propext ⟨fun g => g.2.2, fun g => ⟨by omega, by omega, g⟩⟩
theorem view_nm {r ver ty : Nat} (h : H[r]? = some ⟨ver, ty, 1, cells⟩) (hn : cells.length = n) : aview H (.nm r ver 0 n) = some (n, cells) := by
  simp only [aview, h, if_true, List.drop_zero, Nat.mul_one]
  rw [← hn, List.take_length]
theorem store_nm {r ver ty : Nat} {c : AV} (h : H[r]? = some ⟨ver, ty, 1, cells⟩) {i : Nat} (hi : i < cells.length) : astore H [c] (.el (.nm r ver 0 n) i) = some (H.set r ⟨ver, ty, 1, cells.set i c⟩) := by
  simp only [astore, h, List.length_cons, List.length_nil, Nat.zero_add, setMany]
  rw [if_pos ⟨trivial, by omega⟩]
end
@[go_sem] theorem partsOf_I (n : Int) : partsOf (I n) = [I n] := (rfl)
@[go_sem] theorem cell1_I (n : Int) : (I n).cell1 = true := (rfl)
@[go_sem] theorem all_nil1 (f : AV → Bool) : ([] : List AV).all f = true := (rfl)
@[go_sem] theorem all_cons1 (f : AV → Bool) (c : AV) (cs : List AV) : (c :: cs).all f = (f c && cs.all f) := (rfl)
attribute [go_sem] Bool.and_true Bool.true_and
end Go.Proofs.Ytmdeibdplpodpaa
