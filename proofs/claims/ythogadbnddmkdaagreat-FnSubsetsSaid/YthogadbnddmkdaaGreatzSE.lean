/- What the laws of the tenth part share: some permutation, equal lists; ApplySet. -/
import Derived.Test.YthogadbnddmkdaaGreatProg
import Derived.KernelRfl
import Derived.Test.YthogadbnddmkdaaGreatzSR
import Derived.Test.YthogadbnddmkdaaGreatzK62
import Derived.Test.YthogadbnddmkdaaGreatzK64
import Derived.Test.YthogadbnddmkdaaGreatzY0
import Derived.Test.YthogadbnddmkdaaGreatzQ2
import Derived.Test.YthogadbnddmkdaaGreatzK2
import Derived.Test.YthogadbnddmkdaaGreatzL1
set_option linter.unusedSimpArgs false
set_option linter.unusedVariables false
set_option maxHeartbeats 4000000
set_option maxRecDepth 100000
namespace Go.Proofs.YthogadbnddmkdaaGreat
open Go.Av
abbrev f_laws_b10Long : Nat := 7
def c_laws_b10Long : SC :=
 .seq (.reg [
     ⟨(some 2), .mv (.const (.bool false)), none⟩] [0])
 (.seq (.reg [
     ⟨(some 3), .mv (.tmp 0), none⟩,
     ⟨(some 4), .len (.tmp 3), none⟩,
     ⟨(some 5), .bin .gtr (.tmp 4) (.const (.int .i64 1048576)), none⟩,
     ⟨(some 2), .mv (.tmp 5), none⟩] [2])
 (.ret))
theorem s_laws_b10Long : stripF Tryz.prog 7 [[0], [2]] = some (c_laws_b10Long, [.tmp 2], 6) := by kernel_rfl
abbrev f_impl_CompareLists : Nat := 23
def c_impl_CompareLists : SC :=
 .seq (.reg [
     ⟨(some 4), .mv (.const (.int .i64 0)), none⟩] [0, 1])
 (.seq (.reg [
     ⟨(some 5), .mv (.tmp 0), none⟩,
     ⟨(some 6), .mv (.tmp 1), none⟩,
     ⟨(some 7), .call 65 [(.tmp 5), (.tmp 6)], none⟩,
     ⟨(some 4), .mv (.tmp 7), none⟩] [4])
 (.ret))
theorem s_impl_CompareLists : stripF Tryz.prog 23 [[0, 1], [4]] = some (c_impl_CompareLists, [.tmp 4], 8) := by kernel_rfl
abbrev f_laws_b10At : Nat := 25
def c_laws_b10At : SC :=
 .seq (.reg [
     ⟨(some 6), .mv (.const (.int .i64 0)), none⟩] [0, 1, 2])
 (.seq (.seq (.reg [
     ⟨(some 7), .mv (.tmp 2), none⟩,
     ⟨(some 8), .bin .leq (.tmp 7) (.const (.int .i64 1)), none⟩] [0, 1, 2, 8])
 (.cond (.tmp 8)
  (.seq (.reg [
      ⟨(some 6), .mv (.const (.int .i64 0)), none⟩] [6])
  (.ret))
  (.skip)))
 (.seq (.seq (.reg [
     ⟨(some 9), .mv (.tmp 1), none⟩,
     ⟨(some 10), .mv (.tmp 0), none⟩,
     ⟨(some 11), .len (.tmp 10), none⟩,
     ⟨(some 12), .bin .lss (.tmp 9) (.tmp 11), none⟩] [0, 1, 2, 12])
 (.cond (.tmp 12)
  (.seq (.reg [
      ⟨(some 13), .mv (.tmp 0), none⟩,
      ⟨(some 14), .mv (.tmp 1), none⟩,
      ⟨(some 15), .iaddr 1 (.tmp 13) (.tmp 14), none⟩,
      ⟨(some 16), .load 1 false (.tmp 15), none⟩,
      ⟨(some 17), .conv .i64 (.tmp 16), none⟩,
      ⟨(some 18), .mv (.tmp 2), none⟩,
      ⟨(some 19), .bin .rem (.tmp 17) (.tmp 18), none⟩,
      ⟨(some 6), .mv (.tmp 19), none⟩] [6])
  (.ret))
  (.skip)))
 (.seq (.reg [
     ⟨(some 20), .mv (.tmp 1), none⟩,
     ⟨(some 21), .bin .mul (.tmp 20) (.const (.int .i64 37)), none⟩,
     ⟨(some 22), .bin .add (.tmp 21) (.const (.int .i64 11)), none⟩,
     ⟨(some 23), .mv (.tmp 2), none⟩,
     ⟨(some 24), .bin .rem (.tmp 22) (.tmp 23), none⟩,
     ⟨(some 6), .mv (.tmp 24), none⟩] [6])
 (.ret))))
theorem s_laws_b10At : stripF Tryz.prog 25 [[0, 1, 2], [0, 1, 2, 8], [6], [0, 1, 2, 12], [6], [6]] = some (c_laws_b10At, [.tmp 6], 25) := by kernel_rfl
abbrev f_laws_b10Nums : Nat := 28
def c_laws_b10Nums : SC :=
 .seq (.reg [
     ⟨(some 4), .mv (.const (.bool false)), none⟩] [0, 1])
 (.seq (.seq (.reg [
     ⟨(some 6), .mv (.tmp 0), none⟩,
     ⟨(some 7), .len (.tmp 6), none⟩,
     ⟨(some 8), .mv (.tmp 1), none⟩,
     ⟨(some 9), .len (.tmp 8), none⟩,
     ⟨(some 10), .bin .neq (.tmp 7) (.tmp 9), none⟩] [0, 1, 10])
 (.cond (.tmp 10)
  (.seq (.reg [
      ⟨(some 4), .mv (.const (.bool false)), none⟩] [4])
  (.ret))
  (.skip)))
 (.seq (.seq (.reg [
     ⟨(some 5), .mv (.const (.int .i64 0)), none⟩] [0, 1, 5])
 (.block 0 (.loop [0, 1, 5]
   (.seq (.seq (.reg [
       ⟨(some 11), .mv (.tmp 5), none⟩,
       ⟨(some 12), .mv (.tmp 0), none⟩,
       ⟨(some 13), .len (.tmp 12), none⟩,
       ⟨(some 14), .bin .lss (.tmp 11) (.tmp 13), none⟩] [0, 1, 5, 14])
   (.cond (.tmp 14)
    (.skip)
    (.exit 0)))
   (.seq (.block 1 (.seq (.reg [
        ⟨(some 17), .mv (.tmp 0), none⟩,
        ⟨(some 18), .mv (.tmp 5), none⟩,
        ⟨(some 19), .iaddr 1 (.tmp 17) (.tmp 18), none⟩,
        ⟨(some 20), .load 1 false (.tmp 19), none⟩,
        ⟨(some 21), .mv (.tmp 1), none⟩,
        ⟨(some 22), .mv (.tmp 5), none⟩,
        ⟨(some 23), .iaddr 1 (.tmp 21) (.tmp 22), none⟩,
        ⟨(some 24), .load 1 false (.tmp 23), none⟩,
        ⟨(some 25), .bin .neq (.tmp 20) (.tmp 24), none⟩] [0, 1, 5, 25])
    (.cond (.tmp 25)
     (.seq (.reg [
         ⟨(some 4), .mv (.const (.bool false)), none⟩] [4])
     (.ret))
     (.skip))))
   (.reg [
       ⟨(some 15), .mv (.tmp 5), none⟩,
       ⟨(some 16), .bin .add (.tmp 15) (.const (.int .i64 1)), none⟩,
       ⟨(some 5), .mv (.tmp 16), none⟩] [0, 1, 5]))))))
 (.seq (.reg [
     ⟨(some 4), .mv (.const (.bool true)), none⟩] [4])
 (.ret))))
theorem s_laws_b10Nums : stripF Tryz.prog 28 [[0, 1], [0, 1, 10], [4], [0, 1, 5], [0, 1, 5], [0, 1, 5, 14], [0, 1, 5, 25], [4], [0, 1, 5], [4]] = some (c_laws_b10Nums, [.tmp 4], 26) := by kernel_rfl
def ilY (ns : List Int) : AV := .il ns.length (ns.map U8)
theorem codeOk_ilY {ns : List Int} (h : ∀ z ∈ ns, 0 ≤ z ∧ z < 256) (hl : ns.length ≤ 2000000) : CodeOk (ilY ns) ns := ⟨fun _ => rfl, h, hl⟩
theorem Bel_ilY (k : Nat) (ns : List Int) : Bel k (ilY ns) := .il _ _ (by intro c h; obtain ⟨x, _, rfl⟩ := List.mem_map.1 h; exact .lit _)
section
variable {H : List Blk} {i : Nat}
@[go_sem] theorem aview_ilY (ns : List Int) : aview H (ilY ns) = some (ns.length, ns.map U8) := rfl
@[go_sem] theorem getU8 {ns : List Int} (h : i < ns.length) : (ns.map U8)[i]? = some (U8 (ns.getD i 0)) := by simp [List.getElem?_eq_getElem h]
@[go_sem] theorem cell1_ilY (ns : List Int) : (ilY ns).cell1 = true := rfl
@[go_sem] theorem partsOf_ilY (ns : List Int) : partsOf (ilY ns) = [ilY ns] := rfl
end
theorem b10Long_fn (ns : List Int) : PFn Tryz.prog f_laws_b10Long [ilY ns] (Bv (decide ((1048576 : Int) < ns.length))) := by
  intro H; refine ACalls.introB s_laws_b10Long (by simp) ?_; intro hB hA; unfold c_laws_b10Long; simp (config := { maxSteps := 1000000 }) (disch := (first | omega | (simp only [go_sem]; try omega))) only [go_sem, Nat.reduceAdd, Nat.reduceEqDiff, Nat.reduceLeDiff, Nat.reduceMul, Nat.reduceLT, reduceIte, Int.reduceToNat, w64_id, cast_succ]
  repeat (first | (with_reducible first | refine SW.seq ?_ | refine SW.block ?_ | refine SW.rowC ?_ | refine SW.skip ?_ | refine SW.exit ?_ | intro _ | refine And.intro (by omega) ?_) | simp (config := { maxSteps := 1000000 }) (disch := (first | omega | (simp only [go_sem]; try omega))) only [go_sem, Nat.reduceAdd, Nat.reduceEqDiff, Nat.reduceLeDiff, Nat.reduceMul, Nat.reduceLT, reduceIte, Int.reduceToNat, w64_id, cast_succ])
  refine SW.ret ?_; (try simp only [go_sem]); (first | refine FunPost.one ?_ | refine FunPost.two ?_ | refine FunPost.three ?_); (try simp (config := { maxSteps := 1000000 }) (disch := (first | omega | (simp only [go_sem]; try omega))) only [go_sem, Nat.reduceAdd, Nat.reduceEqDiff, Nat.reduceLeDiff, Nat.reduceMul, Nat.reduceLT, reduceIte, Int.reduceToNat, w64_id, cast_succ]); (first | (with_reducible refine GR.drop ?_ ?_; (simp only [go_sem, and_self, and_true, true_and, implies_true, List.take_succ_cons, List.take_zero])) | refine GR.of ?_); refine ⟨?_, rfl⟩; (try with_reducible rfl)
theorem implCompareLists_fn (a b : List Int) : PFn Tryz.prog f_impl_CompareLists [ilS a, ilS b] (I (cmpL a b)) := by
  intro H; refine ACalls.introB s_impl_CompareLists (by simp) ?_; intro hB hA; unfold c_impl_CompareLists; simp (config := { maxSteps := 1000000 }) (disch := (first | omega | (simp only [go_sem]; try omega))) only [go_sem, Nat.reduceAdd, Nat.reduceEqDiff, Nat.reduceLeDiff, Nat.reduceMul, Nat.reduceLT, reduceIte, Int.reduceToNat, w64_id, cast_succ]
  repeat (first | (with_reducible first | refine SW.seq ?_ | refine SW.block ?_ | refine SW.rowC ?_ | refine SW.skip ?_ | refine SW.exit ?_ | refine PFn.use (slicesCompare_fn _ _) ?_ | refine PFn.useq (slicesCompare_fn _ _) ?_ | intro _ | refine And.intro (by omega) ?_) | simp (config := { maxSteps := 1000000 }) (disch := (first | omega | (simp only [go_sem]; try omega))) only [go_sem, Nat.reduceAdd, Nat.reduceEqDiff, Nat.reduceLeDiff, Nat.reduceMul, Nat.reduceLT, reduceIte, Int.reduceToNat, w64_id, cast_succ])
  refine SW.ret ?_; (try simp only [go_sem]); (first | refine FunPost.one ?_ | refine FunPost.two ?_ | refine FunPost.three ?_); (try simp (config := { maxSteps := 1000000 }) (disch := (first | omega | (simp only [go_sem]; try omega))) only [go_sem, Nat.reduceAdd, Nat.reduceEqDiff, Nat.reduceLeDiff, Nat.reduceMul, Nat.reduceLT, reduceIte, Int.reduceToNat, w64_id, cast_succ]); (first | (with_reducible refine GR.drop ?_ ?_; (simp only [go_sem, and_self, and_true, true_and, implies_true, List.take_succ_cons, List.take_zero])) | refine GR.of ?_); refine ⟨?_, rfl⟩; (try with_reducible rfl)
end Go.Proofs.YthogadbnddmkdaaGreat
namespace Go.Proofs.YthogadbnddmkdaaGreat
open Go.Av
theorem permOk_swap {n : Nat} {p : List Int} (hp : permOk n p) {i j : Nat} (hi : i < p.length) (hj : j < p.length) : permOk n ((p.set i p[j]).set j p[i]) := by
  have h : ((p.set i p[j]).set j p[i]).Perm p := List.set_set_perm hi hj
  refine ⟨by simpa using hp.1, h.nodup_iff.2 hp.2.1, fun x hx => hp.2.2 x (h.mem_iff.1 hx)⟩
end Go.Proofs.YthogadbnddmkdaaGreat
namespace Go.Proofs.YthogadbnddmkdaaGreat
open Go.Av Go.RowKit Go.Shelf
theorem byteBounds {n : Int} (h : (Lit.int .u8 n).wf = true) : 0 ≤ n ∧ n < 256 := by
  simp [Lit.wf, IntKind.min, IntKind.max, IntKind.signed, IntKind.bits] at h
  omega
theorem reads_byte {H : Type} {enc : TypeId × Value → H} {P : Program} {w : World} {held : Bool} {t : TypeId} {fuel : Nat} {cs : List Value} {x : DataW H × List MemPlace} (ht : P.underlying t = some (.int .u8)) (h : DataW.trod enc P w 0 (fun _ => true) held fuel t cs = some x) : ∃ n : Int, Reads w [U8 n] cs ∧ (0 ≤ n ∧ n < 256) := by
  obtain ⟨n, rfl, _, hw⟩ := DataW.trod_int ht h
  exact ⟨n, ⟨Rels.cons (.lit _) (Rels.nil _ _), by simp [U8, AV.cell1, Value.oneCell']⟩, byteBounds hw⟩
theorem reads_bytes {H : Type} {enc : TypeId × Value → H} {P : Program} {w : World} {held : Bool} {t e : TypeId} {fuel : Nat} {cs : List Value} {x : DataW H × List MemPlace} (ht : P.underlying t = some (.slice e)) (hc : 0 < P.cellsOf e) (he : P.underlying e = some (.int .u8)) (h : DataW.trod enc P w 0 (fun _ => true) held fuel t cs = some x) :
    ∃ xs : List Int, Reads w [ilY xs] cs ∧ ∀ n ∈ xs, 0 ≤ n ∧ n < 256 := by
  obtain ⟨ys, h1, h2⟩ := reads_slice (g := fun y => [U8 y]) (Q := fun n => 0 ≤ n ∧ n < 256) ht hc (fun _ _ _ h => reads_byte he h) h
  exact ⟨ys, by rw [flatMap_one] at h1; exact h1, h2⟩
end Go.Proofs.YthogadbnddmkdaaGreat
namespace Go.Proofs.YthogadbnddmkdaaGreat
open Go.Av
abbrev f_spec_l00From : Nat := 32
def c_spec_l00From : SC :=
 .seq (.reg [
     ⟨(some 2), .mv (.const (.pointer none)), none⟩] [0])
 (.seq (.reg [
     ⟨(some 3), .mv (.tmp 0), none⟩,
     ⟨(some 4), .build [(.slice none 0 0), (.int .i64 0), (.int .u64 0)] [(0, 1, (.tmp 3))], none⟩,
     ⟨(some 5), .box 111 (.tmp 4), none⟩,
     ⟨(some 2), .mv (.tmp 5), none⟩] [2])
 (.ret))
theorem s_spec_l00From : stripF Tryz.prog 32 [[0], [2]] = some (c_spec_l00From, [.tmp 2], 6) := by kernel_rfl
theorem l00From_ok (H : List Blk) (ns : List Int) : ACalls Tryz.prog f_spec_l00From [ilY ns] H (fun r H' => r = .pc H.length 0 0 ∧ H' = H ++ [srcB (ilY ns) 0 0]) := by
  refine ACalls.introB s_spec_l00From (by simp) ?_; intro hB hA; unfold c_spec_l00From; simp (config := { maxSteps := 1000000 }) (disch := (first | omega | (simp only [go_sem]; try omega))) only [go_sem, Nat.reduceAdd, Nat.reduceEqDiff, Nat.reduceLeDiff, Nat.reduceMul, Nat.reduceLT, reduceIte, Int.reduceToNat, w64_id, cast_succ]
  repeat (first | (with_reducible first | refine SW.seq ?_ | refine SW.block ?_ | refine SW.rowC ?_ | refine SW.skip ?_ | refine SW.exit ?_ | intro _ | refine And.intro (by omega) ?_) | simp (config := { maxSteps := 1000000 }) (disch := (first | omega | (simp only [go_sem]; try omega))) only [go_sem, Nat.reduceAdd, Nat.reduceEqDiff, Nat.reduceLeDiff, Nat.reduceMul, Nat.reduceLT, reduceIte, Int.reduceToNat, w64_id, cast_succ])
  refine ⟨rfl, ?_⟩
  refine SW.ret ?_; (try simp only [go_sem]); (first | refine FunPost.one ?_ | refine FunPost.two ?_ | refine FunPost.three ?_); (try simp (config := { maxSteps := 1000000 }) (disch := (first | omega | (simp only [go_sem]; try omega))) only [go_sem, Nat.reduceAdd, Nat.reduceEqDiff, Nat.reduceLeDiff, Nat.reduceMul, Nat.reduceLT, reduceIte, Int.reduceToNat, w64_id, cast_succ])
  exact GR.of ⟨rfl, rfl⟩
end Go.Proofs.YthogadbnddmkdaaGreat
namespace Go.Proofs.YthogadbnddmkdaaGreat
open Go.Av
theorem getD_ext {A : Type} (d : A) {a b : List A} (hl : a.length = b.length) (h : ∀ j, j < a.length → a.getD j d = b.getD j d) : a = b := by
  refine List.ext_getElem hl fun i h1 h2 => ?_
  have := h i h1
  rw [List.getD_eq_getElem?_getD, List.getD_eq_getElem?_getD, List.getElem?_eq_getElem h1, List.getElem?_eq_getElem h2] at this
  exact this
theorem b10Nums_fn (a b : List Int) (hl : a.length ≤ 2000000) : PFn Tryz.prog f_laws_b10Nums [ilS a, ilS b] (Bv (decide (a = b))) := by
  by_cases hab : a.length = b.length
  · have d0 : decide ((a.length : Int) = b.length) = true := decide_eq_true (by omega)
    intro H; refine ACalls.introB s_laws_b10Nums (by simp) ?_; intro hB hA; unfold c_laws_b10Nums; simp (config := { maxSteps := 1000000 }) (disch := (first | omega | (simp only [go_sem]; try omega))) only [go_sem, Nat.reduceAdd, Nat.reduceEqDiff, Nat.reduceLeDiff, Nat.reduceMul, Nat.reduceLT, reduceIte, Int.reduceToNat, w64_id, cast_succ]
    repeat (first | (with_reducible first | refine SW.seq ?_ | refine SW.block ?_ | refine SW.rowC ?_ | refine SW.skip ?_ | refine SW.exit ?_ | intro _ | refine And.intro (by omega) ?_) | simp (config := { maxSteps := 1000000 }) (disch := (first | omega | (simp only [go_sem]; try omega))) only [go_sem, Nat.reduceAdd, Nat.reduceEqDiff, Nat.reduceLeDiff, Nat.reduceMul, Nat.reduceLT, reduceIte, Int.reduceToNat, w64_id, cast_succ, d0])
    refine SW.condF rfl ?_
    repeat (first | (with_reducible first | refine SW.seq ?_ | refine SW.block ?_ | refine SW.rowC ?_ | refine SW.skip ?_ | refine SW.exit ?_ | intro _ | refine And.intro (by omega) ?_) | simp (config := { maxSteps := 1000000 }) (disch := (first | omega | (simp only [go_sem]; try omega))) only [go_sem, Nat.reduceAdd, Nat.reduceEqDiff, Nat.reduceLeDiff, Nat.reduceMul, Nat.reduceLT, reduceIte, Int.reduceToNat, w64_id, cast_succ])
    refine SW.loopE (fun E0 H0 q E' H' => ∃ i : Nat, i ≤ a.length ∧ q = a.length - i ∧ (∀ j, j < i → a.getD j 0 = b.getD j 0) ∧ E' = aput E0 5 (I i) ∧ H' = H0) a.length ⟨0, by omega, by omega, by omega, rfl, rfl⟩ ?_
    rintro q E' H' ⟨i, hi, rfl, heq, rfl, rfl⟩
    simp (config := { maxSteps := 1000000 }) (disch := (first | omega | (simp only [go_sem]; try omega))) only [go_sem, Nat.reduceAdd, Nat.reduceEqDiff, Nat.reduceLeDiff, Nat.reduceMul, Nat.reduceLT, reduceIte, Int.reduceToNat, w64_id, cast_succ]
    repeat (first | (with_reducible first | refine SW.seq ?_ | refine SW.block ?_ | refine SW.rowC ?_ | refine SW.skip ?_ | refine SW.exit ?_ | intro _ | refine And.intro (by omega) ?_) | simp (config := { maxSteps := 1000000 }) (disch := (first | omega | (simp only [go_sem]; try omega))) only [go_sem, Nat.reduceAdd, Nat.reduceEqDiff, Nat.reduceLeDiff, Nat.reduceMul, Nat.reduceLT, reduceIte, Int.reduceToNat, w64_id, cast_succ])
    (first | refine SW.condD rfl (fun h2 => ?_) (fun h2 => ?_) | refine SW.condN rfl (fun h2 => ?_) (fun h2 => ?_) | refine SW.condNB rfl (fun h2 => ?_) (fun h2 => ?_) | refine SW.condB rfl (fun h2 => ?_) (fun h2 => ?_))
    · have hib : i < b.length := by omega
      repeat (first | (with_reducible first | refine SW.seq ?_ | refine SW.block ?_ | refine SW.rowC ?_ | refine SW.skip ?_ | refine SW.exit ?_ | intro _ | refine And.intro (by omega) ?_) | simp (config := { maxSteps := 1000000 }) (disch := (first | omega | (simp only [go_sem]; try omega))) only [go_sem, Nat.reduceAdd, Nat.reduceEqDiff, Nat.reduceLeDiff, Nat.reduceMul, Nat.reduceLT, reduceIte, Int.reduceToNat, w64_id, cast_succ])
      by_cases he : a.getD i 0 = b.getD i 0
      · rw [decide_eq_true he]
        refine SW.condF rfl ?_
        repeat (first | (with_reducible first | refine SW.seq ?_ | refine SW.block ?_ | refine SW.rowC ?_ | refine SW.skip ?_ | refine SW.exit ?_ | intro _ | refine And.intro (by omega) ?_) | simp (config := { maxSteps := 1000000 }) (disch := (first | omega | (simp only [go_sem]; try omega))) only [go_sem, Nat.reduceAdd, Nat.reduceEqDiff, Nat.reduceLeDiff, Nat.reduceMul, Nat.reduceLT, reduceIte, Int.reduceToNat, w64_id, cast_succ])
        exact SLoop.next (a.length - (i + 1)) (by omega) ⟨i + 1, by omega, rfl, fun j hj => by rcases Nat.lt_succ_iff_lt_or_eq.1 hj with hj | rfl; exact heq j hj; exact he, rfl, rfl⟩
      · rw [decide_eq_false he]
        refine SW.condT rfl ?_
        rw [decide_eq_false (fun e : a = b => he (by rw [e]))]
        repeat (first | (with_reducible first | refine SW.seq ?_ | refine SW.block ?_ | refine SW.rowC ?_ | refine SW.skip ?_ | refine SW.exit ?_ | intro _ | refine And.intro (by omega) ?_) | simp (config := { maxSteps := 1000000 }) (disch := (first | omega | (simp only [go_sem]; try omega))) only [go_sem, Nat.reduceAdd, Nat.reduceEqDiff, Nat.reduceLeDiff, Nat.reduceMul, Nat.reduceLT, reduceIte, Int.reduceToNat, w64_id, cast_succ])
        refine SW.ret ?_; (try simp only [go_sem]); (first | refine FunPost.one ?_ | refine FunPost.two ?_ | refine FunPost.three ?_); (try simp (config := { maxSteps := 1000000 }) (disch := (first | omega | (simp only [go_sem]; try omega))) only [go_sem, Nat.reduceAdd, Nat.reduceEqDiff, Nat.reduceLeDiff, Nat.reduceMul, Nat.reduceLT, reduceIte, Int.reduceToNat, w64_id, cast_succ]); (first | (with_reducible refine GR.drop ?_ ?_; (simp only [go_sem, and_self, and_true, true_and, implies_true, List.take_succ_cons, List.take_zero])) | refine GR.of ?_); refine ⟨?_, rfl⟩; (try with_reducible rfl)
    · have : i = a.length := by omega
      subst this
      rw [decide_eq_true (getD_ext 0 hab heq)]
      repeat (first | (with_reducible first | refine SW.seq ?_ | refine SW.block ?_ | refine SW.rowC ?_ | refine SW.skip ?_ | refine SW.exit ?_ | intro _ | refine And.intro (by omega) ?_) | simp (config := { maxSteps := 1000000 }) (disch := (first | omega | (simp only [go_sem]; try omega))) only [go_sem, Nat.reduceAdd, Nat.reduceEqDiff, Nat.reduceLeDiff, Nat.reduceMul, Nat.reduceLT, reduceIte, Int.reduceToNat, w64_id, cast_succ])
      refine SW.ret ?_; (try simp only [go_sem]); (first | refine FunPost.one ?_ | refine FunPost.two ?_ | refine FunPost.three ?_); (try simp (config := { maxSteps := 1000000 }) (disch := (first | omega | (simp only [go_sem]; try omega))) only [go_sem, Nat.reduceAdd, Nat.reduceEqDiff, Nat.reduceLeDiff, Nat.reduceMul, Nat.reduceLT, reduceIte, Int.reduceToNat, w64_id, cast_succ]); (first | (with_reducible refine GR.drop ?_ ?_; (simp only [go_sem, and_self, and_true, true_and, implies_true, List.take_succ_cons, List.take_zero])) | refine GR.of ?_); refine ⟨?_, rfl⟩; (try with_reducible rfl)
  · have d0 : decide ((a.length : Int) = b.length) = false := decide_eq_false (by omega)
    rw [decide_eq_false (fun e : a = b => hab (by rw [e]))]
    intro H; refine ACalls.introB s_laws_b10Nums (by simp) ?_; intro hB hA; unfold c_laws_b10Nums; simp (config := { maxSteps := 1000000 }) (disch := (first | omega | (simp only [go_sem]; try omega))) only [go_sem, Nat.reduceAdd, Nat.reduceEqDiff, Nat.reduceLeDiff, Nat.reduceMul, Nat.reduceLT, reduceIte, Int.reduceToNat, w64_id, cast_succ]
    repeat (first | (with_reducible first | refine SW.seq ?_ | refine SW.block ?_ | refine SW.rowC ?_ | refine SW.skip ?_ | refine SW.exit ?_ | intro _ | refine And.intro (by omega) ?_) | simp (config := { maxSteps := 1000000 }) (disch := (first | omega | (simp only [go_sem]; try omega))) only [go_sem, Nat.reduceAdd, Nat.reduceEqDiff, Nat.reduceLeDiff, Nat.reduceMul, Nat.reduceLT, reduceIte, Int.reduceToNat, w64_id, cast_succ, d0])
    refine SW.condT rfl ?_
    repeat (first | (with_reducible first | refine SW.seq ?_ | refine SW.block ?_ | refine SW.rowC ?_ | refine SW.skip ?_ | refine SW.exit ?_ | intro _ | refine And.intro (by omega) ?_) | simp (config := { maxSteps := 1000000 }) (disch := (first | omega | (simp only [go_sem]; try omega))) only [go_sem, Nat.reduceAdd, Nat.reduceEqDiff, Nat.reduceLeDiff, Nat.reduceMul, Nat.reduceLT, reduceIte, Int.reduceToNat, w64_id, cast_succ])
    refine SW.ret ?_; (try simp only [go_sem]); (first | refine FunPost.one ?_ | refine FunPost.two ?_ | refine FunPost.three ?_); (try simp (config := { maxSteps := 1000000 }) (disch := (first | omega | (simp only [go_sem]; try omega))) only [go_sem, Nat.reduceAdd, Nat.reduceEqDiff, Nat.reduceLeDiff, Nat.reduceMul, Nat.reduceLT, reduceIte, Int.reduceToNat, w64_id, cast_succ]); (first | (with_reducible refine GR.drop ?_ ?_; (simp only [go_sem, and_self, and_true, true_and, implies_true, List.take_succ_cons, List.take_zero])) | refine GR.of ?_); refine ⟨?_, rfl⟩; (try with_reducible rfl)
theorem among_new (H : List Blk) (p : Nat) (code : AV) (ns : List Int) (t : Nat) (u : Int) (l : List Int) (hlt : p < H.length) (hc : CodeOk code ns) (ht : t ≤ 900000000) (hl : 1 ≤ l.length ∧ l.length ≤ 1000) (ext : List Blk) :
    ACalls Tryz.prog f_spec_l00Src_among [.pc p 0 0, .nm (H.length + ext.length) 0 0 l.length] (H.set p (srcB code t u) ++ (ext ++ [⟨0, 2, 1, l.map I⟩])) (fun r H' => ∃ (x u' : Int) (t' : Nat), r = I x ∧ x ∈ l ∧ t' ≤ t + 2 ∧ H' = H.set p (srcB code t' u') ++ (ext ++ [⟨0, 2, 1, l.map I⟩])) := by
  have hset : ∀ t' u', (H.set p (srcB code t u) ++ (ext ++ [(⟨0, 2, 1, l.map I⟩ : Blk)])).set p (srcB code t' u') = H.set p (srcB code t' u') ++ (ext ++ [(⟨0, 2, 1, l.map I⟩ : Blk)]) := fun t' u' => by
    rw [List.set_append_left _ _ (by simpa using hlt), List.set_set]
  refine (among_ok _ p code ns t u _ l (by rw [List.getElem?_append_left (by simpa using hlt)]; exact List.getElem?_set_self hlt) hc ht (fun t u => ?_) hl).mono ?_
  · rw [hset]
    simp only [aview]
    rw [List.getElem?_append_right (by simp), List.getElem?_append_right (by simp)]
    simp
    exact List.take_of_length_le (by simp)
  · rintro r H1 ⟨x, u1, t1, rfl, hx, ht1, rfl⟩
    exact ⟨x, u1, t1, rfl, hx, ht1, hset _ _⟩
end Go.Proofs.YthogadbnddmkdaaGreat
