/- What the laws of the tenth part share: some permutation, equal lists; ApplySet. -/
import Derived.Test.YthogadbnddmkdaaGreatProg
import Derived.KernelRfl
import Derived.Test.YthogadbnddmkdaaGreatzSR
import Derived.Test.YthogadbnddmkdaaGreatzK62
import Derived.Test.YthogadbnddmkdaaGreatzK63
import Derived.Test.YthogadbnddmkdaaGreatzY0
import Derived.Test.YthogadbnddmkdaaGreatzK18
import Derived.Test.YthogadbnddmkdaaGreatzK19
import Derived.Test.YthogadbnddmkdaaGreatzU1
import Derived.Test.YthogadbnddmkdaaGreatzK8
import Derived.Test.YthogadbnddmkdaaGreatzS5
set_option linter.unusedSimpArgs false
set_option linter.unusedVariables false
set_option maxHeartbeats 4000000
set_option maxRecDepth 100000
namespace Go.Proofs.YthogadbnddmkdaaGreat
open Go.Av
abbrev f_laws_b10Long : Nat := 7
def c_laws_b10Long : SC :=
 .seq (.reg [
     ⟨(some 2), .mv (.const (.bool false)), none⟩] [0])
 (.seq (.reg [
     ⟨(some 3), .mv (.tmp 0), none⟩,
     ⟨(some 4), .len (.tmp 3), none⟩,
     ⟨(some 5), .bin .gtr (.tmp 4) (.const (.int .i64 1048576)), none⟩,
     ⟨(some 2), .mv (.tmp 5), none⟩] [2])
 (.ret))
theorem s_laws_b10Long : stripF Tryz.prog 7 [[0], [2]] = some (c_laws_b10Long, [.tmp 2], 6) := by kernel_rfl
abbrev f_laws_b10Lists : Nat := 14
def c_laws_b10Lists : SC :=
 .seq (.reg [
     ⟨(some 4), .mv (.const (.bool false)), none⟩] [0, 1])
 (.seq (.seq (.reg [
     ⟨(some 6), .mv (.tmp 0), none⟩,
     ⟨(some 7), .len (.tmp 6), none⟩,
     ⟨(some 8), .mv (.tmp 1), none⟩,
     ⟨(some 9), .len (.tmp 8), none⟩,
     ⟨(some 10), .bin .neq (.tmp 7) (.tmp 9), none⟩] [0, 1, 10])
 (.cond (.tmp 10)
  (.seq (.reg [
      ⟨(some 4), .mv (.const (.bool false)), none⟩] [4])
  (.ret))
  (.skip)))
 (.seq (.seq (.reg [
     ⟨(some 5), .mv (.const (.int .i64 0)), none⟩] [0, 1, 5])
 (.block 0 (.loop [0, 1, 5]
   (.seq (.seq (.reg [
       ⟨(some 11), .mv (.tmp 5), none⟩,
       ⟨(some 12), .mv (.tmp 0), none⟩,
       ⟨(some 13), .len (.tmp 12), none⟩,
       ⟨(some 14), .bin .lss (.tmp 11) (.tmp 13), none⟩] [0, 1, 5, 14])
   (.cond (.tmp 14)
    (.skip)
    (.exit 0)))
   (.seq (.block 1 (.seq (.reg [
        ⟨(some 17), .mv (.tmp 0), none⟩,
        ⟨(some 18), .mv (.tmp 5), none⟩,
        ⟨(some 19), .iaddr 1 (.tmp 17) (.tmp 18), none⟩,
        ⟨(some 20), .load 1 false (.tmp 19), none⟩,
        ⟨(some 21), .mv (.tmp 1), none⟩,
        ⟨(some 22), .mv (.tmp 5), none⟩,
        ⟨(some 23), .iaddr 1 (.tmp 21) (.tmp 22), none⟩,
        ⟨(some 24), .load 1 false (.tmp 23), none⟩,
        ⟨(some 25), .qcall 28 [(.tmp 20), (.tmp 24)], none⟩,
        ⟨(some 26), .un .not (.tmp 25), none⟩] [0, 1, 5, 26])
    (.cond (.tmp 26)
     (.seq (.reg [
         ⟨(some 4), .mv (.const (.bool false)), none⟩] [4])
     (.ret))
     (.skip))))
   (.reg [
       ⟨(some 15), .mv (.tmp 5), none⟩,
       ⟨(some 16), .bin .add (.tmp 15) (.const (.int .i64 1)), none⟩,
       ⟨(some 5), .mv (.tmp 16), none⟩] [0, 1, 5]))))))
 (.seq (.reg [
     ⟨(some 4), .mv (.const (.bool true)), none⟩] [4])
 (.ret))))
theorem s_laws_b10Lists : stripF Tryz.prog 14 [[0, 1], [0, 1, 10], [4], [0, 1, 5], [0, 1, 5], [0, 1, 5, 14], [0, 1, 5, 26], [4], [0, 1, 5], [4]] = some (c_laws_b10Lists, [.tmp 4], 27) := by kernel_rfl
abbrev f_laws_b10Nums : Nat := 28
def c_laws_b10Nums : SC :=
 .seq (.reg [
     ⟨(some 4), .mv (.const (.bool false)), none⟩] [0, 1])
 (.seq (.seq (.reg [
     ⟨(some 6), .mv (.tmp 0), none⟩,
     ⟨(some 7), .len (.tmp 6), none⟩,
     ⟨(some 8), .mv (.tmp 1), none⟩,
     ⟨(some 9), .len (.tmp 8), none⟩,
     ⟨(some 10), .bin .neq (.tmp 7) (.tmp 9), none⟩] [0, 1, 10])
 (.cond (.tmp 10)
  (.seq (.reg [
      ⟨(some 4), .mv (.const (.bool false)), none⟩] [4])
  (.ret))
  (.skip)))
 (.seq (.seq (.reg [
     ⟨(some 5), .mv (.const (.int .i64 0)), none⟩] [0, 1, 5])
 (.block 0 (.loop [0, 1, 5]
   (.seq (.seq (.reg [
       ⟨(some 11), .mv (.tmp 5), none⟩,
       ⟨(some 12), .mv (.tmp 0), none⟩,
       ⟨(some 13), .len (.tmp 12), none⟩,
       ⟨(some 14), .bin .lss (.tmp 11) (.tmp 13), none⟩] [0, 1, 5, 14])
   (.cond (.tmp 14)
    (.skip)
    (.exit 0)))
   (.seq (.block 1 (.seq (.reg [
        ⟨(some 17), .mv (.tmp 0), none⟩,
        ⟨(some 18), .mv (.tmp 5), none⟩,
        ⟨(some 19), .iaddr 1 (.tmp 17) (.tmp 18), none⟩,
        ⟨(some 20), .load 1 false (.tmp 19), none⟩,
        ⟨(some 21), .mv (.tmp 1), none⟩,
        ⟨(some 22), .mv (.tmp 5), none⟩,
        ⟨(some 23), .iaddr 1 (.tmp 21) (.tmp 22), none⟩,
        ⟨(some 24), .load 1 false (.tmp 23), none⟩,
        ⟨(some 25), .bin .neq (.tmp 20) (.tmp 24), none⟩] [0, 1, 5, 25])
    (.cond (.tmp 25)
     (.seq (.reg [
         ⟨(some 4), .mv (.const (.bool false)), none⟩] [4])
     (.ret))
     (.skip))))
   (.reg [
       ⟨(some 15), .mv (.tmp 5), none⟩,
       ⟨(some 16), .bin .add (.tmp 15) (.const (.int .i64 1)), none⟩,
       ⟨(some 5), .mv (.tmp 16), none⟩] [0, 1, 5]))))))
 (.seq (.reg [
     ⟨(some 4), .mv (.const (.bool true)), none⟩] [4])
 (.ret))))
theorem s_laws_b10Nums : stripF Tryz.prog 28 [[0, 1], [0, 1, 10], [4], [0, 1, 5], [0, 1, 5], [0, 1, 5, 14], [0, 1, 5, 25], [4], [0, 1, 5], [4]] = some (c_laws_b10Nums, [.tmp 4], 26) := by kernel_rfl
def ilY (ns : List Int) : AV := .il ns.length (ns.map U8)
theorem codeOk_ilY {ns : List Int} (h : ∀ z ∈ ns, 0 ≤ z ∧ z < 256) (hl : ns.length ≤ 2000000) : CodeOk (ilY ns) ns := ⟨fun _ => rfl, h, hl⟩
theorem Bel_ilY (k : Nat) (ns : List Int) : Bel k (ilY ns) := .il _ _ (by intro c h; obtain ⟨x, _, rfl⟩ := List.mem_map.1 h; exact .lit _)
section
variable {H : List Blk} {i : Nat}
@[go_sem] theorem aview_ilY (ns : List Int) : aview H (ilY ns) = some (ns.length, ns.map U8) := rfl
@[go_sem] theorem getU8 {ns : List Int} (h : i < ns.length) : (ns.map U8)[i]? = some (U8 (ns.getD i 0)) := by simp [List.getElem?_eq_getElem h]
@[go_sem] theorem cell1_ilY (ns : List Int) : (ilY ns).cell1 = true := rfl
@[go_sem] theorem partsOf_ilY (ns : List Int) : partsOf (ilY ns) = [ilY ns] := rfl
end
theorem b10Long_fn (ns : List Int) : PFn Tryz.prog f_laws_b10Long [ilY ns] (Bv (decide ((1048576 : Int) < ns.length))) := by
  intro H; refine ACalls.introB s_laws_b10Long (by simp) ?_; intro hB hA; unfold c_laws_b10Long; simp (config := { maxSteps := 1000000 }) (disch := (first | omega | (simp only [go_sem]; try omega))) only [go_sem, Nat.reduceAdd, Nat.reduceEqDiff, Nat.reduceLeDiff, Nat.reduceMul, Nat.reduceLT, reduceIte, Int.reduceToNat, w64_id, cast_succ]
  repeat (first | (with_reducible first | refine SW.seq ?_ | refine SW.block ?_ | refine SW.rowC ?_ | refine SW.skip ?_ | refine SW.exit ?_ | intro _ | refine And.intro (by omega) ?_) | simp (config := { maxSteps := 1000000 }) (disch := (first | omega | (simp only [go_sem]; try omega))) only [go_sem, Nat.reduceAdd, Nat.reduceEqDiff, Nat.reduceLeDiff, Nat.reduceMul, Nat.reduceLT, reduceIte, Int.reduceToNat, w64_id, cast_succ])
  refine SW.ret ?_; (try simp only [go_sem]); (first | refine FunPost.one ?_ | refine FunPost.two ?_ | refine FunPost.three ?_); (try simp (config := { maxSteps := 1000000 }) (disch := (first | omega | (simp only [go_sem]; try omega))) only [go_sem, Nat.reduceAdd, Nat.reduceEqDiff, Nat.reduceLeDiff, Nat.reduceMul, Nat.reduceLT, reduceIte, Int.reduceToNat, w64_id, cast_succ]); (first | (with_reducible refine GR.drop ?_ ?_; (simp only [go_sem, and_self, and_true, true_and, implies_true, List.take_succ_cons, List.take_zero])) | refine GR.of ?_); refine ⟨?_, rfl⟩; (try with_reducible rfl)
end Go.Proofs.YthogadbnddmkdaaGreat
namespace Go.Proofs.YthogadbnddmkdaaGreat
open Go.Av Go.RowKit Go.Shelf
theorem byteBounds {n : Int} (h : (Lit.int .u8 n).wf = true) : 0 ≤ n ∧ n < 256 := by
  simp [Lit.wf, IntKind.min, IntKind.max, IntKind.signed, IntKind.bits] at h
  omega
theorem reads_byte {H : Type} {enc : TypeId × Value → H} {P : Program} {w : World} {held : Bool} {t : TypeId} {fuel : Nat} {cs : List Value} {x : DataW H × List MemPlace} (ht : P.underlying t = some (.int .u8)) (h : DataW.trod enc P w 0 (fun _ => true) held fuel t cs = some x) : ∃ n : Int, Reads w [U8 n] cs ∧ (0 ≤ n ∧ n < 256) := by
  obtain ⟨n, rfl, _, hw⟩ := DataW.trod_int ht h
  exact ⟨n, ⟨Rels.cons (.lit _) (Rels.nil _ _), by simp [U8, AV.cell1, Value.oneCell']⟩, byteBounds hw⟩
theorem reads_bytes {H : Type} {enc : TypeId × Value → H} {P : Program} {w : World} {held : Bool} {t e : TypeId} {fuel : Nat} {cs : List Value} {x : DataW H × List MemPlace} (ht : P.underlying t = some (.slice e)) (hc : 0 < P.cellsOf e) (he : P.underlying e = some (.int .u8)) (h : DataW.trod enc P w 0 (fun _ => true) held fuel t cs = some x) :
    ∃ xs : List Int, Reads w [ilY xs] cs ∧ ∀ n ∈ xs, 0 ≤ n ∧ n < 256 := by
  obtain ⟨ys, h1, h2⟩ := reads_slice (g := fun y => [U8 y]) (Q := fun n => 0 ≤ n ∧ n < 256) ht hc (fun _ _ _ h => reads_byte he h) h
  exact ⟨ys, by rw [flatMap_one] at h1; exact h1, h2⟩
end Go.Proofs.YthogadbnddmkdaaGreat
namespace Go.Proofs.YthogadbnddmkdaaGreat
open Go.Av
abbrev f_spec_l27DrawRange : Nat := 33
def c_spec_l27DrawRange : SC :=
 .seq (.reg [
     ⟨(some 2), .mv (.const (.int .i64 0)), none⟩,
     ⟨(some 3), .mv (.const (.int .i64 0)), none⟩,
     ⟨(some 4), .mv (.const (.int .i64 0)), none⟩,
     ⟨(some 5), .mv (.const (.int .i64 0)), none⟩] [0])
 (.seq (.reg [
     ⟨(some 10), .mv (.tmp 0), none⟩,
     ⟨(some 11), .call 73 [(.tmp 10), (.const (.int .i64 5))], none⟩,
     ⟨(some 12), .bin .add (.tmp 11) (.const (.int .i64 1)), none⟩,
     ⟨(some 6), .mv (.tmp 12), none⟩] [0, 6])
 (.seq (.reg [
     ⟨(some 13), .mv (.tmp 0), none⟩,
     ⟨(some 14), .mv (.tmp 6), none⟩,
     ⟨(some 15), .call 73 [(.tmp 13), (.tmp 14)], none⟩,
     ⟨(some 16), .bin .add (.tmp 15) (.const (.int .i64 1)), none⟩,
     ⟨(some 7), .mv (.tmp 16), none⟩] [0, 6, 7])
 (.seq (.reg [
     ⟨(some 17), .mv (.tmp 0), none⟩,
     ⟨(some 18), .call 73 [(.tmp 17), (.const (.int .i64 4))], none⟩,
     ⟨(some 8), .mv (.tmp 18), none⟩] [0, 6, 7, 8])
 (.seq (.reg [
     ⟨(some 19), .mv (.tmp 0), none⟩,
     ⟨(some 20), .mv (.tmp 7), none⟩,
     ⟨(some 21), .bin .add (.tmp 20) (.const (.int .i64 1)), none⟩,
     ⟨(some 22), .call 73 [(.tmp 19), (.tmp 21)], none⟩,
     ⟨(some 9), .mv (.tmp 22), none⟩] [0, 6, 7, 8, 9])
 (.seq (.seq (.reg [
     ⟨(some 23), .mv (.tmp 0), none⟩,
     ⟨(some 24), .call 73 [(.tmp 23), (.const (.int .i64 16))], none⟩] [0, 6, 7, 8, 9, 24])
 (.block 0 (.seq (.reg [
      ⟨(some 26), .bin .eql (.tmp 24) (.const (.int .i64 0)), none⟩,
      ⟨(some 25), .mv (.tmp 26), none⟩] [0, 6, 7, 8, 9, 24, 25])
  (.cond (.tmp 25)
   (.seq (.reg [
       ⟨(some 27), .mv (.tmp 0), none⟩,
       ⟨(some 28), .bslice 2 1 3 [(.int .i64 0), (.int .i64 0), (.int .i64 0)] [(0, (.const (.int .i64 0))), (1, (.const (.int .i64 7))), (2, (.const (.int .i64 6)))], none⟩,
       ⟨(some 29), .call 76 [(.tmp 27), (.tmp 28)], none⟩,
       ⟨(some 6), .mv (.tmp 29), none⟩] [0, 6, 7, 9])
   (.reg [
       ⟨(some 30), .mv (.tmp 0), none⟩,
       ⟨(some 31), .call 73 [(.tmp 30), (.const (.int .i64 2))], none⟩,
       ⟨(some 8), .mv (.tmp 31), none⟩] [6, 7, 8, 9]))
   (.seq (.reg [
       ⟨(some 33), .bin .eql (.tmp 24) (.const (.int .i64 1)), none⟩,
       ⟨(some 32), .mv (.tmp 33), none⟩] [0, 6, 7, 8, 9, 24, 32])
   (.cond (.tmp 32)
    (.reg [
        ⟨(some 34), .mv (.tmp 0), none⟩,
        ⟨(some 35), .mv (.tmp 6), none⟩,
        ⟨(some 36), .bin .add (.tmp 35) (.const (.int .i64 1)), none⟩,
        ⟨(some 37), .bslice 2 1 2 [(.int .i64 0), (.int .i64 0)] [(0, (.const (.int .i64 0))), (1, (.tmp 36))], none⟩,
        ⟨(some 38), .call 76 [(.tmp 34), (.tmp 37)], none⟩,
        ⟨(some 7), .mv (.tmp 38), none⟩] [6, 7, 8, 9])
    (.seq (.reg [
        ⟨(some 40), .bin .eql (.tmp 24) (.const (.int .i64 2)), none⟩,
        ⟨(some 39), .mv (.tmp 40), none⟩] [0, 6, 7, 8, 9, 24, 39])
    (.cond (.tmp 39)
     (.reg [
         ⟨(some 41), .mv (.tmp 0), none⟩,
         ⟨(some 42), .bslice 2 1 2 [(.int .i64 0), (.int .i64 0)] [(0, (.const (.int .i64 (-1)))), (1, (.const (.int .i64 21)))], none⟩,
         ⟨(some 43), .call 76 [(.tmp 41), (.tmp 42)], none⟩,
         ⟨(some 8), .mv (.tmp 43), none⟩] [6, 7, 8, 9])
     (.seq (.reg [
         ⟨(some 45), .bin .eql (.tmp 24) (.const (.int .i64 3)), none⟩,
         ⟨(some 44), .mv (.tmp 45), none⟩] [0, 6, 7, 8, 9, 24, 44])
     (.cond (.tmp 44)
      (.reg [
          ⟨(some 46), .mv (.tmp 0), none⟩,
          ⟨(some 47), .mv (.tmp 6), none⟩,
          ⟨(some 48), .bin .add (.tmp 47) (.const (.int .i64 1)), none⟩,
          ⟨(some 49), .mv (.tmp 6), none⟩,
          ⟨(some 50), .bslice 2 1 3 [(.int .i64 0), (.int .i64 0), (.int .i64 0)] [(0, (.const (.int .i64 (-1)))), (1, (.tmp 48)), (2, (.tmp 49))], none⟩,
          ⟨(some 51), .call 76 [(.tmp 46), (.tmp 50)], none⟩,
          ⟨(some 9), .mv (.tmp 51), none⟩] [6, 7, 8, 9])
      (.seq (.reg [
          ⟨(some 53), .bin .eql (.tmp 24) (.const (.int .i64 4)), none⟩,
          ⟨(some 52), .mv (.tmp 53), none⟩] [0, 6, 7, 8, 9, 52])
      (.cond (.tmp 52)
       (.seq (.reg [
           ⟨(some 6), .mv (.const (.int .i64 4)), none⟩] [0, 6, 9])
       (.seq (.reg [
           ⟨(some 7), .mv (.const (.int .i64 2)), none⟩] [0, 6, 7, 9])
       (.reg [
           ⟨(some 54), .mv (.tmp 0), none⟩,
           ⟨(some 55), .call 73 [(.tmp 54), (.const (.int .i64 8))], none⟩,
           ⟨(some 8), .mv (.tmp 55), none⟩] [6, 7, 8, 9])))
       (.skip)))))))))))))
 (.seq (.reg [
     ⟨(some 56), .mv (.tmp 6), none⟩,
     ⟨(some 57), .mv (.tmp 7), none⟩,
     ⟨(some 58), .mv (.tmp 8), none⟩,
     ⟨(some 59), .mv (.tmp 9), none⟩,
     ⟨(some 2), .mv (.tmp 56), none⟩,
     ⟨(some 3), .mv (.tmp 57), none⟩,
     ⟨(some 4), .mv (.tmp 58), none⟩,
     ⟨(some 5), .mv (.tmp 59), none⟩] [2, 3, 4, 5])
 (.ret)))))))
theorem s_spec_l27DrawRange : stripF Tryz.prog 33 [[0], [0, 6], [0, 6, 7], [0, 6, 7, 8], [0, 6, 7, 8, 9], [0, 6, 7, 8, 9, 24], [0, 6, 7, 8, 9, 24, 25], [0, 6, 7, 9], [6, 7, 8, 9], [0, 6, 7, 8, 9, 24, 32], [6, 7, 8, 9], [0, 6, 7, 8, 9, 24, 39], [6, 7, 8, 9], [0, 6, 7, 8, 9, 24, 44], [6, 7, 8, 9], [0, 6, 7, 8, 9, 52], [0, 6, 9], [0, 6, 7, 9], [6, 7, 8, 9], [2, 3, 4, 5]] = some (c_spec_l27DrawRange, [.tmp 2, .tmp 3, .tmp 4, .tmp 5], 60) := by kernel_rfl
abbrev f_spec_l09DrawBudget : Nat := 34
def c_spec_l09DrawBudget : SC :=
 .seq (.reg [
     ⟨(some 2), .mv (.const (.int .i64 0)), none⟩] [0])
 (.seq (.seq (.reg [
     ⟨(some 3), .mv (.tmp 0), none⟩,
     ⟨(some 4), .call 73 [(.tmp 3), (.const (.int .i64 8))], none⟩] [0, 4])
 (.block 0 (.seq (.reg [
      ⟨(some 6), .bin .eql (.tmp 4) (.const (.int .i64 0)), none⟩,
      ⟨(some 5), .mv (.tmp 6), none⟩] [0, 4, 5])
  (.cond (.tmp 5)
   (.seq (.reg [
       ⟨(some 7), .mv (.tmp 0), none⟩,
       ⟨(some 8), .bslice 2 1 5 [(.int .i64 0), (.int .i64 0), (.int .i64 0), (.int .i64 0), (.int .i64 0)] [(0, (.const (.int .i64 0))), (1, (.const (.int .i64 1))), (2, (.const (.int .i64 (-1)))), (3, (.const (.int .i64 20000))), (4, (.const (.int .i64 20001)))], none⟩,
       ⟨(some 9), .call 76 [(.tmp 7), (.tmp 8)], none⟩,
       ⟨(some 2), .mv (.tmp 9), none⟩] [2])
   (.ret))
   (.seq (.reg [
       ⟨(some 11), .bin .eql (.tmp 4) (.const (.int .i64 1)), none⟩,
       ⟨(some 10), .mv (.tmp 11), none⟩] [0, 10])
   (.cond (.tmp 10)
    (.seq (.reg [
        ⟨(some 12), .mv (.tmp 0), none⟩,
        ⟨(some 13), .call 73 [(.tmp 12), (.const (.int .i64 30))], none⟩,
        ⟨(some 14), .bin .add (.tmp 13) (.const (.int .i64 1)), none⟩,
        ⟨(some 2), .mv (.tmp 14), none⟩] [2])
    (.ret))
    (.skip)))))))
 (.seq (.reg [
     ⟨(some 15), .mv (.tmp 0), none⟩,
     ⟨(some 16), .call 73 [(.tmp 15), (.const (.int .i64 1000))], none⟩,
     ⟨(some 17), .bin .add (.const (.int .i64 300)) (.tmp 16), none⟩,
     ⟨(some 2), .mv (.tmp 17), none⟩] [2])
 (.ret)))
theorem s_spec_l09DrawBudget : stripF Tryz.prog 34 [[0], [0, 4], [0, 4, 5], [2], [0, 10], [2], [2]] = some (c_spec_l09DrawBudget, [.tmp 2], 18) := by kernel_rfl
theorem getD_ext {A : Type} (d : A) {a b : List A} (hl : a.length = b.length) (h : ∀ j, j < a.length → a.getD j d = b.getD j d) : a = b := by
  refine List.ext_getElem hl fun i h1 h2 => ?_
  have := h i h1
  rw [List.getD_eq_getElem?_getD, List.getD_eq_getElem?_getD, List.getElem?_eq_getElem h1, List.getElem?_eq_getElem h2] at this
  exact this
theorem b10Nums_fn (a b : List Int) (hl : a.length ≤ 2000000) : PFn Tryz.prog f_laws_b10Nums [ilS a, ilS b] (Bv (decide (a = b))) := by
  by_cases hab : a.length = b.length
  · have d0 : decide ((a.length : Int) = b.length) = true := decide_eq_true (by omega)
    intro H; refine ACalls.introB s_laws_b10Nums (by simp) ?_; intro hB hA; unfold c_laws_b10Nums; simp (config := { maxSteps := 1000000 }) (disch := (first | omega | (simp only [go_sem]; try omega))) only [go_sem, Nat.reduceAdd, Nat.reduceEqDiff, Nat.reduceLeDiff, Nat.reduceMul, Nat.reduceLT, reduceIte, Int.reduceToNat, w64_id, cast_succ]
    repeat (first | (with_reducible first | refine SW.seq ?_ | refine SW.block ?_ | refine SW.rowC ?_ | refine SW.skip ?_ | refine SW.exit ?_ | intro _ | refine And.intro (by omega) ?_) | simp (config := { maxSteps := 1000000 }) (disch := (first | omega | (simp only [go_sem]; try omega))) only [go_sem, Nat.reduceAdd, Nat.reduceEqDiff, Nat.reduceLeDiff, Nat.reduceMul, Nat.reduceLT, reduceIte, Int.reduceToNat, w64_id, cast_succ, d0])
    refine SW.condF rfl ?_
    repeat (first | (with_reducible first | refine SW.seq ?_ | refine SW.block ?_ | refine SW.rowC ?_ | refine SW.skip ?_ | refine SW.exit ?_ | intro _ | refine And.intro (by omega) ?_) | simp (config := { maxSteps := 1000000 }) (disch := (first | omega | (simp only [go_sem]; try omega))) only [go_sem, Nat.reduceAdd, Nat.reduceEqDiff, Nat.reduceLeDiff, Nat.reduceMul, Nat.reduceLT, reduceIte, Int.reduceToNat, w64_id, cast_succ])
    refine SW.loopE (fun E0 H0 q E' H' => ∃ i : Nat, i ≤ a.length ∧ q = a.length - i ∧ (∀ j, j < i → a.getD j 0 = b.getD j 0) ∧ E' = aput E0 5 (I i) ∧ H' = H0) a.length ⟨0, by omega, by omega, by omega, rfl, rfl⟩ ?_
    rintro q E' H' ⟨i, hi, rfl, heq, rfl, rfl⟩
    simp (config := { maxSteps := 1000000 }) (disch := (first | omega | (simp only [go_sem]; try omega))) only [go_sem, Nat.reduceAdd, Nat.reduceEqDiff, Nat.reduceLeDiff, Nat.reduceMul, Nat.reduceLT, reduceIte, Int.reduceToNat, w64_id, cast_succ]
    repeat (first | (with_reducible first | refine SW.seq ?_ | refine SW.block ?_ | refine SW.rowC ?_ | refine SW.skip ?_ | refine SW.exit ?_ | intro _ | refine And.intro (by omega) ?_) | simp (config := { maxSteps := 1000000 }) (disch := (first | omega | (simp only [go_sem]; try omega))) only [go_sem, Nat.reduceAdd, Nat.reduceEqDiff, Nat.reduceLeDiff, Nat.reduceMul, Nat.reduceLT, reduceIte, Int.reduceToNat, w64_id, cast_succ])
    (first | refine SW.condD rfl (fun h2 => ?_) (fun h2 => ?_) | refine SW.condN rfl (fun h2 => ?_) (fun h2 => ?_) | refine SW.condNB rfl (fun h2 => ?_) (fun h2 => ?_) | refine SW.condB rfl (fun h2 => ?_) (fun h2 => ?_))
    · have hib : i < b.length := by omega
      repeat (first | (with_reducible first | refine SW.seq ?_ | refine SW.block ?_ | refine SW.rowC ?_ | refine SW.skip ?_ | refine SW.exit ?_ | intro _ | refine And.intro (by omega) ?_) | simp (config := { maxSteps := 1000000 }) (disch := (first | omega | (simp only [go_sem]; try omega))) only [go_sem, Nat.reduceAdd, Nat.reduceEqDiff, Nat.reduceLeDiff, Nat.reduceMul, Nat.reduceLT, reduceIte, Int.reduceToNat, w64_id, cast_succ])
      by_cases he : a.getD i 0 = b.getD i 0
      · rw [decide_eq_true he]
        refine SW.condF rfl ?_
        repeat (first | (with_reducible first | refine SW.seq ?_ | refine SW.block ?_ | refine SW.rowC ?_ | refine SW.skip ?_ | refine SW.exit ?_ | intro _ | refine And.intro (by omega) ?_) | simp (config := { maxSteps := 1000000 }) (disch := (first | omega | (simp only [go_sem]; try omega))) only [go_sem, Nat.reduceAdd, Nat.reduceEqDiff, Nat.reduceLeDiff, Nat.reduceMul, Nat.reduceLT, reduceIte, Int.reduceToNat, w64_id, cast_succ])
        exact SLoop.next (a.length - (i + 1)) (by omega) ⟨i + 1, by omega, rfl, fun j hj => by rcases Nat.lt_succ_iff_lt_or_eq.1 hj with hj | rfl; exact heq j hj; exact he, rfl, rfl⟩
      · rw [decide_eq_false he]
        refine SW.condT rfl ?_
        rw [decide_eq_false (fun e : a = b => he (by rw [e]))]
        repeat (first | (with_reducible first | refine SW.seq ?_ | refine SW.block ?_ | refine SW.rowC ?_ | refine SW.skip ?_ | refine SW.exit ?_ | intro _ | refine And.intro (by omega) ?_) | simp (config := { maxSteps := 1000000 }) (disch := (first | omega | (simp only [go_sem]; try omega))) only [go_sem, Nat.reduceAdd, Nat.reduceEqDiff, Nat.reduceLeDiff, Nat.reduceMul, Nat.reduceLT, reduceIte, Int.reduceToNat, w64_id, cast_succ])
        refine SW.ret ?_; (try simp only [go_sem]); (first | refine FunPost.one ?_ | refine FunPost.two ?_ | refine FunPost.three ?_); (try simp (config := { maxSteps := 1000000 }) (disch := (first | omega | (simp only [go_sem]; try omega))) only [go_sem, Nat.reduceAdd, Nat.reduceEqDiff, Nat.reduceLeDiff, Nat.reduceMul, Nat.reduceLT, reduceIte, Int.reduceToNat, w64_id, cast_succ]); (first | (with_reducible refine GR.drop ?_ ?_; (simp only [go_sem, and_self, and_true, true_and, implies_true, List.take_succ_cons, List.take_zero])) | refine GR.of ?_); refine ⟨?_, rfl⟩; (try with_reducible rfl)
    · have : i = a.length := by omega
      subst this
      rw [decide_eq_true (getD_ext 0 hab heq)]
      repeat (first | (with_reducible first | refine SW.seq ?_ | refine SW.block ?_ | refine SW.rowC ?_ | refine SW.skip ?_ | refine SW.exit ?_ | intro _ | refine And.intro (by omega) ?_) | simp (config := { maxSteps := 1000000 }) (disch := (first | omega | (simp only [go_sem]; try omega))) only [go_sem, Nat.reduceAdd, Nat.reduceEqDiff, Nat.reduceLeDiff, Nat.reduceMul, Nat.reduceLT, reduceIte, Int.reduceToNat, w64_id, cast_succ])
      refine SW.ret ?_; (try simp only [go_sem]); (first | refine FunPost.one ?_ | refine FunPost.two ?_ | refine FunPost.three ?_); (try simp (config := { maxSteps := 1000000 }) (disch := (first | omega | (simp only [go_sem]; try omega))) only [go_sem, Nat.reduceAdd, Nat.reduceEqDiff, Nat.reduceLeDiff, Nat.reduceMul, Nat.reduceLT, reduceIte, Int.reduceToNat, w64_id, cast_succ]); (first | (with_reducible refine GR.drop ?_ ?_; (simp only [go_sem, and_self, and_true, true_and, implies_true, List.take_succ_cons, List.take_zero])) | refine GR.of ?_); refine ⟨?_, rfl⟩; (try with_reducible rfl)
  · have d0 : decide ((a.length : Int) = b.length) = false := decide_eq_false (by omega)
    rw [decide_eq_false (fun e : a = b => hab (by rw [e]))]
    intro H; refine ACalls.introB s_laws_b10Nums (by simp) ?_; intro hB hA; unfold c_laws_b10Nums; simp (config := { maxSteps := 1000000 }) (disch := (first | omega | (simp only [go_sem]; try omega))) only [go_sem, Nat.reduceAdd, Nat.reduceEqDiff, Nat.reduceLeDiff, Nat.reduceMul, Nat.reduceLT, reduceIte, Int.reduceToNat, w64_id, cast_succ]
    repeat (first | (with_reducible first | refine SW.seq ?_ | refine SW.block ?_ | refine SW.rowC ?_ | refine SW.skip ?_ | refine SW.exit ?_ | intro _ | refine And.intro (by omega) ?_) | simp (config := { maxSteps := 1000000 }) (disch := (first | omega | (simp only [go_sem]; try omega))) only [go_sem, Nat.reduceAdd, Nat.reduceEqDiff, Nat.reduceLeDiff, Nat.reduceMul, Nat.reduceLT, reduceIte, Int.reduceToNat, w64_id, cast_succ, d0])
    refine SW.condT rfl ?_
    repeat (first | (with_reducible first | refine SW.seq ?_ | refine SW.block ?_ | refine SW.rowC ?_ | refine SW.skip ?_ | refine SW.exit ?_ | intro _ | refine And.intro (by omega) ?_) | simp (config := { maxSteps := 1000000 }) (disch := (first | omega | (simp only [go_sem]; try omega))) only [go_sem, Nat.reduceAdd, Nat.reduceEqDiff, Nat.reduceLeDiff, Nat.reduceMul, Nat.reduceLT, reduceIte, Int.reduceToNat, w64_id, cast_succ])
    refine SW.ret ?_; (try simp only [go_sem]); (first | refine FunPost.one ?_ | refine FunPost.two ?_ | refine FunPost.three ?_); (try simp (config := { maxSteps := 1000000 }) (disch := (first | omega | (simp only [go_sem]; try omega))) only [go_sem, Nat.reduceAdd, Nat.reduceEqDiff, Nat.reduceLeDiff, Nat.reduceMul, Nat.reduceLT, reduceIte, Int.reduceToNat, w64_id, cast_succ]); (first | (with_reducible refine GR.drop ?_ ?_; (simp only [go_sem, and_self, and_true, true_and, implies_true, List.take_succ_cons, List.take_zero])) | refine GR.of ?_); refine ⟨?_, rfl⟩; (try with_reducible rfl)
theorem b10Lists_fn (a b : List (List Int)) (hl : a.length ≤ 2000000) (hr : ∀ x ∈ a, x.length ≤ 2000000) : PFn Tryz.prog f_laws_b10Lists [ilSS a, ilSS b] (Bv (decide (a = b))) := by
  by_cases hab : a.length = b.length
  · have d0 : decide ((a.length : Int) = b.length) = true := decide_eq_true (by omega)
    intro H; refine ACalls.introB s_laws_b10Lists (by simp) ?_; intro hB hA; unfold c_laws_b10Lists; simp (config := { maxSteps := 1000000 }) (disch := (first | omega | (simp only [go_sem]; try omega))) only [go_sem, Nat.reduceAdd, Nat.reduceEqDiff, Nat.reduceLeDiff, Nat.reduceMul, Nat.reduceLT, reduceIte, Int.reduceToNat, w64_id, cast_succ]
    repeat (first | (with_reducible first | refine SW.seq ?_ | refine SW.block ?_ | refine SW.rowC ?_ | refine SW.skip ?_ | refine SW.exit ?_ | intro _ | refine And.intro (by omega) ?_) | simp (config := { maxSteps := 1000000 }) (disch := (first | omega | (simp only [go_sem]; try omega))) only [go_sem, Nat.reduceAdd, Nat.reduceEqDiff, Nat.reduceLeDiff, Nat.reduceMul, Nat.reduceLT, reduceIte, Int.reduceToNat, w64_id, cast_succ, d0])
    refine SW.condF rfl ?_
    repeat (first | (with_reducible first | refine SW.seq ?_ | refine SW.block ?_ | refine SW.rowC ?_ | refine SW.skip ?_ | refine SW.exit ?_ | intro _ | refine And.intro (by omega) ?_) | simp (config := { maxSteps := 1000000 }) (disch := (first | omega | (simp only [go_sem]; try omega))) only [go_sem, Nat.reduceAdd, Nat.reduceEqDiff, Nat.reduceLeDiff, Nat.reduceMul, Nat.reduceLT, reduceIte, Int.reduceToNat, w64_id, cast_succ])
    refine SW.loopE (fun E0 H0 q E' H' => ∃ i : Nat, i ≤ a.length ∧ q = a.length - i ∧ (∀ j, j < i → a.getD j [] = b.getD j []) ∧ E' = aput E0 5 (I i) ∧ H' = H0) a.length ⟨0, by omega, by omega, by omega, rfl, rfl⟩ ?_
    rintro q E' H' ⟨i, hi, rfl, heq, rfl, rfl⟩
    simp (config := { maxSteps := 1000000 }) (disch := (first | omega | (simp only [go_sem]; try omega))) only [go_sem, Nat.reduceAdd, Nat.reduceEqDiff, Nat.reduceLeDiff, Nat.reduceMul, Nat.reduceLT, reduceIte, Int.reduceToNat, w64_id, cast_succ]
    repeat (first | (with_reducible first | refine SW.seq ?_ | refine SW.block ?_ | refine SW.rowC ?_ | refine SW.skip ?_ | refine SW.exit ?_ | intro _ | refine And.intro (by omega) ?_) | simp (config := { maxSteps := 1000000 }) (disch := (first | omega | (simp only [go_sem]; try omega))) only [go_sem, Nat.reduceAdd, Nat.reduceEqDiff, Nat.reduceLeDiff, Nat.reduceMul, Nat.reduceLT, reduceIte, Int.reduceToNat, w64_id, cast_succ])
    (first | refine SW.condD rfl (fun h2 => ?_) (fun h2 => ?_) | refine SW.condN rfl (fun h2 => ?_) (fun h2 => ?_) | refine SW.condNB rfl (fun h2 => ?_) (fun h2 => ?_) | refine SW.condB rfl (fun h2 => ?_) (fun h2 => ?_))
    · have hib : i < b.length := by omega
      have hf := b10Nums_fn (a.getD i []) (b.getD i []) (by rw [List.getD_eq_getElem?_getD, List.getElem?_eq_getElem (by omega)]; exact hr _ (List.getElem_mem _))
      repeat (first | (with_reducible first | refine SW.seq ?_ | refine SW.block ?_ | refine SW.rowC ?_ | refine SW.skip ?_ | refine SW.exit ?_ | refine PFn.use (hf) ?_ | refine PFn.useq (hf) ?_ | intro _ | refine And.intro (by omega) ?_) | simp (config := { maxSteps := 1000000 }) (disch := (first | omega | (simp only [go_sem]; try omega))) only [go_sem, Nat.reduceAdd, Nat.reduceEqDiff, Nat.reduceLeDiff, Nat.reduceMul, Nat.reduceLT, reduceIte, Int.reduceToNat, w64_id, cast_succ])
      by_cases he : a.getD i [] = b.getD i []
      · rw [decide_eq_true he]
        refine SW.condF rfl ?_
        repeat (first | (with_reducible first | refine SW.seq ?_ | refine SW.block ?_ | refine SW.rowC ?_ | refine SW.skip ?_ | refine SW.exit ?_ | intro _ | refine And.intro (by omega) ?_) | simp (config := { maxSteps := 1000000 }) (disch := (first | omega | (simp only [go_sem]; try omega))) only [go_sem, Nat.reduceAdd, Nat.reduceEqDiff, Nat.reduceLeDiff, Nat.reduceMul, Nat.reduceLT, reduceIte, Int.reduceToNat, w64_id, cast_succ])
        exact SLoop.next (a.length - (i + 1)) (by omega) ⟨i + 1, by omega, rfl, fun j hj => by rcases Nat.lt_succ_iff_lt_or_eq.1 hj with hj | rfl; exact heq j hj; exact he, rfl, rfl⟩
      · rw [decide_eq_false he]
        refine SW.condT rfl ?_
        rw [decide_eq_false (fun e : a = b => he (by rw [e]))]
        repeat (first | (with_reducible first | refine SW.seq ?_ | refine SW.block ?_ | refine SW.rowC ?_ | refine SW.skip ?_ | refine SW.exit ?_ | intro _ | refine And.intro (by omega) ?_) | simp (config := { maxSteps := 1000000 }) (disch := (first | omega | (simp only [go_sem]; try omega))) only [go_sem, Nat.reduceAdd, Nat.reduceEqDiff, Nat.reduceLeDiff, Nat.reduceMul, Nat.reduceLT, reduceIte, Int.reduceToNat, w64_id, cast_succ])
        refine SW.ret ?_; (try simp only [go_sem]); (first | refine FunPost.one ?_ | refine FunPost.two ?_ | refine FunPost.three ?_); (try simp (config := { maxSteps := 1000000 }) (disch := (first | omega | (simp only [go_sem]; try omega))) only [go_sem, Nat.reduceAdd, Nat.reduceEqDiff, Nat.reduceLeDiff, Nat.reduceMul, Nat.reduceLT, reduceIte, Int.reduceToNat, w64_id, cast_succ]); (first | (with_reducible refine GR.drop ?_ ?_; (simp only [go_sem, and_self, and_true, true_and, implies_true, List.take_succ_cons, List.take_zero])) | refine GR.of ?_); refine ⟨?_, rfl⟩; (try with_reducible rfl)
    · have : i = a.length := by omega
      subst this
      rw [decide_eq_true (getD_ext [] hab heq)]
      repeat (first | (with_reducible first | refine SW.seq ?_ | refine SW.block ?_ | refine SW.rowC ?_ | refine SW.skip ?_ | refine SW.exit ?_ | intro _ | refine And.intro (by omega) ?_) | simp (config := { maxSteps := 1000000 }) (disch := (first | omega | (simp only [go_sem]; try omega))) only [go_sem, Nat.reduceAdd, Nat.reduceEqDiff, Nat.reduceLeDiff, Nat.reduceMul, Nat.reduceLT, reduceIte, Int.reduceToNat, w64_id, cast_succ])
      refine SW.ret ?_; (try simp only [go_sem]); (first | refine FunPost.one ?_ | refine FunPost.two ?_ | refine FunPost.three ?_); (try simp (config := { maxSteps := 1000000 }) (disch := (first | omega | (simp only [go_sem]; try omega))) only [go_sem, Nat.reduceAdd, Nat.reduceEqDiff, Nat.reduceLeDiff, Nat.reduceMul, Nat.reduceLT, reduceIte, Int.reduceToNat, w64_id, cast_succ]); (first | (with_reducible refine GR.drop ?_ ?_; (simp only [go_sem, and_self, and_true, true_and, implies_true, List.take_succ_cons, List.take_zero])) | refine GR.of ?_); refine ⟨?_, rfl⟩; (try with_reducible rfl)
  · have d0 : decide ((a.length : Int) = b.length) = false := decide_eq_false (by omega)
    rw [decide_eq_false (fun e : a = b => hab (by rw [e]))]
    intro H; refine ACalls.introB s_laws_b10Lists (by simp) ?_; intro hB hA; unfold c_laws_b10Lists; simp (config := { maxSteps := 1000000 }) (disch := (first | omega | (simp only [go_sem]; try omega))) only [go_sem, Nat.reduceAdd, Nat.reduceEqDiff, Nat.reduceLeDiff, Nat.reduceMul, Nat.reduceLT, reduceIte, Int.reduceToNat, w64_id, cast_succ]
    repeat (first | (with_reducible first | refine SW.seq ?_ | refine SW.block ?_ | refine SW.rowC ?_ | refine SW.skip ?_ | refine SW.exit ?_ | intro _ | refine And.intro (by omega) ?_) | simp (config := { maxSteps := 1000000 }) (disch := (first | omega | (simp only [go_sem]; try omega))) only [go_sem, Nat.reduceAdd, Nat.reduceEqDiff, Nat.reduceLeDiff, Nat.reduceMul, Nat.reduceLT, reduceIte, Int.reduceToNat, w64_id, cast_succ, d0])
    refine SW.condT rfl ?_
    repeat (first | (with_reducible first | refine SW.seq ?_ | refine SW.block ?_ | refine SW.rowC ?_ | refine SW.skip ?_ | refine SW.exit ?_ | intro _ | refine And.intro (by omega) ?_) | simp (config := { maxSteps := 1000000 }) (disch := (first | omega | (simp only [go_sem]; try omega))) only [go_sem, Nat.reduceAdd, Nat.reduceEqDiff, Nat.reduceLeDiff, Nat.reduceMul, Nat.reduceLT, reduceIte, Int.reduceToNat, w64_id, cast_succ])
    refine SW.ret ?_; (try simp only [go_sem]); (first | refine FunPost.one ?_ | refine FunPost.two ?_ | refine FunPost.three ?_); (try simp (config := { maxSteps := 1000000 }) (disch := (first | omega | (simp only [go_sem]; try omega))) only [go_sem, Nat.reduceAdd, Nat.reduceEqDiff, Nat.reduceLeDiff, Nat.reduceMul, Nat.reduceLT, reduceIte, Int.reduceToNat, w64_id, cast_succ]); (first | (with_reducible refine GR.drop ?_ ?_; (simp only [go_sem, and_self, and_true, true_and, implies_true, List.take_succ_cons, List.take_zero])) | refine GR.of ?_); refine ⟨?_, rfl⟩; (try with_reducible rfl)
theorem among_new (H : List Blk) (p : Nat) (code : AV) (ns : List Int) (t : Nat) (u : Int) (l : List Int) (hlt : p < H.length) (hc : CodeOk code ns) (ht : t ≤ 900000000) (hl : 1 ≤ l.length ∧ l.length ≤ 1000) (ext : List Blk) :
    ACalls Tryz.prog f_spec_l00Src_among [.pc p 0 0, .nm (H.length + ext.length) 0 0 l.length] (H.set p (srcB code t u) ++ (ext ++ [⟨0, 2, 1, l.map I⟩])) (fun r H' => ∃ (x u' : Int) (t' : Nat), r = I x ∧ x ∈ l ∧ t' ≤ t + 2 ∧ H' = H.set p (srcB code t' u') ++ (ext ++ [⟨0, 2, 1, l.map I⟩])) := by
  have hset : ∀ t' u', (H.set p (srcB code t u) ++ (ext ++ [(⟨0, 2, 1, l.map I⟩ : Blk)])).set p (srcB code t' u') = H.set p (srcB code t' u') ++ (ext ++ [(⟨0, 2, 1, l.map I⟩ : Blk)]) := fun t' u' => by
    rw [List.set_append_left _ _ (by simpa using hlt), List.set_set]
  refine (among_ok _ p code ns t u _ l (by rw [List.getElem?_append_left (by simpa using hlt)]; exact List.getElem?_set_self hlt) hc ht (fun t u => ?_) hl).mono ?_
  · rw [hset]
    simp only [aview]
    rw [List.getElem?_append_right (by simp), List.getElem?_append_right (by simp)]
    simp
    exact List.take_of_length_le (by simp)
  · rintro r H1 ⟨x, u1, t1, rfl, hx, ht1, rfl⟩
    exact ⟨x, u1, t1, rfl, hx, ht1, hset _ _⟩
theorem l27DrawRange_ok (H : List Blk) (p : Nat) (code : AV) (ns : List Int) (t : Nat) (u : Int) (hp : H[p]? = some (srcB code t u)) (hc : CodeOk code ns) (hcb : ∀ k, Bel k code) (ht : t ≤ 800000000) :
    ACalls Tryz.prog f_spec_l27DrawRange [.pc p 0 0] H (fun r H' => ∃ (v k m s u' : Int) (t' : Nat), r = .tup [I v, I k, I m, I s] ∧ t' ≤ t + 100 ∧ H' = H.set p (srcB code t' u')) := by
  have hlt := (List.getElem?_eq_some_iff.1 hp).1
  have hgp : ∀ t u, (H.set p (srcB code t u))[p]? = some (srcB code t u) := fun t u => List.getElem?_set_self hlt
  refine ACalls.introB s_spec_l27DrawRange (by simp) ?_; intro hB hA; unfold c_spec_l27DrawRange; simp (config := { maxSteps := 1000000 }) (disch := (first | omega | (simp only [go_sem]; try omega))) only [go_sem, Nat.reduceAdd, Nat.reduceEqDiff, Nat.reduceLeDiff, Nat.reduceMul, Nat.reduceLT, reduceIte, Int.reduceToNat, w64_id, cast_succ]
  have hBG : ∀ t u, HB (H.set p (srcB code t u)) := fun t u b hb c hcc => by
    rw [List.length_set]
    rcases List.mem_or_eq_of_mem_set hb with hb | rfl
    · exact hB b hb c hcc
    · unfold srcB at hcc
      simp only [List.mem_cons, List.not_mem_nil, or_false] at hcc
      rcases hcc with rfl | rfl | rfl
      · exact hcb _
      · exact .lit _
      · exact .lit _
  have hset : ∀ t u t' u' (ext : List Blk), (H.set p (srcB code t u) ++ ext).set p (srcB code t' u') = H.set p (srcB code t' u') ++ ext := fun t u t' u' ext => by
    rw [List.set_append_left _ _ (by simpa using hlt), List.set_set]
  repeat (first | (with_reducible first | refine SW.seq ?_ | refine SW.block ?_ | refine SW.rowC ?_ | refine SW.skip ?_ | refine SW.exit ?_ | intro _ | refine And.intro (by omega) ?_) | simp (config := { maxSteps := 1000000 }) (disch := (first | omega | (simp only [go_sem]; try omega))) only [go_sem, Nat.reduceAdd, Nat.reduceEqDiff, Nat.reduceLeDiff, Nat.reduceMul, Nat.reduceLT, reduceIte, Int.reduceToNat, w64_id, cast_succ])
  refine (pick_ok H p code ns t u 5 hp hc (by omega)).mono ?_
  rintro r H1 ⟨x1, u1, t1, rfl, a1, b1, ht1, rfl⟩
  repeat (first | (with_reducible first | refine SW.seq ?_ | refine SW.block ?_ | refine SW.rowC ?_ | refine SW.skip ?_ | refine SW.exit ?_ | intro _ | refine And.intro (by omega) ?_) | simp (config := { maxSteps := 1000000 }) (disch := (first | omega | (simp only [go_sem]; try omega))) only [go_sem, Nat.reduceAdd, Nat.reduceEqDiff, Nat.reduceLeDiff, Nat.reduceMul, Nat.reduceLT, reduceIte, Int.reduceToNat, w64_id, cast_succ])
  refine (pick_ok _ p code ns t1 u1 (x1 + 1) (hgp _ _) hc (by omega)).mono ?_
  rintro r H1 ⟨x2, u2, t2, rfl, a2, b2, ht2, rfl⟩
  rw [List.set_set]
  repeat (first | (with_reducible first | refine SW.seq ?_ | refine SW.block ?_ | refine SW.rowC ?_ | refine SW.skip ?_ | refine SW.exit ?_ | intro _ | refine And.intro (by omega) ?_) | simp (config := { maxSteps := 1000000 }) (disch := (first | omega | (simp only [go_sem]; try omega))) only [go_sem, Nat.reduceAdd, Nat.reduceEqDiff, Nat.reduceLeDiff, Nat.reduceMul, Nat.reduceLT, reduceIte, Int.reduceToNat, w64_id, cast_succ])
  refine (pick_ok _ p code ns t2 u2 4 (hgp _ _) hc (by omega)).mono ?_
  rintro r H1 ⟨x3, u3, t3, rfl, a3, b3, ht3, rfl⟩
  rw [List.set_set]
  repeat (first | (with_reducible first | refine SW.seq ?_ | refine SW.block ?_ | refine SW.rowC ?_ | refine SW.skip ?_ | refine SW.exit ?_ | intro _ | refine And.intro (by omega) ?_) | simp (config := { maxSteps := 1000000 }) (disch := (first | omega | (simp only [go_sem]; try omega))) only [go_sem, Nat.reduceAdd, Nat.reduceEqDiff, Nat.reduceLeDiff, Nat.reduceMul, Nat.reduceLT, reduceIte, Int.reduceToNat, w64_id, cast_succ])
  refine (pick_ok _ p code ns t3 u3 (x2 + 1 + 1) (hgp _ _) hc (by omega)).mono ?_
  rintro r H1 ⟨x4, u4, t4, rfl, a4, b4, ht4, rfl⟩
  rw [List.set_set]
  repeat (first | (with_reducible first | refine SW.seq ?_ | refine SW.block ?_ | refine SW.rowC ?_ | refine SW.skip ?_ | refine SW.exit ?_ | intro _ | refine And.intro (by omega) ?_) | simp (config := { maxSteps := 1000000 }) (disch := (first | omega | (simp only [go_sem]; try omega))) only [go_sem, Nat.reduceAdd, Nat.reduceEqDiff, Nat.reduceLeDiff, Nat.reduceMul, Nat.reduceLT, reduceIte, Int.reduceToNat, w64_id, cast_succ])
  refine (pick_ok _ p code ns t4 u4 16 (hgp _ _) hc (by omega)).mono ?_
  rintro r H1 ⟨x5, u5, t5, rfl, a5, b5, ht5, rfl⟩
  rw [List.set_set]
  have hpx : ∀ t u ext, (H.set p (srcB code t u) ++ ext)[p]? = some (srcB code t u) := fun t u ext => by rw [List.getElem?_append_left (by simpa using hlt)]; exact hgp t u
  have done : ∀ (v k m s u' : Int) (t' : Nat) (ext : List Blk), t' ≤ t + 100 → GR H (fun r H' => ∃ (v k m s u' : Int) (t' : Nat), r = .tup [I v, I k, I m, I s] ∧ t' ≤ t + 100 ∧ H' = H.set p (srcB code t' u')) (.tup [I v, I k, I m, I s]) (H.set p (srcB code t' u') ++ ext) := fun v k m s u' t' ext h => by
    refine GR.frozH (H0 := H) (H1 := H.set p (srcB code t' u')) (r' := .tup [I v, I k, I m, I s]) (by simp) (hBG _ _) (.old _ ?_) ⟨v, k, m, s, u', t', rfl, h, rfl⟩
    simp [go_sem]
  have done0 : ∀ (v k m s u' : Int) (t' : Nat), t' ≤ t + 100 → GR H (fun r H' => ∃ (v k m s u' : Int) (t' : Nat), r = .tup [I v, I k, I m, I s] ∧ t' ≤ t + 100 ∧ H' = H.set p (srcB code t' u')) (.tup [I v, I k, I m, I s]) (H.set p (srcB code t' u')) := fun v k m s u' t' h => by
    have := done v k m s u' t' [] h
    rwa [List.append_nil] at this
  repeat (first | (with_reducible first | refine SW.seq ?_ | refine SW.block ?_ | refine SW.rowC ?_ | refine SW.skip ?_ | refine SW.exit ?_ | intro _ | refine And.intro (by omega) ?_) | simp (config := { maxSteps := 1000000 }) (disch := (first | omega | (simp only [go_sem]; try omega))) only [go_sem, Nat.reduceAdd, Nat.reduceEqDiff, Nat.reduceLeDiff, Nat.reduceMul, Nat.reduceLT, reduceIte, Int.reduceToNat, w64_id, cast_succ])
  (first | refine SW.condD rfl (fun h => ?_) (fun h => ?_) | refine SW.condN rfl (fun h => ?_) (fun h => ?_) | refine SW.condNB rfl (fun h => ?_) (fun h => ?_) | refine SW.condB rfl (fun h => ?_) (fun h => ?_))
  · repeat (first | (with_reducible first | refine SW.seq ?_ | refine SW.block ?_ | refine SW.rowC ?_ | refine SW.skip ?_ | refine SW.exit ?_ | intro _ | refine And.intro (by omega) ?_) | simp (config := { maxSteps := 1000000 }) (disch := (first | omega | (simp only [go_sem]; try omega))) only [go_sem, Nat.reduceAdd, Nat.reduceEqDiff, Nat.reduceLeDiff, Nat.reduceMul, Nat.reduceLT, reduceIte, Int.reduceToNat, w64_id, cast_succ])
    refine (among_new H p code ns t5 u5 [0, 7, 6] hlt hc (by omega) (by simp) []).mono ?_
    rintro r H1 ⟨x6, u6, t6, rfl, hx6, ht6, rfl⟩
    repeat (first | (with_reducible first | refine SW.seq ?_ | refine SW.block ?_ | refine SW.rowC ?_ | refine SW.skip ?_ | refine SW.exit ?_ | intro _ | refine And.intro (by omega) ?_) | simp (config := { maxSteps := 1000000 }) (disch := (first | omega | (simp only [go_sem]; try omega))) only [go_sem, Nat.reduceAdd, Nat.reduceEqDiff, Nat.reduceLeDiff, Nat.reduceMul, Nat.reduceLT, reduceIte, Int.reduceToNat, w64_id, cast_succ])
    refine (pick_ok _ p code ns t6 u6 2 (hpx _ _ _) hc (by omega)).mono ?_
    rintro r H1 ⟨x7, u7, t7, rfl, a7, b7, ht7, rfl⟩
    rw [hset]
    repeat (first | (with_reducible first | refine SW.seq ?_ | refine SW.block ?_ | refine SW.rowC ?_ | refine SW.skip ?_ | refine SW.exit ?_ | intro _ | refine And.intro (by omega) ?_) | simp (config := { maxSteps := 1000000 }) (disch := (first | omega | (simp only [go_sem]; try omega))) only [go_sem, Nat.reduceAdd, Nat.reduceEqDiff, Nat.reduceLeDiff, Nat.reduceMul, Nat.reduceLT, reduceIte, Int.reduceToNat, w64_id, cast_succ])
    refine SW.ret ⟨_, rfl, done _ _ _ _ _ _ _ (by omega)⟩
  · repeat (first | (with_reducible first | refine SW.seq ?_ | refine SW.block ?_ | refine SW.rowC ?_ | refine SW.skip ?_ | refine SW.exit ?_ | intro _ | refine And.intro (by omega) ?_) | simp (config := { maxSteps := 1000000 }) (disch := (first | omega | (simp only [go_sem]; try omega))) only [go_sem, Nat.reduceAdd, Nat.reduceEqDiff, Nat.reduceLeDiff, Nat.reduceMul, Nat.reduceLT, reduceIte, Int.reduceToNat, w64_id, cast_succ])
    (first | refine SW.condD rfl (fun h => ?_) (fun h => ?_) | refine SW.condN rfl (fun h => ?_) (fun h => ?_) | refine SW.condNB rfl (fun h => ?_) (fun h => ?_) | refine SW.condB rfl (fun h => ?_) (fun h => ?_))
    · repeat (first | (with_reducible first | refine SW.seq ?_ | refine SW.block ?_ | refine SW.rowC ?_ | refine SW.skip ?_ | refine SW.exit ?_ | intro _ | refine And.intro (by omega) ?_) | simp (config := { maxSteps := 1000000 }) (disch := (first | omega | (simp only [go_sem]; try omega))) only [go_sem, Nat.reduceAdd, Nat.reduceEqDiff, Nat.reduceLeDiff, Nat.reduceMul, Nat.reduceLT, reduceIte, Int.reduceToNat, w64_id, cast_succ])
      refine (among_new H p code ns t5 u5 [0, x1 + 1 + 1] hlt hc (by omega) (by simp) []).mono ?_
      rintro r H1 ⟨x6, u6, t6, rfl, hx6, ht6, rfl⟩
      repeat (first | (with_reducible first | refine SW.seq ?_ | refine SW.block ?_ | refine SW.rowC ?_ | refine SW.skip ?_ | refine SW.exit ?_ | intro _ | refine And.intro (by omega) ?_) | simp (config := { maxSteps := 1000000 }) (disch := (first | omega | (simp only [go_sem]; try omega))) only [go_sem, Nat.reduceAdd, Nat.reduceEqDiff, Nat.reduceLeDiff, Nat.reduceMul, Nat.reduceLT, reduceIte, Int.reduceToNat, w64_id, cast_succ])
      refine SW.ret ⟨_, rfl, done _ _ _ _ _ _ _ (by omega)⟩
    · repeat (first | (with_reducible first | refine SW.seq ?_ | refine SW.block ?_ | refine SW.rowC ?_ | refine SW.skip ?_ | refine SW.exit ?_ | intro _ | refine And.intro (by omega) ?_) | simp (config := { maxSteps := 1000000 }) (disch := (first | omega | (simp only [go_sem]; try omega))) only [go_sem, Nat.reduceAdd, Nat.reduceEqDiff, Nat.reduceLeDiff, Nat.reduceMul, Nat.reduceLT, reduceIte, Int.reduceToNat, w64_id, cast_succ])
      (first | refine SW.condD rfl (fun h => ?_) (fun h => ?_) | refine SW.condN rfl (fun h => ?_) (fun h => ?_) | refine SW.condNB rfl (fun h => ?_) (fun h => ?_) | refine SW.condB rfl (fun h => ?_) (fun h => ?_))
      · repeat (first | (with_reducible first | refine SW.seq ?_ | refine SW.block ?_ | refine SW.rowC ?_ | refine SW.skip ?_ | refine SW.exit ?_ | intro _ | refine And.intro (by omega) ?_) | simp (config := { maxSteps := 1000000 }) (disch := (first | omega | (simp only [go_sem]; try omega))) only [go_sem, Nat.reduceAdd, Nat.reduceEqDiff, Nat.reduceLeDiff, Nat.reduceMul, Nat.reduceLT, reduceIte, Int.reduceToNat, w64_id, cast_succ])
        refine (among_new H p code ns t5 u5 [-1, 21] hlt hc (by omega) (by simp) []).mono ?_
        rintro r H1 ⟨x6, u6, t6, rfl, hx6, ht6, rfl⟩
        repeat (first | (with_reducible first | refine SW.seq ?_ | refine SW.block ?_ | refine SW.rowC ?_ | refine SW.skip ?_ | refine SW.exit ?_ | intro _ | refine And.intro (by omega) ?_) | simp (config := { maxSteps := 1000000 }) (disch := (first | omega | (simp only [go_sem]; try omega))) only [go_sem, Nat.reduceAdd, Nat.reduceEqDiff, Nat.reduceLeDiff, Nat.reduceMul, Nat.reduceLT, reduceIte, Int.reduceToNat, w64_id, cast_succ])
        refine SW.ret ⟨_, rfl, done _ _ _ _ _ _ _ (by omega)⟩
      · repeat (first | (with_reducible first | refine SW.seq ?_ | refine SW.block ?_ | refine SW.rowC ?_ | refine SW.skip ?_ | refine SW.exit ?_ | intro _ | refine And.intro (by omega) ?_) | simp (config := { maxSteps := 1000000 }) (disch := (first | omega | (simp only [go_sem]; try omega))) only [go_sem, Nat.reduceAdd, Nat.reduceEqDiff, Nat.reduceLeDiff, Nat.reduceMul, Nat.reduceLT, reduceIte, Int.reduceToNat, w64_id, cast_succ])
        (first | refine SW.condD rfl (fun h => ?_) (fun h => ?_) | refine SW.condN rfl (fun h => ?_) (fun h => ?_) | refine SW.condNB rfl (fun h => ?_) (fun h => ?_) | refine SW.condB rfl (fun h => ?_) (fun h => ?_))
        · repeat (first | (with_reducible first | refine SW.seq ?_ | refine SW.block ?_ | refine SW.rowC ?_ | refine SW.skip ?_ | refine SW.exit ?_ | intro _ | refine And.intro (by omega) ?_) | simp (config := { maxSteps := 1000000 }) (disch := (first | omega | (simp only [go_sem]; try omega))) only [go_sem, Nat.reduceAdd, Nat.reduceEqDiff, Nat.reduceLeDiff, Nat.reduceMul, Nat.reduceLT, reduceIte, Int.reduceToNat, w64_id, cast_succ])
          refine (among_new H p code ns t5 u5 [-1, x1 + 1 + 1, x1 + 1] hlt hc (by omega) (by simp) []).mono ?_
          rintro r H1 ⟨x6, u6, t6, rfl, hx6, ht6, rfl⟩
          repeat (first | (with_reducible first | refine SW.seq ?_ | refine SW.block ?_ | refine SW.rowC ?_ | refine SW.skip ?_ | refine SW.exit ?_ | intro _ | refine And.intro (by omega) ?_) | simp (config := { maxSteps := 1000000 }) (disch := (first | omega | (simp only [go_sem]; try omega))) only [go_sem, Nat.reduceAdd, Nat.reduceEqDiff, Nat.reduceLeDiff, Nat.reduceMul, Nat.reduceLT, reduceIte, Int.reduceToNat, w64_id, cast_succ])
          refine SW.ret ⟨_, rfl, done _ _ _ _ _ _ _ (by omega)⟩
        · repeat (first | (with_reducible first | refine SW.seq ?_ | refine SW.block ?_ | refine SW.rowC ?_ | refine SW.skip ?_ | refine SW.exit ?_ | intro _ | refine And.intro (by omega) ?_) | simp (config := { maxSteps := 1000000 }) (disch := (first | omega | (simp only [go_sem]; try omega))) only [go_sem, Nat.reduceAdd, Nat.reduceEqDiff, Nat.reduceLeDiff, Nat.reduceMul, Nat.reduceLT, reduceIte, Int.reduceToNat, w64_id, cast_succ])
          (first | refine SW.condD rfl (fun h => ?_) (fun h => ?_) | refine SW.condN rfl (fun h => ?_) (fun h => ?_) | refine SW.condNB rfl (fun h => ?_) (fun h => ?_) | refine SW.condB rfl (fun h => ?_) (fun h => ?_))
          · repeat (first | (with_reducible first | refine SW.seq ?_ | refine SW.block ?_ | refine SW.rowC ?_ | refine SW.skip ?_ | refine SW.exit ?_ | intro _ | refine And.intro (by omega) ?_) | simp (config := { maxSteps := 1000000 }) (disch := (first | omega | (simp only [go_sem]; try omega))) only [go_sem, Nat.reduceAdd, Nat.reduceEqDiff, Nat.reduceLeDiff, Nat.reduceMul, Nat.reduceLT, reduceIte, Int.reduceToNat, w64_id, cast_succ])
            refine (pick_ok _ p code ns t5 u5 8 (hgp _ _) hc (by omega)).mono ?_
            rintro r H1 ⟨x7, u7, t7, rfl, a7, b7, ht7, rfl⟩
            rw [List.set_set]
            repeat (first | (with_reducible first | refine SW.seq ?_ | refine SW.block ?_ | refine SW.rowC ?_ | refine SW.skip ?_ | refine SW.exit ?_ | intro _ | refine And.intro (by omega) ?_) | simp (config := { maxSteps := 1000000 }) (disch := (first | omega | (simp only [go_sem]; try omega))) only [go_sem, Nat.reduceAdd, Nat.reduceEqDiff, Nat.reduceLeDiff, Nat.reduceMul, Nat.reduceLT, reduceIte, Int.reduceToNat, w64_id, cast_succ])
            refine SW.ret ⟨_, rfl, done0 _ _ _ _ _ _ (by omega)⟩
          · repeat (first | (with_reducible first | refine SW.seq ?_ | refine SW.block ?_ | refine SW.rowC ?_ | refine SW.skip ?_ | refine SW.exit ?_ | intro _ | refine And.intro (by omega) ?_) | simp (config := { maxSteps := 1000000 }) (disch := (first | omega | (simp only [go_sem]; try omega))) only [go_sem, Nat.reduceAdd, Nat.reduceEqDiff, Nat.reduceLeDiff, Nat.reduceMul, Nat.reduceLT, reduceIte, Int.reduceToNat, w64_id, cast_succ])
            refine SW.ret ⟨_, rfl, done0 _ _ _ _ _ _ (by omega)⟩
theorem l09DrawBudget_ok (H : List Blk) (p : Nat) (code : AV) (ns : List Int) (t : Nat) (u : Int) (hp : H[p]? = some (srcB code t u)) (hc : CodeOk code ns) (hcb : ∀ k, Bel k code) (ht : t ≤ 800000000) :
    ACalls Tryz.prog f_spec_l09DrawBudget [.pc p 0 0] H (fun r H' => ∃ (b u' : Int) (t' : Nat), r = I b ∧ t' ≤ t + 100 ∧ H' = H.set p (srcB code t' u')) := by
  have hlt := (List.getElem?_eq_some_iff.1 hp).1
  have hgp : ∀ t u, (H.set p (srcB code t u))[p]? = some (srcB code t u) := fun t u => List.getElem?_set_self hlt
  refine ACalls.introB s_spec_l09DrawBudget (by simp) ?_; intro hB hA; unfold c_spec_l09DrawBudget; simp (config := { maxSteps := 1000000 }) (disch := (first | omega | (simp only [go_sem]; try omega))) only [go_sem, Nat.reduceAdd, Nat.reduceEqDiff, Nat.reduceLeDiff, Nat.reduceMul, Nat.reduceLT, reduceIte, Int.reduceToNat, w64_id, cast_succ]
  have hBG : ∀ t u, HB (H.set p (srcB code t u)) := fun t u b hb c hcc => by
    rw [List.length_set]
    rcases List.mem_or_eq_of_mem_set hb with hb | rfl
    · exact hB b hb c hcc
    · unfold srcB at hcc
      simp only [List.mem_cons, List.not_mem_nil, or_false] at hcc
      rcases hcc with rfl | rfl | rfl
      · exact hcb _
      · exact .lit _
      · exact .lit _
  repeat (first | (with_reducible first | refine SW.seq ?_ | refine SW.block ?_ | refine SW.rowC ?_ | refine SW.skip ?_ | refine SW.exit ?_ | intro _ | refine And.intro (by omega) ?_) | simp (config := { maxSteps := 1000000 }) (disch := (first | omega | (simp only [go_sem]; try omega))) only [go_sem, Nat.reduceAdd, Nat.reduceEqDiff, Nat.reduceLeDiff, Nat.reduceMul, Nat.reduceLT, reduceIte, Int.reduceToNat, w64_id, cast_succ])
  refine (pick_ok H p code ns t u 8 hp hc (by omega)).mono ?_
  rintro r H1 ⟨x1, u1, t1, rfl, a1, b1, ht1, rfl⟩
  repeat (first | (with_reducible first | refine SW.seq ?_ | refine SW.block ?_ | refine SW.rowC ?_ | refine SW.skip ?_ | refine SW.exit ?_ | intro _ | refine And.intro (by omega) ?_) | simp (config := { maxSteps := 1000000 }) (disch := (first | omega | (simp only [go_sem]; try omega))) only [go_sem, Nat.reduceAdd, Nat.reduceEqDiff, Nat.reduceLeDiff, Nat.reduceMul, Nat.reduceLT, reduceIte, Int.reduceToNat, w64_id, cast_succ])
  (first | refine SW.condD rfl (fun h => ?_) (fun h => ?_) | refine SW.condN rfl (fun h => ?_) (fun h => ?_) | refine SW.condNB rfl (fun h => ?_) (fun h => ?_) | refine SW.condB rfl (fun h => ?_) (fun h => ?_))
  · repeat (first | (with_reducible first | refine SW.seq ?_ | refine SW.block ?_ | refine SW.rowC ?_ | refine SW.skip ?_ | refine SW.exit ?_ | intro _ | refine And.intro (by omega) ?_) | simp (config := { maxSteps := 1000000 }) (disch := (first | omega | (simp only [go_sem]; try omega))) only [go_sem, Nat.reduceAdd, Nat.reduceEqDiff, Nat.reduceLeDiff, Nat.reduceMul, Nat.reduceLT, reduceIte, Int.reduceToNat, w64_id, cast_succ])
    refine (among_new H p code ns t1 u1 [0, 1, -1, 20000, 20001] hlt hc (by omega) (by simp) []).mono ?_
    rintro r H1 ⟨x6, u6, t6, rfl, hx6, ht6, rfl⟩
    repeat (first | (with_reducible first | refine SW.seq ?_ | refine SW.block ?_ | refine SW.rowC ?_ | refine SW.skip ?_ | refine SW.exit ?_ | intro _ | refine And.intro (by omega) ?_) | simp (config := { maxSteps := 1000000 }) (disch := (first | omega | (simp only [go_sem]; try omega))) only [go_sem, Nat.reduceAdd, Nat.reduceEqDiff, Nat.reduceLeDiff, Nat.reduceMul, Nat.reduceLT, reduceIte, Int.reduceToNat, w64_id, cast_succ])
    refine SW.ret ⟨_, rfl, GR.frozH (H0 := H) (H1 := H.set p (srcB code t6 u6)) (r' := I x6) (by simp) (hBG _ _) (froz_I' _) ⟨x6, u6, t6, rfl, by omega, rfl⟩⟩
  · repeat (first | (with_reducible first | refine SW.seq ?_ | refine SW.block ?_ | refine SW.rowC ?_ | refine SW.skip ?_ | refine SW.exit ?_ | intro _ | refine And.intro (by omega) ?_) | simp (config := { maxSteps := 1000000 }) (disch := (first | omega | (simp only [go_sem]; try omega))) only [go_sem, Nat.reduceAdd, Nat.reduceEqDiff, Nat.reduceLeDiff, Nat.reduceMul, Nat.reduceLT, reduceIte, Int.reduceToNat, w64_id, cast_succ])
    (first | refine SW.condD rfl (fun h => ?_) (fun h => ?_) | refine SW.condN rfl (fun h => ?_) (fun h => ?_) | refine SW.condNB rfl (fun h => ?_) (fun h => ?_) | refine SW.condB rfl (fun h => ?_) (fun h => ?_))
    · repeat (first | (with_reducible first | refine SW.seq ?_ | refine SW.block ?_ | refine SW.rowC ?_ | refine SW.skip ?_ | refine SW.exit ?_ | intro _ | refine And.intro (by omega) ?_) | simp (config := { maxSteps := 1000000 }) (disch := (first | omega | (simp only [go_sem]; try omega))) only [go_sem, Nat.reduceAdd, Nat.reduceEqDiff, Nat.reduceLeDiff, Nat.reduceMul, Nat.reduceLT, reduceIte, Int.reduceToNat, w64_id, cast_succ])
      refine (pick_ok _ p code ns t1 u1 30 (hgp _ _) hc (by omega)).mono ?_
      rintro r H1 ⟨x7, u7, t7, rfl, a7, b7, ht7, rfl⟩
      rw [List.set_set]
      repeat (first | (with_reducible first | refine SW.seq ?_ | refine SW.block ?_ | refine SW.rowC ?_ | refine SW.skip ?_ | refine SW.exit ?_ | intro _ | refine And.intro (by omega) ?_) | simp (config := { maxSteps := 1000000 }) (disch := (first | omega | (simp only [go_sem]; try omega))) only [go_sem, Nat.reduceAdd, Nat.reduceEqDiff, Nat.reduceLeDiff, Nat.reduceMul, Nat.reduceLT, reduceIte, Int.reduceToNat, w64_id, cast_succ])
      refine SW.ret ?_; (try simp only [go_sem]); (first | refine FunPost.one ?_ | refine FunPost.two ?_ | refine FunPost.three ?_); (try simp (config := { maxSteps := 1000000 }) (disch := (first | omega | (simp only [go_sem]; try omega))) only [go_sem, Nat.reduceAdd, Nat.reduceEqDiff, Nat.reduceLeDiff, Nat.reduceMul, Nat.reduceLT, reduceIte, Int.reduceToNat, w64_id, cast_succ])
      exact GR.of ⟨_, _, _, rfl, by omega, rfl⟩
    · repeat (first | (with_reducible first | refine SW.seq ?_ | refine SW.block ?_ | refine SW.rowC ?_ | refine SW.skip ?_ | refine SW.exit ?_ | intro _ | refine And.intro (by omega) ?_) | simp (config := { maxSteps := 1000000 }) (disch := (first | omega | (simp only [go_sem]; try omega))) only [go_sem, Nat.reduceAdd, Nat.reduceEqDiff, Nat.reduceLeDiff, Nat.reduceMul, Nat.reduceLT, reduceIte, Int.reduceToNat, w64_id, cast_succ])
      refine (pick_ok _ p code ns t1 u1 1000 (hgp _ _) hc (by omega)).mono ?_
      rintro r H1 ⟨x7, u7, t7, rfl, a7, b7, ht7, rfl⟩
      rw [List.set_set]
      repeat (first | (with_reducible first | refine SW.seq ?_ | refine SW.block ?_ | refine SW.rowC ?_ | refine SW.skip ?_ | refine SW.exit ?_ | intro _ | refine And.intro (by omega) ?_) | simp (config := { maxSteps := 1000000 }) (disch := (first | omega | (simp only [go_sem]; try omega))) only [go_sem, Nat.reduceAdd, Nat.reduceEqDiff, Nat.reduceLeDiff, Nat.reduceMul, Nat.reduceLT, reduceIte, Int.reduceToNat, w64_id, cast_succ])
      refine SW.ret ?_; (try simp only [go_sem]); (first | refine FunPost.one ?_ | refine FunPost.two ?_ | refine FunPost.three ?_); (try simp (config := { maxSteps := 1000000 }) (disch := (first | omega | (simp only [go_sem]; try omega))) only [go_sem, Nat.reduceAdd, Nat.reduceEqDiff, Nat.reduceLeDiff, Nat.reduceMul, Nat.reduceLT, reduceIte, Int.reduceToNat, w64_id, cast_succ])
      exact GR.of ⟨_, _, _, rfl, by omega, rfl⟩
end Go.Proofs.YthogadbnddmkdaaGreat
