/- Groups of permutations: what some permutations generate. Permutations composed; their keys. Groups of permutations: the closure in the program. -/
import Derived.Test.YthogadbnddmkdaaGreatzK66
import Derived.Test.YthogadbnddmkdaaGreatProg
import Derived.KernelRfl
import Derived.Test.YthogadbnddmkdaaGreatzK60
import Derived.Test.YthogadbnddmkdaaGreatzK8
import Derived.Test.YthogadbnddmkdaaGreatzK50
import Derived.Test.YthogadbnddmkdaaGreatzU1
import Derived.Test.YthogadbnddmkdaaGreatzK62
set_option linter.unusedSimpArgs false
set_option linter.unusedVariables false
set_option maxHeartbeats 4000000
set_option maxRecDepth 100000
namespace Go.Proofs.YthogadbnddmkdaaGreat
open Go.Av
abbrev f_impl_closure : Nat := 144
def c_impl_closure : SC :=
 .seq (.reg [
     ⟨(some 4), .mv (.const (.slice none 0 0)), none⟩,
     ⟨(some 5), .mv (.const (.bool false)), none⟩] [0, 1])
 (.seq (.reg [
     ⟨(some 13), .mv (.tmp 0), none⟩,
     ⟨(some 14), .call 83 [(.tmp 13)], none⟩,
     ⟨(some 15), .bslice 50 1 1 [(.slice none 0 0)] [(0, (.tmp 14))], none⟩,
     ⟨(some 6), .mv (.tmp 15), none⟩] [1, 6])
 (.seq (.reg [
     ⟨(some 16), .mkmap 184, none⟩,
     ⟨(some 17), .mv (.tmp 6), none⟩,
     ⟨(some 18), .iaddr 1 (.tmp 17) (.const (.int .i64 0)), none⟩,
     ⟨(some 19), .load 1 false (.tmp 18), none⟩,
     ⟨(some 20), .call 176 [(.tmp 19)], none⟩,
     ⟨none, .mput 0 (.tmp 16) (.tmp 20) (.const (.bool true)), none⟩,
     ⟨(some 21), .mv (.tmp 16), none⟩,
     ⟨(some 7), .mv (.tmp 21), none⟩] [1, 6, 7])
 (.seq (.seq (.reg [
     ⟨(some 8), .mv (.const (.int .i64 0)), none⟩] [1, 6, 7, 8])
 (.block 0 (.loop [1, 6, 7, 8]
   (.seq (.seq (.reg [
       ⟨(some 22), .mv (.tmp 8), none⟩,
       ⟨(some 23), .mv (.tmp 6), none⟩,
       ⟨(some 24), .len (.tmp 23), none⟩,
       ⟨(some 25), .bin .lss (.tmp 22) (.tmp 24), none⟩] [1, 6, 7, 8, 25])
   (.cond (.tmp 25)
    (.skip)
    (.exit 0)))
   (.seq (.block 1 (.seq (.seq (.reg [
        ⟨(some 28), .mv (.tmp 1), none⟩,
        ⟨(some 29), .len (.tmp 28), none⟩,
        ⟨(some 30), .mv (.const (.int .i64 0)), none⟩] [1, 6, 7, 8, 28, 29, 30])
    (.block 2 (.loop [1, 6, 7, 8, 28, 29, 30]
      (.seq (.reg [
          ⟨(some 31), .bin .lss (.tmp 30) (.tmp 29), none⟩] [1, 6, 7, 8, 28, 29, 30, 31])
      (.seq (.cond (.tmp 31)
       (.skip)
       (.exit 2))
      (.seq (.block 3 (.seq (.reg [
           ⟨(some 32), .iaddr 1 (.tmp 28) (.tmp 30), none⟩,
           ⟨(some 33), .load 1 false (.tmp 32), none⟩,
           ⟨(some 10), .mv (.tmp 33), none⟩] [1, 6, 7, 8, 10, 28, 29, 30])
       (.seq (.reg [
           ⟨(some 34), .mv (.tmp 6), none⟩,
           ⟨(some 35), .mv (.tmp 8), none⟩,
           ⟨(some 36), .iaddr 1 (.tmp 34) (.tmp 35), none⟩,
           ⟨(some 37), .load 1 false (.tmp 36), none⟩,
           ⟨(some 38), .mv (.tmp 10), none⟩,
           ⟨(some 39), .call 177 [(.tmp 37), (.tmp 38)], none⟩,
           ⟨(some 11), .mv (.tmp 39), none⟩] [1, 6, 7, 8, 11, 28, 29, 30])
       (.seq (.reg [
           ⟨(some 40), .mv (.tmp 11), none⟩,
           ⟨(some 41), .call 176 [(.tmp 40)], none⟩,
           ⟨(some 12), .mv (.tmp 41), none⟩] [1, 6, 7, 8, 11, 12, 28, 29, 30])
       (.seq (.reg [
           ⟨(some 42), .mv (.tmp 7), none⟩,
           ⟨(some 43), .mv (.tmp 12), none⟩,
           ⟨(some 44), .mget 0 (.bool false) (.tmp 42) (.tmp 43), none⟩,
           ⟨(some 45), .un .not (.tmp 44), none⟩] [1, 6, 7, 8, 11, 12, 28, 29, 30, 45])
       (.cond (.tmp 45)
        (.seq (.reg [
            ⟨(some 46), .mv (.tmp 7), none⟩,
            ⟨(some 47), .mv (.tmp 12), none⟩,
            ⟨none, .mput 0 (.tmp 46) (.tmp 47) (.const (.bool true)), none⟩] [1, 6, 7, 8, 11, 28, 29, 30])
        (.reg [
            ⟨(some 48), .mv (.tmp 6), none⟩,
            ⟨(some 49), .mv (.tmp 11), none⟩,
            ⟨(some 50), .bslice 50 1 1 [(.slice none 0 0)] [(0, (.tmp 49))], none⟩,
            ⟨(some 51), .app 50 1 24 (.tmp 48) (.tmp 50), none⟩,
            ⟨(some 6), .mv (.tmp 51), none⟩] [1, 6, 7, 8, 28, 29, 30]))
        (.skip)))))))
      (.reg [
          ⟨(some 52), .bin .add (.tmp 30) (.const (.int .i64 1)), none⟩,
          ⟨(some 30), .mv (.tmp 52), none⟩] [1, 6, 7, 8, 28, 29, 30])))))))
    (.seq (.reg [
        ⟨(some 53), .mv (.tmp 6), none⟩,
        ⟨(some 54), .len (.tmp 53), none⟩,
        ⟨(some 55), .bin .gtr (.tmp 54) (.const (.int .i64 720)), none⟩] [1, 6, 7, 8, 55])
    (.cond (.tmp 55)
     (.seq (.reg [
         ⟨(some 4), .mv (.const (.slice none 0 0)), none⟩,
         ⟨(some 5), .mv (.const (.bool false)), none⟩] [4, 5])
     (.ret))
     (.skip)))))
   (.reg [
       ⟨(some 26), .mv (.tmp 8), none⟩,
       ⟨(some 27), .bin .add (.tmp 26) (.const (.int .i64 1)), none⟩,
       ⟨(some 8), .mv (.tmp 27), none⟩] [1, 6, 7, 8]))))))
 (.seq (.reg [
     ⟨(some 56), .mv (.tmp 6), none⟩,
     ⟨(some 57), .call 79 [(.tmp 56), (.func 65)], none⟩] [6])
 (.seq (.reg [
     ⟨(some 58), .mv (.tmp 6), none⟩,
     ⟨(some 4), .mv (.tmp 58), none⟩,
     ⟨(some 5), .mv (.const (.bool true)), none⟩] [4, 5])
 (.ret))))))
theorem s_impl_closure : stripF Tryz.prog 144 [[0, 1], [1, 6], [1, 6, 7], [1, 6, 7, 8], [1, 6, 7, 8], [1, 6, 7, 8, 25], [1, 6, 7, 8, 28, 29, 30], [1, 6, 7, 8, 28, 29, 30], [1, 6, 7, 8, 28, 29, 30, 31], [1, 6, 7, 8, 10, 28, 29, 30], [1, 6, 7, 8, 11, 28, 29, 30], [1, 6, 7, 8, 11, 12, 28, 29, 30], [1, 6, 7, 8, 11, 12, 28, 29, 30, 45], [1, 6, 7, 8, 11, 28, 29, 30], [1, 6, 7, 8, 28, 29, 30], [1, 6, 7, 8, 28, 29, 30], [1, 6, 7, 8, 55], [4, 5], [1, 6, 7, 8], [6], [4, 5]] = some (c_impl_closure, [.tmp 4, .tmp 5], 59) := by kernel_rfl
abbrev f_spec_l04Times : Nat := 173
def c_spec_l04Times : SC :=
 .seq (.reg [
     ⟨(some 4), .mv (.const (.slice none 0 0)), none⟩] [0, 1])
 (.seq (.reg [
     ⟨(some 7), .bslice 2 1 0 [] [], none⟩,
     ⟨(some 5), .mv (.tmp 7), none⟩] [0, 1, 5])
 (.seq (.seq (.reg [
     ⟨(some 6), .mv (.const (.int .i64 0)), none⟩] [0, 1, 5, 6])
 (.block 0 (.loop [0, 1, 5, 6]
   (.seq (.seq (.reg [
       ⟨(some 8), .mv (.tmp 6), none⟩,
       ⟨(some 9), .mv (.tmp 0), none⟩,
       ⟨(some 10), .len (.tmp 9), none⟩,
       ⟨(some 11), .bin .lss (.tmp 8) (.tmp 10), none⟩] [0, 1, 5, 6, 11])
   (.cond (.tmp 11)
    (.skip)
    (.exit 0)))
   (.seq (.block 1 (.reg [
        ⟨(some 14), .mv (.tmp 5), none⟩,
        ⟨(some 15), .mv (.tmp 1), none⟩,
        ⟨(some 16), .mv (.tmp 0), none⟩,
        ⟨(some 17), .mv (.tmp 6), none⟩,
        ⟨(some 18), .iaddr 1 (.tmp 16) (.tmp 17), none⟩,
        ⟨(some 19), .load 1 false (.tmp 18), none⟩,
        ⟨(some 20), .iaddr 1 (.tmp 15) (.tmp 19), none⟩,
        ⟨(some 21), .load 1 false (.tmp 20), none⟩,
        ⟨(some 22), .bslice 2 1 1 [(.int .i64 0)] [(0, (.tmp 21))], none⟩,
        ⟨(some 23), .app 2 1 8 (.tmp 14) (.tmp 22), none⟩,
        ⟨(some 5), .mv (.tmp 23), none⟩] [0, 1, 5, 6]))
   (.reg [
       ⟨(some 12), .mv (.tmp 6), none⟩,
       ⟨(some 13), .bin .add (.tmp 12) (.const (.int .i64 1)), none⟩,
       ⟨(some 6), .mv (.tmp 13), none⟩] [0, 1, 5, 6]))))))
 (.seq (.reg [
     ⟨(some 24), .mv (.tmp 5), none⟩,
     ⟨(some 4), .mv (.tmp 24), none⟩] [4])
 (.ret))))
theorem s_spec_l04Times : stripF Tryz.prog 173 [[0, 1], [0, 1, 5], [0, 1, 5, 6], [0, 1, 5, 6], [0, 1, 5, 6, 11], [0, 1, 5, 6], [0, 1, 5, 6], [4]] = some (c_spec_l04Times, [.tmp 4], 25) := by kernel_rfl
abbrev f_impl_keyOf : Nat := 176
def c_impl_keyOf : SC :=
 .seq (.reg [
     ⟨(some 2), .mv (.const (.string ByteArray.empty)), none⟩] [0])
 (.seq (.reg [
     ⟨(some 6), .mv (.tmp 0), none⟩,
     ⟨(some 7), .len (.tmp 6), none⟩,
     ⟨(some 8), .mslice 5 1 (.int .u8 0) (.tmp 7) (.tmp 7), none⟩,
     ⟨(some 3), .mv (.tmp 8), none⟩] [0, 3])
 (.seq (.seq (.reg [
     ⟨(some 9), .mv (.tmp 0), none⟩,
     ⟨(some 10), .len (.tmp 9), none⟩,
     ⟨(some 11), .mv (.const (.int .i64 0)), none⟩] [3, 9, 10, 11])
 (.block 0 (.loop [3, 9, 10, 11]
   (.seq (.reg [
       ⟨(some 12), .bin .lss (.tmp 11) (.tmp 10), none⟩] [3, 9, 10, 11, 12])
   (.seq (.cond (.tmp 12)
    (.skip)
    (.exit 0))
   (.seq (.block 1 (.seq (.reg [
        ⟨(some 13), .mv (.tmp 11), none⟩,
        ⟨(some 14), .iaddr 1 (.tmp 9) (.tmp 11), none⟩,
        ⟨(some 15), .load 1 false (.tmp 14), none⟩,
        ⟨(some 4), .mv (.tmp 13), none⟩,
        ⟨(some 5), .mv (.tmp 15), none⟩] [3, 4, 5, 9, 10, 11])
    (.reg [
        ⟨(some 16), .mv (.tmp 3), none⟩,
        ⟨(some 17), .mv (.tmp 4), none⟩,
        ⟨(some 18), .mv (.tmp 5), none⟩,
        ⟨(some 19), .conv .u8 (.tmp 18), none⟩,
        ⟨(some 20), .iaddr 1 (.tmp 16) (.tmp 17), none⟩,
        ⟨none, .store 1 (.tmp 20) (.tmp 19), none⟩] [3, 9, 10, 11])))
   (.reg [
       ⟨(some 21), .bin .add (.tmp 11) (.const (.int .i64 1)), none⟩,
       ⟨(some 11), .mv (.tmp 21), none⟩] [3, 9, 10, 11])))))))
 (.seq (.reg [
     ⟨(some 22), .mv (.tmp 3), none⟩,
     ⟨(some 23), .str (.tmp 22), none⟩,
     ⟨(some 2), .mv (.tmp 23), none⟩] [2])
 (.ret))))
theorem s_impl_keyOf : stripF Tryz.prog 176 [[0], [0, 3], [3, 9, 10, 11], [3, 9, 10, 11], [3, 9, 10, 11, 12], [3, 4, 5, 9, 10, 11], [3, 9, 10, 11], [3, 9, 10, 11], [2]] = some (c_impl_keyOf, [.tmp 2], 24) := by kernel_rfl
abbrev f_impl_compose : Nat := 177
def c_impl_compose : SC :=
 .seq (.reg [
     ⟨(some 4), .mv (.const (.slice none 0 0)), none⟩] [0, 1])
 (.seq (.reg [
     ⟨(some 7), .mv (.tmp 0), none⟩,
     ⟨(some 8), .len (.tmp 7), none⟩,
     ⟨(some 9), .mslice 2 8 (.int .i64 0) (.tmp 8) (.tmp 8), none⟩,
     ⟨(some 5), .mv (.tmp 9), none⟩] [0, 1, 5])
 (.seq (.seq (.reg [
     ⟨(some 10), .mv (.tmp 5), none⟩,
     ⟨(some 11), .len (.tmp 10), none⟩,
     ⟨(some 12), .mv (.const (.int .i64 0)), none⟩] [0, 1, 5, 11, 12])
 (.block 0 (.loop [0, 1, 5, 11, 12]
   (.seq (.reg [
       ⟨(some 13), .bin .lss (.tmp 12) (.tmp 11), none⟩] [0, 1, 5, 11, 12, 13])
   (.seq (.cond (.tmp 13)
    (.skip)
    (.exit 0))
   (.seq (.block 1 (.seq (.reg [
        ⟨(some 14), .mv (.tmp 12), none⟩,
        ⟨(some 6), .mv (.tmp 14), none⟩] [0, 1, 5, 6, 11, 12])
    (.reg [
        ⟨(some 15), .mv (.tmp 5), none⟩,
        ⟨(some 16), .mv (.tmp 6), none⟩,
        ⟨(some 17), .mv (.tmp 1), none⟩,
        ⟨(some 18), .mv (.tmp 0), none⟩,
        ⟨(some 19), .mv (.tmp 6), none⟩,
        ⟨(some 20), .iaddr 1 (.tmp 18) (.tmp 19), none⟩,
        ⟨(some 21), .load 1 false (.tmp 20), none⟩,
        ⟨(some 22), .iaddr 1 (.tmp 17) (.tmp 21), none⟩,
        ⟨(some 23), .load 1 false (.tmp 22), none⟩,
        ⟨(some 24), .iaddr 1 (.tmp 15) (.tmp 16), none⟩,
        ⟨none, .store 1 (.tmp 24) (.tmp 23), none⟩] [0, 1, 5, 11, 12])))
   (.reg [
       ⟨(some 25), .bin .add (.tmp 12) (.const (.int .i64 1)), none⟩,
       ⟨(some 12), .mv (.tmp 25), none⟩] [0, 1, 5, 11, 12])))))))
 (.seq (.reg [
     ⟨(some 26), .mv (.tmp 5), none⟩,
     ⟨(some 4), .mv (.tmp 26), none⟩] [4])
 (.ret))))
theorem s_impl_compose : stripF Tryz.prog 177 [[0, 1], [0, 1, 5], [0, 1, 5, 11, 12], [0, 1, 5, 11, 12], [0, 1, 5, 11, 12, 13], [0, 1, 5, 6, 11, 12], [0, 1, 5, 11, 12], [0, 1, 5, 11, 12], [4]] = some (c_impl_compose, [.tmp 4], 27) := by kernel_rfl
inductive Gen (n : Nat) (gs : List (List Int)) : List Int → Prop
  | one : Gen n gs (idL n)
  | step (p g : List Int) (hg : g ∈ gs) (h : Gen n gs p) : Gen n gs (mul p g)
theorem Gen.ok {n : Nat} {gs : List (List Int)} (hg : ∀ g ∈ gs, permOk n g) {p : List Int} (h : Gen n gs p) : permOk n p := by
  induction h with
  | one => exact idL_ok n
  | step p g hm _ ih => exact mul_ok ih (hg g hm)
theorem Gen.mono {n : Nat} {gs hs : List (List Int)} (hsub : ∀ g ∈ gs, g ∈ hs) {p : List Int} (h : Gen n gs p) : Gen n hs p := by
  induction h with
  | one => exact .one
  | step p g hm _ ih => exact .step p g (hsub g hm) ih
theorem Gen.mul {n : Nat} {gs : List (List Int)} (hg : ∀ g ∈ gs, permOk n g) {p q : List Int} (h : Gen n gs p) (k : Gen n gs q) : Gen n gs (mul p q) := by
  induction k with
  | one => rw [mul_one (h.ok hg)]; exact h
  | step q g hm hq ih => rw [mul_assoc' (h.ok hg) (hq.ok hg)]; exact .step _ g hm ih
theorem Gen.gen {n : Nat} {gs : List (List Int)} {g : List Int} (hg : permOk n g) (hm : g ∈ gs) : Gen n gs g := by
  have := Gen.step (n := n) (idL n) g hm .one
  rwa [idL_mul hg] at this
theorem Gen.trans {n : Nat} {gs hs : List (List Int)} (hg : ∀ g ∈ gs, permOk n g) (hsub : ∀ h ∈ hs, Gen n gs h) {p : List Int} (h : Gen n hs p) : Gen n gs p := by
  induction h with
  | one => exact .one
  | step p g hm _ ih => exact ih.mul hg (hsub g hm)
def GenList (n : Nat) (gs L : List (List Int)) : Prop := Asc cmpL L ∧ ∀ p, p ∈ L ↔ Gen n gs p
theorem GenList.uniq {n : Nat} {gs L M : List (List Int)} (h : GenList n gs L) (k : GenList n gs M) : L = M := asc_uniq cmpL_tot h.1 k.1 (fun p => by rw [h.2, k.2])
open Classical in
noncomputable def genL (n : Nat) (gs : List (List Int)) (m : Nat) : Option (List (List Int)) := if h : ∃ L, GenList n gs L ∧ L.length ≤ m then some h.choose else none
theorem genL_some {n m : Nat} {gs L : List (List Int)} (h : GenList n gs L) (hl : L.length ≤ m) : genL n gs m = some L := by
  have hh : ∃ L, GenList n gs L ∧ L.length ≤ m := ⟨L, h, hl⟩
  unfold genL
  rw [dif_pos hh]
  exact congrArg some (hh.choose_spec.1.uniq h)
theorem genL_inv {n m : Nat} {gs L : List (List Int)} (h : genL n gs m = some L) : GenList n gs L ∧ L.length ≤ m := by
  unfold genL at h
  split at h
  · rename_i hh
    cases h
    exact hh.choose_spec
  · cases h
theorem genL_none {n m : Nat} {gs D : List (List Int)} (hd : D.Nodup) (hg : ∀ p ∈ D, Gen n gs p) (hl : m < D.length) : genL n gs m = none := by
  cases h : genL n gs m with
  | none => rfl
  | some L =>
    obtain ⟨h1, h2⟩ := genL_inv h
    have := nodup_sub_len hd (fun p hp => (h1.2 p).2 (hg p hp))
    omega
theorem genList_nil (n : Nat) : GenList n [] [idL n] := by
  refine ⟨by simp [Asc], fun p => ?_⟩
  rw [List.mem_singleton]
  constructor
  · rintro rfl; exact .one
  · intro h
    cases h with
    | one => rfl
    | step p g hg _ => simp at hg
def Closed (n : Nat) (els : List (List Int)) : Prop := ∀ p, Gen n els p → p ∈ els
open Classical in
theorem closed_small {n : Nat} {els gs : List (List Int)} (hc : Closed n els) (ha : Asc cmpL els) (hsub : ∀ g ∈ gs, g ∈ els) {m : Nat} (hm : els.length ≤ m) : ∃ L, genL n gs m = some L ∧ ∀ p ∈ L, p ∈ els := by
  have hG : GenList n gs (els.filter fun p => decide (Gen n gs p)) := by
    refine ⟨List.Pairwise.filter _ ha, fun p => ?_⟩
    rw [List.mem_filter, decide_eq_true_eq]
    exact ⟨fun h => h.2, fun h => ⟨hc p (h.mono hsub), h⟩⟩
  exact ⟨_, genL_some hG (Nat.le_trans (List.length_filter_le _ _) hm), fun p hp => (List.mem_filter.1 hp).1⟩
theorem closed_iff {n : Nat} {els gs L : List (List Int)} (hp : ∀ p ∈ els, permOk n p) (ha : Asc cmpL els) (hsub : ∀ g ∈ gs, g ∈ els) (hL : GenList n gs L) (hall : ∀ p ∈ els, p ∈ L) : Closed n els ↔ L.length = els.length := by
  have hgp : ∀ g ∈ gs, permOk n g := fun g hg => hp g (hsub g hg)
  constructor
  · intro hc
    have : L = els := asc_uniq cmpL_tot hL.1 ha (fun p => ⟨fun h => hc p (((hL.2 p).1 h).mono hsub), hall p⟩)
    rw [this]
  · intro hlen p hpg
    have hpL : p ∈ L := (hL.2 p).2 (Gen.trans hgp (fun g hg => (hL.2 g).1 (hall g hg)) hpg)
    have hn := ha.nodup cmpL_tot
    have hLn := hL.1.nodup cmpL_tot
    apply Classical.byContradiction
    intro hnp
    have := nodup_sub_len (l := p :: els) (m := L) (List.nodup_cons.2 ⟨hnp, hn⟩) (fun x hx => by
      rcases List.mem_cons.1 hx with rfl | hx
      · exact hpL
      · exact hall x hx)
    simp at this; omega
def grpOk (n : Int) (els : List (List Int)) : Prop := (1 ≤ n ∧ n ≤ 32) ∧ (1 ≤ els.length ∧ els.length ≤ 720) ∧ (∀ p ∈ els, permOk n.toNat p) ∧ Asc cmpL els ∧ Closed n.toNat els
open Classical in
noncomputable def grpB (n : Int) (els : List (List Int)) : Bool := decide (grpOk n els)
theorem grpB_t {n : Int} {els : List (List Int)} : grpB n els = true ↔ grpOk n els := by unfold grpB; simp
theorem grpB_f {n : Int} {els : List (List Int)} : grpB n els = false ↔ ¬ grpOk n els := by unfold grpB; simp
end Go.Proofs.YthogadbnddmkdaaGreat
namespace Go.Proofs.YthogadbnddmkdaaGreat
open Go.Av
theorem compose_fn (n : Nat) (p q : List Int) (hn : n ≤ 64) (hp : permOk n p) (hq : permOk n q) : PFn Tryz.prog f_impl_compose [ilS p, ilS q] (ilS (mul p q)) := by
  have hpl := hp.1
  have hql := hq.1
  intro H; refine ACalls.introB s_impl_compose (by simp) ?_; intro hB hA; unfold c_impl_compose; simp (config := { maxSteps := 1000000 }) (disch := (first | omega | (simp only [go_sem]; try omega))) only [go_sem, Nat.reduceAdd, Nat.reduceEqDiff, Nat.reduceLeDiff, Nat.reduceMul, Nat.reduceLT, reduceIte, Int.reduceToNat, w64_id, cast_succ]
  repeat (first | (with_reducible first | refine SW.seq ?_ | refine SW.block ?_ | refine SW.rowC ?_ | refine SW.skip ?_ | refine SW.exit ?_ | intro _ | refine And.intro (by omega) ?_) | simp (config := { maxSteps := 1000000 }) (disch := (first | omega | (simp only [go_sem]; try omega))) only [go_sem, Nat.reduceAdd, Nat.reduceEqDiff, Nat.reduceLeDiff, Nat.reduceMul, Nat.reduceLT, reduceIte, Int.reduceToNat, w64_id, cast_succ])
  rw [tab_rep]
  refine SW.loopE (fun E0 H0 q' E' H' => ∃ i : Nat, i ≤ n ∧ q' = n - i ∧ E' = aput E0 12 (I i) ∧ H' = H ++ [⟨0, 2, 1, (tab p.length fun j => if j < i then pa q (p.getD j 0) else 0).map I⟩]) n ⟨0, by omega, by omega, rfl, ?_⟩ ?_
  · congr 4
  rintro q' E' H' ⟨i, hi, rfl, rfl, rfl⟩
  have hll := tab_length p.length fun j => if j < i then pa q (p.getD j 0) else (0 : Int)
  simp (config := { maxSteps := 1000000 }) (disch := (first | omega | (simp only [go_sem]; try omega))) only [go_sem, Nat.reduceAdd, Nat.reduceEqDiff, Nat.reduceLeDiff, Nat.reduceMul, Nat.reduceLT, reduceIte, Int.reduceToNat, w64_id, cast_succ]
  repeat (first | (with_reducible first | refine SW.seq ?_ | refine SW.block ?_ | refine SW.rowC ?_ | refine SW.skip ?_ | refine SW.exit ?_ | intro _ | refine And.intro (by omega) ?_) | simp (config := { maxSteps := 1000000 }) (disch := (first | omega | (simp only [go_sem]; try omega))) only [go_sem, Nat.reduceAdd, Nat.reduceEqDiff, Nat.reduceLeDiff, Nat.reduceMul, Nat.reduceLT, reduceIte, Int.reduceToNat, w64_id, cast_succ, take_tab])
  (first | refine SW.condD rfl (fun h2 => ?_) (fun h2 => ?_) | refine SW.condN rfl (fun h2 => ?_) (fun h2 => ?_) | refine SW.condNB rfl (fun h2 => ?_) (fun h2 => ?_) | refine SW.condB rfl (fun h2 => ?_) (fun h2 => ?_))
  · have hx := hp.2.2 (p.getD i 0) (by rw [List.getD_eq_getElem?_getD, List.getElem?_eq_getElem (by omega)]; exact List.getElem_mem _)
    have hg : q.getD (p.getD i 0).toNat 0 = pa q (p.getD i 0) := rfl
    have hlt : (p.getD i 0).toNat < q.length := by omega
    repeat (first | (with_reducible first | refine SW.seq ?_ | refine SW.block ?_ | refine SW.rowC ?_ | refine SW.skip ?_ | refine SW.exit ?_ | intro _ | refine And.intro (by omega) ?_) | simp (config := { maxSteps := 1000000 }) (disch := (first | omega | (simp only [go_sem]; try omega))) only [go_sem, Nat.reduceAdd, Nat.reduceEqDiff, Nat.reduceLeDiff, Nat.reduceMul, Nat.reduceLT, reduceIte, Int.reduceToNat, w64_id, cast_succ, take_tab, hg])
    refine SLoop.next (n - (i + 1)) (by omega) ⟨i + 1, by omega, rfl, rfl, ?_⟩
    rw [tab_set]
    congr 4
    exact tab_congr fun j hj => by
      by_cases hji : j = i
      · subst hji; rw [if_pos rfl, if_pos (by omega)]
      · rw [if_neg hji]
        by_cases h3 : j < i
        · rw [if_pos h3, if_pos (by omega)]
        · rw [if_neg h3, if_neg (by omega)]
  · have : i = n := by omega
    subst this
    have hm : (tab p.length fun j => if j < i then pa q (p.getD j 0) else 0) = mul p q := by
      rw [hpl]
      have e : (tab i fun j => if j < i then pa q (p.getD j 0) else 0) = tab i fun j => pa q (p.getD j 0) := tab_congr fun j hj => by rw [if_pos hj]
      rw [e]
      unfold mul tab
      conv => rhs; rw [tab_of p]
      unfold tab
      rw [List.map_map, hpl]; rfl
    have hml := mul_length p q
    rw [hm]
    repeat (first | (with_reducible first | refine SW.seq ?_ | refine SW.block ?_ | refine SW.rowC ?_ | refine SW.skip ?_ | refine SW.exit ?_ | intro _ | refine And.intro (by omega) ?_) | simp (config := { maxSteps := 1000000 }) (disch := (first | omega | (simp only [go_sem]; try omega))) only [go_sem, Nat.reduceAdd, Nat.reduceEqDiff, Nat.reduceLeDiff, Nat.reduceMul, Nat.reduceLT, reduceIte, Int.reduceToNat, w64_id, cast_succ])
    refine SW.ret ?_; (try simp only [go_sem]); (first | refine FunPost.one ?_ | refine FunPost.two ?_ | refine FunPost.three ?_); (try simp (config := { maxSteps := 1000000 }) (disch := (first | omega | (simp only [go_sem]; try omega))) only [go_sem, Nat.reduceAdd, Nat.reduceEqDiff, Nat.reduceLeDiff, Nat.reduceMul, Nat.reduceLT, reduceIte, Int.reduceToNat, w64_id, cast_succ])
    rw [show p.length = (mul p q).length from hml.symm]
    exact GR.froz (froz_rowI (ver := 0) (ty := 2) (by omega) (by simp)) ⟨rfl, rfl⟩
theorem l04Times_fn (n : Nat) (p q : List Int) (hn : n ≤ 64) (hp : permOk n p) (hq : permOk n q) : PFn Tryz.prog f_spec_l04Times [ilS p, ilS q] (ilS (mul p q)) := by
  have hpl := hp.1
  have hql := hq.1
  intro H; refine ACalls.introB s_spec_l04Times (by simp) ?_; intro hB hA; unfold c_spec_l04Times; simp (config := { maxSteps := 1000000 }) (disch := (first | omega | (simp only [go_sem]; try omega))) only [go_sem, Nat.reduceAdd, Nat.reduceEqDiff, Nat.reduceLeDiff, Nat.reduceMul, Nat.reduceLT, reduceIte, Int.reduceToNat, w64_id, cast_succ]
  repeat (first | (with_reducible first | refine SW.seq ?_ | refine SW.block ?_ | refine SW.rowC ?_ | refine SW.skip ?_ | refine SW.exit ?_ | intro _ | refine And.intro (by omega) ?_) | simp (config := { maxSteps := 1000000 }) (disch := (first | omega | (simp only [go_sem]; try omega))) only [go_sem, Nat.reduceAdd, Nat.reduceEqDiff, Nat.reduceLeDiff, Nat.reduceMul, Nat.reduceLT, reduceIte, Int.reduceToNat, w64_id, cast_succ])
  refine SW.loopE (fun E0 H0 q' E' H' => ∃ (pre post : List Int) (ver : Nat), p = pre ++ post ∧ q' = post.length ∧ E' = aput (aput E0 6 (I pre.length)) 5 (.nm H.length ver 0 pre.length) ∧ H' = H ++ [⟨ver, 2, 1, (mul pre q).map I⟩]) p.length ⟨[], p, 0, rfl, rfl, rfl, rfl⟩ ?_
  rintro q' E' H' ⟨pre, post, ver, hpp, rfl, rfl, rfl⟩
  have hpl2 : pre.length ≤ 64 := by rw [hpp] at hpl; simp at hpl; omega
  have hml := mul_length pre q
  simp (config := { maxSteps := 1000000 }) (disch := (first | omega | (simp only [go_sem]; try omega))) only [go_sem, Nat.reduceAdd, Nat.reduceEqDiff, Nat.reduceLeDiff, Nat.reduceMul, Nat.reduceLT, reduceIte, Int.reduceToNat, w64_id, cast_succ]
  repeat (first | (with_reducible first | refine SW.seq ?_ | refine SW.block ?_ | refine SW.rowC ?_ | refine SW.skip ?_ | refine SW.exit ?_ | intro _ | refine And.intro (by omega) ?_) | simp (config := { maxSteps := 1000000 }) (disch := (first | omega | (simp only [go_sem]; try omega))) only [go_sem, Nat.reduceAdd, Nat.reduceEqDiff, Nat.reduceLeDiff, Nat.reduceMul, Nat.reduceLT, reduceIte, Int.reduceToNat, w64_id, cast_succ])
  (first | refine SW.condD rfl (fun h2 => ?_) (fun h2 => ?_) | refine SW.condN rfl (fun h2 => ?_) (fun h2 => ?_) | refine SW.condNB rfl (fun h2 => ?_) (fun h2 => ?_) | refine SW.condB rfl (fun h2 => ?_) (fun h2 => ?_))
  · obtain ⟨x, post, rfl, hg, -⟩ := consOf (d := 0) hpp (by omega)
    have hx := hp.2.2 x (by rw [hpp]; simp)
    have hg2 : q.getD x.toNat 0 = pa q x := rfl
    have hlt : x.toNat < q.length := by omega
    have htl : ((mul pre q).map I).take pre.length = (mul pre q).map I := List.take_of_length_le (by simp [hml])
    have hms : mul (pre ++ [x]) q = mul pre q ++ [pa q x] := by simp [mul]
    repeat (first | (with_reducible first | refine SW.seq ?_ | refine SW.block ?_ | refine SW.rowC ?_ | refine SW.skip ?_ | refine SW.exit ?_ | intro _ | refine And.intro (by omega) ?_) | simp (config := { maxSteps := 1000000 }) (disch := (first | omega | (simp only [go_sem]; try omega))) only [go_sem, Nat.reduceAdd, Nat.reduceEqDiff, Nat.reduceLeDiff, Nat.reduceMul, Nat.reduceLT, reduceIte, Int.reduceToNat, w64_id, cast_succ, hg, hg2, htl])
    refine SLoop.nextT 1 post.length hB (by omega) (by simp) (by simp) ?_ ?_ ⟨pre ++ [x], post, ver + 1, by simp [hpp], rfl, ?_, ?_⟩
    · (simp only [go_sem, Nat.reduceAdd, Nat.reduceEqDiff, reduceIte, go_sem, and_self, and_true, true_and, implies_true, List.take_succ_cons, List.take_zero, and_true, true_and]; try omega)
    · (simp only [go_sem, Nat.reduceAdd, Nat.reduceEqDiff, reduceIte, go_sem, and_self, and_true, true_and, implies_true, List.take_succ_cons, List.take_zero, and_true, true_and]; try omega)
    · simp [go_sem]
    · rw [hms]; simp
  · obtain ⟨rfl, rfl⟩ := nilOf hpp (by omega)
    repeat (first | (with_reducible first | refine SW.seq ?_ | refine SW.block ?_ | refine SW.rowC ?_ | refine SW.skip ?_ | refine SW.exit ?_ | intro _ | refine And.intro (by omega) ?_) | simp (config := { maxSteps := 1000000 }) (disch := (first | omega | (simp only [go_sem]; try omega))) only [go_sem, Nat.reduceAdd, Nat.reduceEqDiff, Nat.reduceLeDiff, Nat.reduceMul, Nat.reduceLT, reduceIte, Int.reduceToNat, w64_id, cast_succ])
    refine SW.ret ?_; (try simp only [go_sem]); (first | refine FunPost.one ?_ | refine FunPost.two ?_ | refine FunPost.three ?_); (try simp (config := { maxSteps := 1000000 }) (disch := (first | omega | (simp only [go_sem]; try omega))) only [go_sem, Nat.reduceAdd, Nat.reduceEqDiff, Nat.reduceLeDiff, Nat.reduceMul, Nat.reduceLT, reduceIte, Int.reduceToNat, w64_id, cast_succ])
    rw [show pre.length = (mul pre q).length from hml.symm]
    exact GR.froz (froz_rowI (ver := ver) (ty := 2) (by omega) (by simp)) ⟨rfl, rfl⟩
theorem l04One64_fn (n : Nat) (hn : n ≤ 64) : PFn Tryz.prog f_spec_l04One [I n] (ilS (idL n)) := by
  intro H; refine ACalls.introB s_spec_l04One (by simp) ?_; intro hB hA; unfold c_spec_l04One; simp (config := { maxSteps := 1000000 }) (disch := (first | omega | (simp only [go_sem]; try omega))) only [go_sem, Nat.reduceAdd, Nat.reduceEqDiff, Nat.reduceLeDiff, Nat.reduceMul, Nat.reduceLT, reduceIte, Int.reduceToNat, w64_id, cast_succ]
  repeat (first | (with_reducible first | refine SW.seq ?_ | refine SW.block ?_ | refine SW.rowC ?_ | refine SW.skip ?_ | refine SW.exit ?_ | intro _ | refine And.intro (by omega) ?_) | simp (config := { maxSteps := 1000000 }) (disch := (first | omega | (simp only [go_sem]; try omega))) only [go_sem, Nat.reduceAdd, Nat.reduceEqDiff, Nat.reduceLeDiff, Nat.reduceMul, Nat.reduceLT, reduceIte, Int.reduceToNat, w64_id, cast_succ])
  refine SW.loopE (fun E0 H0 q' E' H' => ∃ (i ver : Nat), i ≤ n ∧ q' = n - i ∧ E' = aput (aput E0 4 (I i)) 3 (.nm H.length ver 0 i) ∧ H' = H ++ [⟨ver, 2, 1, (idL i).map I⟩]) n ⟨0, 0, by omega, by omega, rfl, rfl⟩ ?_
  rintro q' E' H' ⟨i, ver, hi, rfl, rfl, rfl⟩
  have hil : (idL i).length = i := by simp [idL, tab]
  simp (config := { maxSteps := 1000000 }) (disch := (first | omega | (simp only [go_sem]; try omega))) only [go_sem, Nat.reduceAdd, Nat.reduceEqDiff, Nat.reduceLeDiff, Nat.reduceMul, Nat.reduceLT, reduceIte, Int.reduceToNat, w64_id, cast_succ]
  repeat (first | (with_reducible first | refine SW.seq ?_ | refine SW.block ?_ | refine SW.rowC ?_ | refine SW.skip ?_ | refine SW.exit ?_ | intro _ | refine And.intro (by omega) ?_) | simp (config := { maxSteps := 1000000 }) (disch := (first | omega | (simp only [go_sem]; try omega))) only [go_sem, Nat.reduceAdd, Nat.reduceEqDiff, Nat.reduceLeDiff, Nat.reduceMul, Nat.reduceLT, reduceIte, Int.reduceToNat, w64_id, cast_succ])
  (first | refine SW.condD rfl (fun h2 => ?_) (fun h2 => ?_) | refine SW.condN rfl (fun h2 => ?_) (fun h2 => ?_) | refine SW.condNB rfl (fun h2 => ?_) (fun h2 => ?_) | refine SW.condB rfl (fun h2 => ?_) (fun h2 => ?_))
  · have htl : ((idL i).map I).take i = (idL i).map I := List.take_of_length_le (by simp [hil])
    have hms : idL (i + 1) = idL i ++ [(i : Int)] := by simp [idL, tab, List.range_succ]
    repeat (first | (with_reducible first | refine SW.seq ?_ | refine SW.block ?_ | refine SW.rowC ?_ | refine SW.skip ?_ | refine SW.exit ?_ | intro _ | refine And.intro (by omega) ?_) | simp (config := { maxSteps := 1000000 }) (disch := (first | omega | (simp only [go_sem]; try omega))) only [go_sem, Nat.reduceAdd, Nat.reduceEqDiff, Nat.reduceLeDiff, Nat.reduceMul, Nat.reduceLT, reduceIte, Int.reduceToNat, w64_id, cast_succ, htl, hil])
    refine SLoop.nextT 1 (n - (i + 1)) hB (by omega) (by omega) (by simp) ?_ ?_ ⟨i + 1, ver + 1, by omega, rfl, ?_, ?_⟩
    · (simp only [go_sem, Nat.reduceAdd, Nat.reduceEqDiff, reduceIte, go_sem, and_self, and_true, true_and, implies_true, List.take_succ_cons, List.take_zero, and_true, true_and]; try omega)
    · (simp only [go_sem, Nat.reduceAdd, Nat.reduceEqDiff, reduceIte, go_sem, and_self, and_true, true_and, implies_true, List.take_succ_cons, List.take_zero, and_true, true_and]; try omega)
    · simp [go_sem]
    · rw [hms]; simp
  · have : i = n := by omega
    subst this
    repeat (first | (with_reducible first | refine SW.seq ?_ | refine SW.block ?_ | refine SW.rowC ?_ | refine SW.skip ?_ | refine SW.exit ?_ | intro _ | refine And.intro (by omega) ?_) | simp (config := { maxSteps := 1000000 }) (disch := (first | omega | (simp only [go_sem]; try omega))) only [go_sem, Nat.reduceAdd, Nat.reduceEqDiff, Nat.reduceLeDiff, Nat.reduceMul, Nat.reduceLT, reduceIte, Int.reduceToNat, w64_id, cast_succ])
    refine SW.ret ?_; (try simp only [go_sem]); (first | refine FunPost.one ?_ | refine FunPost.two ?_ | refine FunPost.three ?_); (try simp (config := { maxSteps := 1000000 }) (disch := (first | omega | (simp only [go_sem]; try omega))) only [go_sem, Nat.reduceAdd, Nat.reduceEqDiff, Nat.reduceLeDiff, Nat.reduceMul, Nat.reduceLT, reduceIte, Int.reduceToNat, w64_id, cast_succ])
    have e : (AV.nm H.length ver 0 i) = .nm H.length ver 0 (idL i).length := by rw [hil]
    rw [e]
    exact GR.froz (froz_rowI (ver := ver) (ty := 2) (by omega) (by simp)) ⟨rfl, rfl⟩
def w8 (x : Int) : Int := IntKind.u8.wrap x
def keyS (p : List Int) : ByteArray := bytesOf (p.map w8)
def by8 (x : Int) : AV := .lit (.int .u8 x)
theorem ConvW_u8 (x : Int) (H : List Blk) (K : AV → List Blk → Prop) : ConvW .u8 (I x) H K = K (by8 (w8 x)) H := (rfl)
theorem partsOf_by8 (x : Int) : partsOf (by8 x) = [by8 x] := (rfl)
theorem cell1_by8 (x : Int) : (by8 x).cell1 = true := (rfl)
theorem keyOf_fn (p : List Int) (hl : p.length ≤ 1000000) : PFn Tryz.prog f_impl_keyOf [ilS p] (.lit (.string (keyS p))) := by
  intro H; refine ACalls.introB s_impl_keyOf (by simp) ?_; intro hB hA; unfold c_impl_keyOf; simp (config := { maxSteps := 1000000 }) (disch := (first | omega | (simp only [go_sem]; try omega))) only [go_sem, Nat.reduceAdd, Nat.reduceEqDiff, Nat.reduceLeDiff, Nat.reduceMul, Nat.reduceLT, reduceIte, Int.reduceToNat, w64_id, cast_succ]
  repeat (first | (with_reducible first | refine SW.seq ?_ | refine SW.block ?_ | refine SW.rowC ?_ | refine SW.skip ?_ | refine SW.exit ?_ | intro _ | refine And.intro (by omega) ?_) | simp (config := { maxSteps := 1000000 }) (disch := (first | omega | (simp only [go_sem]; try omega))) only [go_sem, Nat.reduceAdd, Nat.reduceEqDiff, Nat.reduceLeDiff, Nat.reduceMul, Nat.reduceLT, reduceIte, Int.reduceToNat, w64_id, cast_succ])
  have hrep : (List.replicate p.length (AV.lit (.int .u8 0))) = (tab p.length fun j => if j < 0 then w8 (p.getD j 0) else 0).map by8 := by
    unfold tab by8
    rw [List.map_map]
    apply List.ext_getElem
    · simp
    · intro j h1 h2; simp
  rw [hrep]
  refine SW.loopE (fun E0 H0 q' E' H' => ∃ i : Nat, i ≤ p.length ∧ q' = p.length - i ∧ E' = aput E0 11 (I i) ∧ H' = H ++ [⟨0, 5, 1, (tab p.length fun j => if j < i then w8 (p.getD j 0) else 0).map by8⟩]) p.length ⟨0, by omega, by omega, rfl, rfl⟩ ?_
  rintro q' E' H' ⟨i, hi, rfl, rfl, rfl⟩
  have hll := tab_length p.length fun j => if j < i then w8 (p.getD j 0) else (0 : Int)
  have htk := (List.take_of_length_le (l := (tab p.length fun j => if j < i then w8 (p.getD j 0) else (0 : Int)).map by8) (i := p.length) (by rw [List.length_map, hll]; exact Nat.le_refl _))
  simp (config := { maxSteps := 1000000 }) (disch := (first | omega | (simp only [go_sem]; try omega))) only [go_sem, Nat.reduceAdd, Nat.reduceEqDiff, Nat.reduceLeDiff, Nat.reduceMul, Nat.reduceLT, reduceIte, Int.reduceToNat, w64_id, cast_succ]
  repeat (first | (with_reducible first | refine SW.seq ?_ | refine SW.block ?_ | refine SW.rowC ?_ | refine SW.skip ?_ | refine SW.exit ?_ | intro _ | refine And.intro (by omega) ?_) | simp (config := { maxSteps := 1000000 }) (disch := (first | omega | (simp only [go_sem]; try omega))) only [go_sem, Nat.reduceAdd, Nat.reduceEqDiff, Nat.reduceLeDiff, Nat.reduceMul, Nat.reduceLT, reduceIte, Int.reduceToNat, w64_id, cast_succ])
  (first | refine SW.condD rfl (fun h2 => ?_) (fun h2 => ?_) | refine SW.condN rfl (fun h2 => ?_) (fun h2 => ?_) | refine SW.condNB rfl (fun h2 => ?_) (fun h2 => ?_) | refine SW.condB rfl (fun h2 => ?_) (fun h2 => ?_))
  · repeat (first | (with_reducible first | refine SW.seq ?_ | refine SW.block ?_ | refine SW.rowC ?_ | refine SW.skip ?_ | refine SW.exit ?_ | intro _ | refine And.intro (by omega) ?_) | simp (config := { maxSteps := 1000000 }) (disch := (first | omega | (simp only [go_sem]; try omega))) only [go_sem, Nat.reduceAdd, Nat.reduceEqDiff, Nat.reduceLeDiff, Nat.reduceMul, Nat.reduceLT, reduceIte, Int.reduceToNat, w64_id, cast_succ, htk, ConvW_u8, partsOf_by8, cell1_by8])
    refine SLoop.next (p.length - (i + 1)) (by omega) ⟨i + 1, by omega, rfl, rfl, ?_⟩
    rw [← List.map_set, tab_set]
    congr 4
    exact tab_congr fun j hj => by
      by_cases hji : j = i
      · subst hji; rw [if_pos rfl, if_pos (by omega)]
      · rw [if_neg hji]
        by_cases h3 : j < i
        · rw [if_pos h3, if_pos (by omega)]
        · rw [if_neg h3, if_neg (by omega)]
  · have : i = p.length := by omega
    subst this
    have hm : (tab p.length fun j => if j < p.length then w8 (p.getD j 0) else 0) = p.map w8 := by
      have e : (tab p.length fun j => if j < p.length then w8 (p.getD j 0) else 0) = tab p.length fun j => w8 (p.getD j 0) := tab_congr fun j hj => by rw [if_pos hj]
      rw [e]
      conv => rhs; rw [tab_of p]
      unfold tab
      rw [List.map_map]; rfl
    rw [hm]
    repeat (first | (with_reducible first | refine SW.seq ?_ | refine SW.block ?_ | refine SW.rowC ?_ | refine SW.skip ?_ | refine SW.exit ?_ | intro _ | refine And.intro (by omega) ?_) | simp (config := { maxSteps := 1000000 }) (disch := (first | omega | (simp only [go_sem]; try omega))) only [go_sem, Nat.reduceAdd, Nat.reduceEqDiff, Nat.reduceLeDiff, Nat.reduceMul, Nat.reduceLT, reduceIte, Int.reduceToNat, w64_id, cast_succ, htk])
    refine StrW.of _ _ (p.map w8) (by simp) (by rw [List.take_of_length_le (by simp)]; rfl) ?_
    repeat (first | (with_reducible first | refine SW.seq ?_ | refine SW.block ?_ | refine SW.rowC ?_ | refine SW.skip ?_ | refine SW.exit ?_ | intro _ | refine And.intro (by omega) ?_) | simp (config := { maxSteps := 1000000 }) (disch := (first | omega | (simp only [go_sem]; try omega))) only [go_sem, Nat.reduceAdd, Nat.reduceEqDiff, Nat.reduceLeDiff, Nat.reduceMul, Nat.reduceLT, reduceIte, Int.reduceToNat, w64_id, cast_succ])
    refine SW.ret ?_; (try simp only [go_sem]); (first | refine FunPost.one ?_ | refine FunPost.two ?_ | refine FunPost.three ?_); (try simp (config := { maxSteps := 1000000 }) (disch := (first | omega | (simp only [go_sem]; try omega))) only [go_sem, Nat.reduceAdd, Nat.reduceEqDiff, Nat.reduceLeDiff, Nat.reduceMul, Nat.reduceLT, reduceIte, Int.reduceToNat, w64_id, cast_succ]); (first | (with_reducible refine GR.drop ?_ ?_; (simp only [go_sem, and_self, and_true, true_and, implies_true, List.take_succ_cons, List.take_zero])) | refine GR.of ?_); refine ⟨?_, rfl⟩; (try with_reducible rfl)
    rfl
theorem bytes_fold (ns : List Int) (b : ByteArray) : (ns.foldl (fun r n => r.push (UInt8.ofNat n.toNat)) b).data.toList = b.data.toList ++ ns.map fun n => UInt8.ofNat n.toNat := by
  induction ns generalizing b with
  | nil => simp
  | cons n ns ih =>
    rw [List.foldl_cons, ih]
    have : (b.push (UInt8.ofNat n.toNat)).data.toList = b.data.toList ++ [UInt8.ofNat n.toNat] := by cases b; simp [ByteArray.push]
    rw [this]; simp
theorem map_inj_on {A B : Type} {f : A → B} {P : A → Prop} (hf : ∀ x y, P x → P y → f x = f y → x = y) : ∀ {l m : List A}, (∀ x ∈ l, P x) → (∀ x ∈ m, P x) → l.map f = m.map f → l = m
  | [], [], _, _, _ => rfl
  | [], _ :: _, _, _, h => by simp at h
  | _ :: _, [], _, _, h => by simp at h
  | x :: l, y :: m, h1, h2, h => by
    simp only [List.map_cons, List.cons.injEq] at h
    rw [hf x y (h1 x (by simp)) (h2 y (by simp)) h.1, map_inj_on hf (fun x hx => h1 x (by simp [hx])) (fun x hx => h2 x (by simp [hx])) h.2]
theorem w8_id {x : Int} (h0 : 0 ≤ x) (h1 : x < 256) : w8 x = x := by
  have e : x % (2 ^ IntKind.u8.bits : Int) = x := by
    show x % (2 ^ 8 : Int) = x
    omega
  show (if (false && decide (x % (2 ^ IntKind.u8.bits : Int) ≥ (2 ^ (IntKind.u8.bits - 1) : Int))) = true then x % (2 ^ IntKind.u8.bits : Int) - (2 ^ IntKind.u8.bits : Int) else x % (2 ^ IntKind.u8.bits : Int)) = x
  rw [Bool.false_and, if_neg (by simp), e]
theorem keyS_inj {p q : List Int} (hp : ∀ x ∈ p, 0 ≤ x ∧ x < 256) (hq : ∀ x ∈ q, 0 ≤ x ∧ x < 256) (h : keyS p = keyS q) : p = q := by
  have h1 := congrArg (fun b : ByteArray => b.data.toList) h
  simp only [keyS, bytesOf, bytes_fold] at h1
  simp only [List.map_map] at h1
  have h2 := List.append_cancel_left h1
  refine map_inj_on (P := fun x => 0 ≤ x ∧ x < 256) ?_ hp hq h2
  intro x y hx hy hxy
  simp only [Function.comp_apply, w8_id hx.1 hx.2, w8_id hy.1 hy.2] at hxy
  have h3 := congrArg UInt8.toNat hxy
  simp only [UInt8.toNat_ofNat'] at h3
  omega
theorem keyS_perm {n : Nat} {p q : List Int} (hn : n ≤ 64) (hp : permOk n p) (hq : permOk n q) (h : keyS p = keyS q) : p = q :=
  keyS_inj (fun x hx => by have := hp.2.2 x hx; omega) (fun x hx => by have := hq.2.2 x hx; omega) h
def seenM (L : List (List Int)) : List (MK × Value) := L.map fun q => (.s (keyS q), .bool true)
theorem seenM_kind (L : List (List Int)) : ∀ p ∈ seenM L, p.1.kind = 0 := by
  intro p hp
  obtain ⟨q, _, rfl⟩ := List.mem_map.1 hp
  rfl
theorem seenM_new {n : Nat} (hn : n ≤ 64) {L : List (List Int)} (hL : ∀ q ∈ L, permOk n q) {p : List Int} (hp : permOk n p) (h : p ∉ L) : ∀ x ∈ seenM L, x.1 ≠ .s (keyS p) := by
  intro x hx
  obtain ⟨q, hq, rfl⟩ := List.mem_map.1 hx
  intro he
  have := keyS_perm hn (hL q hq) hp (by simpa using he)
  exact h (this ▸ hq)
theorem seenM_val {n : Nat} (hn : n ≤ 64) {L : List (List Int)} (hL : ∀ q ∈ L, permOk n q) {p : List Int} (hp : permOk n p) : mval (seenM L) (.s (keyS p)) (.bool false) = .bool (decide (p ∈ L)) := by
  unfold mval
  by_cases h : p ∈ L
  · rw [decide_eq_true h]
    cases hf : (seenM L).find? (fun x => decide (x.1 = .s (keyS p))) with
    | none =>
      rw [List.find?_eq_none] at hf
      have := hf (.s (keyS p), .bool true) (List.mem_map.2 ⟨p, h, rfl⟩)
      simp at this
    | some x =>
      obtain ⟨q, _, rfl⟩ := List.mem_map.1 (List.mem_of_find?_eq_some hf)
      rfl
  · rw [decide_eq_false h]
    have : (seenM L).find? (fun x => decide (x.1 = .s (keyS p))) = none := by
      rw [List.find?_eq_none]
      intro x hx
      simpa using seenM_new hn hL hp h x hx
    rw [this]; rfl
theorem seenM_snoc (L : List (List Int)) (p : List Int) : seenM (L ++ [p]) = seenM L ++ [(.s (keyS p), .bool true)] := by simp [seenM]
end Go.Proofs.YthogadbnddmkdaaGreat
namespace Go.Proofs.YthogadbnddmkdaaGreat
open Go.Av
theorem mapC_bel {ps : List (MK × Value)} {c : AV} {k : Nat} (h : c ∈ mapC ps) : Bel k c := by
  obtain ⟨x, _, h⟩ := List.mem_flatMap.1 h
  simp only [List.mem_cons, List.not_mem_nil, or_false] at h
  rcases h with rfl | rfl <;> exact .lit _
theorem froz_rowsS {H : List Blk} {b r ver ty : Nat} {xss : List (List Int)} (hb : b ≤ r) (hr : H[r]? = some ⟨ver, ty, 1, xss.map ilS⟩) : Froz H b (.nm r ver 0 xss.length) (ilSS xss) := by
  have hc : (((xss.map ilS).drop 0).take (xss.length * 1)) = xss.map ilS := by rw [List.drop_zero]; exact List.take_of_length_le (by simp)
  refine .nm r ver 0 xss.length _ _ hb hr rfl (by simp only [hc]) ?_
  intro j c c' h1 h2
  simp only [hc] at h1
  rw [h1] at h2; cases h2
  obtain ⟨x, _, rfl⟩ := List.mem_map.1 (List.mem_of_getElem? h1)
  exact .old _ (by rw [Bel_ilS]; trivial)
noncomputable def closAV : Option (List (List Int)) → AV
  | some L => .tup [ilSS L, Bv true]
  | none => .tup [ilSS [], Bv false]
theorem closure_ok (H : List Blk) (n : Nat) (a : AV) (gs : List (List Int)) (hn1 : 1 ≤ n) (hn : n ≤ 32) (ha : aview H a = some (gs.length, gs.map ilS)) (hg : ∀ g ∈ gs, permOk n g) (hgl : gs.length ≤ 1000000) :
    ACalls Tryz.prog f_impl_closure [I n, a] H (fun r H' => r = closAV (genL n gs 720) ∧ H' = H) := by
  have hav : ∀ ext, aview (H ++ ext) a = some (gs.length, gs.map ilS) := fun ext => aview_append ha ext
  have h1l : (idL n).length = n := by simp [idL, tab]
  refine ACalls.introB s_impl_closure (by simp) ?_; intro hB hA; unfold c_impl_closure; simp (config := { maxSteps := 1000000 }) (disch := (first | omega | (simp only [go_sem]; try omega))) only [go_sem, Nat.reduceAdd, Nat.reduceEqDiff, Nat.reduceLeDiff, Nat.reduceMul, Nat.reduceLT, reduceIte, Int.reduceToNat, w64_id, cast_succ]
  have hab : Bel H.length a := hA a (by simp)
  have hid := idL_ok n
  have hk1 := keyOf_fn (idL n) (by omega)
  have hi1 := identity_fn n (by omega)
  repeat (first | (with_reducible first | refine SW.seq ?_ | refine SW.block ?_ | refine SW.rowC ?_ | refine SW.skip ?_ | refine SW.exit ?_ | refine PFn.use (hi1) ?_ | refine PFn.useq (hi1) ?_ | refine PFn.use (hk1) ?_ | refine PFn.useq (hk1) ?_ | intro _ | refine And.intro (by omega) ?_) | simp (config := { maxSteps := 1000000 }) (disch := (first | omega | (simp only [go_sem]; try omega))) only [go_sem, Nat.reduceAdd, Nat.reduceEqDiff, Nat.reduceLeDiff, Nat.reduceMul, Nat.reduceLT, reduceIte, Int.reduceToNat, w64_id, cast_succ])
  refine MputW.of _ _ (ty := 184) (ps := []) (key := .s (keyS (idL n))) (by simp; rfl) rfl rfl (by simp) (by simp) ?_
  repeat (first | (with_reducible first | refine SW.seq ?_ | refine SW.block ?_ | refine SW.rowC ?_ | refine SW.skip ?_ | refine SW.exit ?_ | intro _ | refine And.intro (by omega) ?_) | simp (config := { maxSteps := 1000000 }) (disch := (first | omega | (simp only [go_sem]; try omega))) only [go_sem, Nat.reduceAdd, Nat.reduceEqDiff, Nat.reduceLeDiff, Nat.reduceMul, Nat.reduceLT, reduceIte, Int.reduceToNat, w64_id, cast_succ])
  refine SW.loopE (fun E0 H0 q E' H' => ∃ (L : List (List Int)) (k ver : Nat), k ≤ L.length ∧ L.length ≤ 720 ∧ q = 721 - k ∧ E' = aput (aput E0 8 (I k)) 6 (.nm H.length ver 0 L.length) ∧ H' = H ++ [⟨ver, tyLL, 1, L.map ilS⟩, ⟨0, 184, 0, mapC (seenM L)⟩] ∧ L.Nodup ∧ (∀ p ∈ L, Gen n gs p) ∧ idL n ∈ L ∧ ∀ j, j < k → ∀ g ∈ gs, mul (L.getD j []) g ∈ L) 721 ⟨[idL n], 0, 0, by simp, by simp, by omega, rfl, ?_, by simp, by simpa using Gen.one, by simp, by omega⟩ ?_
  · simp [seenM]
  rintro q E' H' ⟨L, k, ver, hk, hLl, rfl, rfl, rfl, hnd, hgen, hone, hcl⟩
  simp (config := { maxSteps := 1000000 }) (disch := (first | omega | (simp only [go_sem]; try omega))) only [go_sem, Nat.reduceAdd, Nat.reduceEqDiff, Nat.reduceLeDiff, Nat.reduceMul, Nat.reduceLT, reduceIte, Int.reduceToNat, w64_id, cast_succ]
  repeat (first | (with_reducible first | refine SW.seq ?_ | refine SW.block ?_ | refine SW.rowC ?_ | refine SW.skip ?_ | refine SW.exit ?_ | intro _ | refine And.intro (by omega) ?_) | simp (config := { maxSteps := 1000000 }) (disch := (first | omega | (simp only [go_sem]; try omega))) only [go_sem, Nat.reduceAdd, Nat.reduceEqDiff, Nat.reduceLeDiff, Nat.reduceMul, Nat.reduceLT, reduceIte, Int.reduceToNat, w64_id, cast_succ])
  (first | refine SW.condD rfl (fun h2 => ?_) (fun h2 => ?_) | refine SW.condN rfl (fun h2 => ?_) (fun h2 => ?_) | refine SW.condNB rfl (fun h2 => ?_) (fun h2 => ?_) | refine SW.condB rfl (fun h2 => ?_) (fun h2 => ?_))
  · have hklt : k < L.length := by omega
    have hLk : permOk n (L.getD k []) := (hgen _ (by rw [List.getD_eq_getElem?_getD, List.getElem?_eq_getElem hklt]; exact List.getElem_mem _)).ok hg
    repeat (first | (with_reducible first | refine SW.seq ?_ | refine SW.block ?_ | refine SW.rowC ?_ | refine SW.skip ?_ | refine SW.exit ?_ | intro _ | refine And.intro (by omega) ?_) | simp (config := { maxSteps := 1000000 }) (disch := (first | omega | (simp only [go_sem]; try omega))) only [go_sem, Nat.reduceAdd, Nat.reduceEqDiff, Nat.reduceLeDiff, Nat.reduceMul, Nat.reduceLT, reduceIte, Int.reduceToNat, w64_id, cast_succ, hav])
    refine SW.loopE (fun E0 H0 q E' H' => ∃ (L2 pre post : List (List Int)) (ver : Nat), gs = pre ++ post ∧ q = post.length ∧ E' = aput (aput E0 30 (I pre.length)) 6 (.nm H.length ver 0 L2.length) ∧ H' = H ++ [⟨ver, tyLL, 1, L2.map ilS⟩, ⟨0, 184, 0, mapC (seenM L2)⟩] ∧ L2.Nodup ∧ (∀ p ∈ L2, Gen n gs p) ∧ (∃ M, L2 = L ++ M) ∧ L2.length ≤ 720 + pre.length ∧ ∀ g ∈ pre, mul (L.getD k []) g ∈ L2) gs.length ⟨L, [], gs, ver, rfl, rfl, rfl, rfl, hnd, hgen, ⟨[], by simp⟩, by omega, by simp⟩ ?_
    rintro q E' H' ⟨L2, pre, post, ver, hgp, rfl, rfl, rfl, hnd2, hgen2, ⟨M, hLM⟩, hl2, hpre⟩
    have hkL2 : L2.getD k [] = L.getD k [] := by
      rw [hLM, List.getD_eq_getElem?_getD, List.getD_eq_getElem?_getD, List.getElem?_append_left hklt]
    have hL2l : L.length ≤ L2.length := by rw [hLM]; simp
    have hprel : pre.length ≤ 1000000 := by rw [hgp] at hgl; simp at hgl; omega
    simp (config := { maxSteps := 1000000 }) (disch := (first | omega | (simp only [go_sem]; try omega))) only [go_sem, Nat.reduceAdd, Nat.reduceEqDiff, Nat.reduceLeDiff, Nat.reduceMul, Nat.reduceLT, reduceIte, Int.reduceToNat, w64_id, cast_succ]
    repeat (first | (with_reducible first | refine SW.seq ?_ | refine SW.block ?_ | refine SW.rowC ?_ | refine SW.skip ?_ | refine SW.exit ?_ | intro _ | refine And.intro (by omega) ?_) | simp (config := { maxSteps := 1000000 }) (disch := (first | omega | (simp only [go_sem]; try omega))) only [go_sem, Nat.reduceAdd, Nat.reduceEqDiff, Nat.reduceLeDiff, Nat.reduceMul, Nat.reduceLT, reduceIte, Int.reduceToNat, w64_id, cast_succ, hav])
    (first | refine SW.condD rfl (fun h3 => ?_) (fun h3 => ?_) | refine SW.condN rfl (fun h3 => ?_) (fun h3 => ?_) | refine SW.condNB rfl (fun h3 => ?_) (fun h3 => ?_) | refine SW.condB rfl (fun h3 => ?_) (fun h3 => ?_))
    · obtain ⟨g, post, rfl, hgg, -⟩ := consOf (d := []) hgp (by omega)
      have hgm : g ∈ gs := by rw [hgp]; simp
      have hcm := compose_fn n (L.getD k []) g (by omega) hLk (hg g hgm)
      have hmo := mul_ok hLk (hg g hgm)
      have hky := keyOf_fn (mul (L.getD k []) g) (by rw [hmo.1]; omega)
      have hgs : Gen n gs (mul (L.getD k []) g) := .step _ g hgm (hgen _ (by rw [List.getD_eq_getElem?_getD, List.getElem?_eq_getElem hklt]; exact List.getElem_mem _))
      generalize hm : mul (L.getD k []) g = p at *
      have hL2ok : ∀ q ∈ L2, permOk n q := fun q hq => (hgen2 q hq).ok hg
      have hmv := seenM_val (n := n) (by omega) hL2ok hmo
      repeat (first | (with_reducible first | refine SW.seq ?_ | refine SW.block ?_ | refine SW.rowC ?_ | refine SW.skip ?_ | refine SW.exit ?_ | refine PFn.use (hcm) ?_ | refine PFn.useq (hcm) ?_ | refine PFn.use (hky) ?_ | refine PFn.useq (hky) ?_ | intro _ | refine And.intro (by omega) ?_) | simp (config := { maxSteps := 1000000 }) (disch := (first | omega | (simp only [go_sem]; try omega))) only [go_sem, Nat.reduceAdd, Nat.reduceEqDiff, Nat.reduceLeDiff, Nat.reduceMul, Nat.reduceLT, reduceIte, Int.reduceToNat, w64_id, cast_succ, hav, hgg, hkL2])
      refine MgetW.of _ _ (ty := 184) (ps := seenM L2) (key := .s (keyS p)) (by simp) rfl rfl (seenM_kind _) ?_
      rw [hmv]
      by_cases hpm : p ∈ L2
      · rw [decide_eq_true hpm]
        repeat (first | (with_reducible first | refine SW.seq ?_ | refine SW.block ?_ | refine SW.rowC ?_ | refine SW.skip ?_ | refine SW.exit ?_ | intro _ | refine And.intro (by omega) ?_) | simp (config := { maxSteps := 1000000 }) (disch := (first | omega | (simp only [go_sem]; try omega))) only [go_sem, Nat.reduceAdd, Nat.reduceEqDiff, Nat.reduceLeDiff, Nat.reduceMul, Nat.reduceLT, reduceIte, Int.reduceToNat, w64_id, cast_succ])
        refine SW.condF rfl ?_
        repeat (first | (with_reducible first | refine SW.seq ?_ | refine SW.block ?_ | refine SW.rowC ?_ | refine SW.skip ?_ | refine SW.exit ?_ | intro _ | refine And.intro (by omega) ?_) | simp (config := { maxSteps := 1000000 }) (disch := (first | omega | (simp only [go_sem]; try omega))) only [go_sem, Nat.reduceAdd, Nat.reduceEqDiff, Nat.reduceLeDiff, Nat.reduceMul, Nat.reduceLT, reduceIte, Int.reduceToNat, w64_id, cast_succ])
        refine SLoop.next post.length (by simp) ⟨L2, pre ++ [g], post, ver, by simp [hgp], rfl, by simp [go_sem], rfl, hnd2, hgen2, ⟨M, hLM⟩, by simp; omega, ?_⟩
        intro g' hg'
        rcases List.mem_append.1 hg' with h | h
        · exact hpre g' h
        · rw [List.mem_singleton.1 h, hm]; exact hpm
      · rw [decide_eq_false hpm]
        repeat (first | (with_reducible first | refine SW.seq ?_ | refine SW.block ?_ | refine SW.rowC ?_ | refine SW.skip ?_ | refine SW.exit ?_ | intro _ | refine And.intro (by omega) ?_) | simp (config := { maxSteps := 1000000 }) (disch := (first | omega | (simp only [go_sem]; try omega))) only [go_sem, Nat.reduceAdd, Nat.reduceEqDiff, Nat.reduceLeDiff, Nat.reduceMul, Nat.reduceLT, reduceIte, Int.reduceToNat, w64_id, cast_succ])
        refine SW.condT rfl ?_
        repeat (first | (with_reducible first | refine SW.seq ?_ | refine SW.block ?_ | refine SW.rowC ?_ | refine SW.skip ?_ | refine SW.exit ?_ | intro _ | refine And.intro (by omega) ?_) | simp (config := { maxSteps := 1000000 }) (disch := (first | omega | (simp only [go_sem]; try omega))) only [go_sem, Nat.reduceAdd, Nat.reduceEqDiff, Nat.reduceLeDiff, Nat.reduceMul, Nat.reduceLT, reduceIte, Int.reduceToNat, w64_id, cast_succ])
        refine MputW.of _ _ (ty := 184) (ps := seenM L2) (key := .s (keyS p)) (by simp) rfl rfl (seenM_kind _) (seenM_new (n := n) (by omega) hL2ok hmo hpm) ?_
        have htl : (L2.map ilS).take L2.length = L2.map ilS := List.take_of_length_le (by simp)
        repeat (first | (with_reducible first | refine SW.seq ?_ | refine SW.block ?_ | refine SW.rowC ?_ | refine SW.skip ?_ | refine SW.exit ?_ | intro _ | refine And.intro (by omega) ?_) | simp (config := { maxSteps := 1000000 }) (disch := (first | omega | (simp only [go_sem]; try omega))) only [go_sem, Nat.reduceAdd, Nat.reduceEqDiff, Nat.reduceLeDiff, Nat.reduceMul, Nat.reduceLT, reduceIte, Int.reduceToNat, w64_id, cast_succ, htl])
        refine SLoop.nextT 2 post.length hB (by omega) (by simp) (by simp) ?_ ?_ ⟨L2 ++ [p], pre ++ [g], post, ver + 1, by simp [hgp], rfl, ?_, ?_, ?_, ?_, ⟨M ++ [p], by rw [hLM]; simp⟩, by simp; omega, ?_⟩
        · have hab2 := hab.mono (show H.length ≤ H.length + 2 by omega)
          (simp only [go_sem, Nat.reduceAdd, Nat.reduceEqDiff, reduceIte, go_sem, and_self, and_true, true_and, implies_true, List.take_succ_cons, List.take_zero, and_true, true_and, hab2]; try omega)
        · simp only [List.take_succ_cons, List.take_zero, BB_cons, BB_nil, and_true]
          refine ⟨fun c hc => ?_, fun c hc => ?_⟩
          · obtain ⟨x, _, rfl⟩ := List.mem_map.1 hc
            rw [Bel_ilS]; trivial
          · exact mapC_bel hc
        · simp [go_sem]
        · simp [seenM_snoc]
        · rw [List.nodup_append]
          refine ⟨hnd2, by simp, fun a h1 b h2 => ?_⟩
          rw [List.mem_singleton.1 h2]
          rintro rfl
          exact hpm h1
        · intro q hq
          rcases List.mem_append.1 hq with h | h
          · exact hgen2 q h
          · rw [List.mem_singleton.1 h]; exact hgs
        · intro g' hg'
          rcases List.mem_append.1 hg' with h | h
          · exact List.mem_append_left _ (hpre g' h)
          · rw [List.mem_singleton.1 h, hm]; simp
    · obtain ⟨rfl, rfl⟩ := nilOf hgp (by omega)
      repeat (first | (with_reducible first | refine SW.seq ?_ | refine SW.block ?_ | refine SW.rowC ?_ | refine SW.skip ?_ | refine SW.exit ?_ | intro _ | refine And.intro (by omega) ?_) | simp (config := { maxSteps := 1000000 }) (disch := (first | omega | (simp only [go_sem]; try omega))) only [go_sem, Nat.reduceAdd, Nat.reduceEqDiff, Nat.reduceLeDiff, Nat.reduceMul, Nat.reduceLT, reduceIte, Int.reduceToNat, w64_id, cast_succ])
      (first | refine SW.condD rfl (fun h4 => ?_) (fun h4 => ?_) | refine SW.condN rfl (fun h4 => ?_) (fun h4 => ?_) | refine SW.condNB rfl (fun h4 => ?_) (fun h4 => ?_) | refine SW.condB rfl (fun h4 => ?_) (fun h4 => ?_))
      · repeat (first | (with_reducible first | refine SW.seq ?_ | refine SW.block ?_ | refine SW.rowC ?_ | refine SW.skip ?_ | refine SW.exit ?_ | intro _ | refine And.intro (by omega) ?_) | simp (config := { maxSteps := 1000000 }) (disch := (first | omega | (simp only [go_sem]; try omega))) only [go_sem, Nat.reduceAdd, Nat.reduceEqDiff, Nat.reduceLeDiff, Nat.reduceMul, Nat.reduceLT, reduceIte, Int.reduceToNat, w64_id, cast_succ])
        refine SW.ret ?_; (try simp only [go_sem]); (first | refine FunPost.one ?_ | refine FunPost.two ?_ | refine FunPost.three ?_); (try simp (config := { maxSteps := 1000000 }) (disch := (first | omega | (simp only [go_sem]; try omega))) only [go_sem, Nat.reduceAdd, Nat.reduceEqDiff, Nat.reduceLeDiff, Nat.reduceMul, Nat.reduceLT, reduceIte, Int.reduceToNat, w64_id, cast_succ])
        rw [genL_none hnd2 hgen2 (by omega)]
        exact GR.froz (r' := .tup [ilSS [], Bv false]) (froz_tup2 .nil (.old _ (.lit _))) ⟨rfl, rfl⟩
      · repeat (first | (with_reducible first | refine SW.seq ?_ | refine SW.block ?_ | refine SW.rowC ?_ | refine SW.skip ?_ | refine SW.exit ?_ | intro _ | refine And.intro (by omega) ?_) | simp (config := { maxSteps := 1000000 }) (disch := (first | omega | (simp only [go_sem]; try omega))) only [go_sem, Nat.reduceAdd, Nat.reduceEqDiff, Nat.reduceLeDiff, Nat.reduceMul, Nat.reduceLT, reduceIte, Int.reduceToNat, w64_id, cast_succ])
        refine SLoop.next (721 - (k + 1)) (by omega) ⟨L2, k + 1, ver, by omega, by omega, rfl, by simp [go_sem], rfl, hnd2, hgen2, by rw [hLM]; exact List.mem_append_left _ hone, ?_⟩
        intro j hj g hgm
        rcases Nat.lt_or_eq_of_le (Nat.le_of_lt_succ hj) with h5 | rfl
        · have e : L2.getD j [] = L.getD j [] := by
            rw [hLM, List.getD_eq_getElem?_getD, List.getD_eq_getElem?_getD, List.getElem?_append_left (by omega)]
          rw [e, hLM]
          exact List.mem_append_left _ (hcl j h5 g hgm)
        · rw [hkL2]; exact hpre g hgm
  · have hkL : k = L.length := by omega
    subst hkL
    have hG : GenList n gs (sortU cmpL L) := by
      refine ⟨sortU_asc cmpL_tot _, fun p => ?_⟩
      rw [sortU_mem cmpL_tot]
      refine ⟨hgen p, fun h => ?_⟩
      induction h with
      | one => exact hone
      | step p g hgm _ ih =>
        obtain ⟨j, hj, he⟩ := List.getElem_of_mem ih
        have := hcl j hj g hgm
        rw [List.getD_eq_getElem?_getD, List.getElem?_eq_getElem hj] at this
        simp only [Option.getD_some, he] at this
        exact this
    have hGl : (sortU cmpL L).length ≤ 720 := Nat.le_trans (sortU_len (cf := cmpL) L) hLl
    rw [genL_some hG hGl]
    repeat (first | (with_reducible first | refine SW.seq ?_ | refine SW.block ?_ | refine SW.rowC ?_ | refine SW.skip ?_ | refine SW.exit ?_ | intro _ | refine And.intro (by omega) ?_) | simp (config := { maxSteps := 1000000 }) (disch := (first | omega | (simp only [go_sem]; try omega))) only [go_sem, Nat.reduceAdd, Nat.reduceEqDiff, Nat.reduceLeDiff, Nat.reduceMul, Nat.reduceLT, reduceIte, Int.reduceToNat, w64_id, cast_succ])
    refine (sortFz_ok _ H.length ver tyLL L (by simp) (by omega)).mono ?_
    rintro r H1 ⟨rfl, ys, hpm, hsd, rfl⟩
    have hys : ys = sortU cmpL L := sorted_is cmpL_tot hpm hsd hnd
    have hlen : L.length = ys.length := hpm.length_eq.symm
    rw [hlen]
    repeat (first | (with_reducible first | refine SW.seq ?_ | refine SW.block ?_ | refine SW.rowC ?_ | refine SW.skip ?_ | refine SW.exit ?_ | intro _ | refine And.intro (by omega) ?_) | simp (config := { maxSteps := 1000000 }) (disch := (first | omega | (simp only [go_sem]; try omega))) only [go_sem, Nat.reduceAdd, Nat.reduceEqDiff, Nat.reduceLeDiff, Nat.reduceMul, Nat.reduceLT, reduceIte, Int.reduceToNat, w64_id, cast_succ])
    refine SW.ret ?_; (try simp only [go_sem]); (first | refine FunPost.one ?_ | refine FunPost.two ?_ | refine FunPost.three ?_); (try simp (config := { maxSteps := 1000000 }) (disch := (first | omega | (simp only [go_sem]; try omega))) only [go_sem, Nat.reduceAdd, Nat.reduceEqDiff, Nat.reduceLeDiff, Nat.reduceMul, Nat.reduceLT, reduceIte, Int.reduceToNat, w64_id, cast_succ])
    rw [← hys]
    refine GR.froz (r' := .tup [ilSS ys, Bv true]) (froz_tup2 ?_ (.old _ (.lit _))) ⟨rfl, rfl⟩
    exact froz_rowsS (ver := ver) (ty := tyLL) (by omega) (by simp)
end Go.Proofs.YthogadbnddmkdaaGreat
