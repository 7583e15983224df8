/- Rows that are sorted, each kept once by the library. Images of a set, each once, in order: the program. Orbits of sets: lengths, least images. -/
import Derived.Test.YtkifdjjnbplghaaGreatProg
import Derived.KernelRfl
import Derived.Test.YtkifdjjnbplghaaGreatzVB
import Derived.Test.YtkifdjjnbplghaaGreatzK62
import Derived.Test.YtkifdjjnbplghaaGreatzL8
import Derived.Test.YtkifdjjnbplghaaGreatzG1
import Derived.Test.YtkifdjjnbplghaaGreatzK20
set_option linter.unusedSimpArgs false
set_option linter.unusedVariables false
set_option maxHeartbeats 4000000
set_option maxRecDepth 100000
namespace Go.Proofs.YtkifdjjnbplghaaGreat
open Go.Av
abbrev f_spec_l25Images : Nat := 85
def c_spec_l25Images : SC :=
 .seq (.reg [
     ⟨(some 4), .mv (.const (.slice none 0 0)), none⟩] [0, 1])
 (.seq (.reg [
     ⟨(some 7), .bslice 51 1 0 [] [], none⟩,
     ⟨(some 5), .mv (.tmp 7), none⟩] [0, 1, 5])
 (.seq (.seq (.reg [
     ⟨(some 6), .mv (.const (.int .i64 0)), none⟩] [0, 1, 5, 6])
 (.block 0 (.loop [0, 1, 5, 6]
   (.seq (.seq (.reg [
       ⟨(some 8), .mv (.tmp 6), none⟩,
       ⟨(some 9), .mv (.tmp 0), none⟩,
       ⟨(some 10), .nilc (.tmp 9), none⟩,
       ⟨(some 11), .faddr 1 (.tmp 10), none⟩,
       ⟨(some 12), .load 1 false (.tmp 11), none⟩,
       ⟨(some 13), .len (.tmp 12), none⟩,
       ⟨(some 14), .bin .lss (.tmp 8) (.tmp 13), none⟩] [0, 1, 5, 6, 14])
   (.cond (.tmp 14)
    (.skip)
    (.exit 0)))
   (.seq (.block 1 (.reg [
        ⟨(some 17), .mv (.tmp 5), none⟩,
        ⟨(some 18), .mv (.tmp 0), none⟩,
        ⟨(some 19), .nilc (.tmp 18), none⟩,
        ⟨(some 20), .faddr 1 (.tmp 19), none⟩,
        ⟨(some 21), .load 1 false (.tmp 20), none⟩,
        ⟨(some 22), .mv (.tmp 6), none⟩,
        ⟨(some 23), .iaddr 1 (.tmp 21) (.tmp 22), none⟩,
        ⟨(some 24), .load 1 false (.tmp 23), none⟩,
        ⟨(some 25), .mv (.tmp 1), none⟩,
        ⟨(some 26), .call 75 [(.tmp 24), (.tmp 25)], none⟩,
        ⟨(some 27), .call 101 [(.tmp 17), (.tmp 26)], none⟩,
        ⟨(some 5), .mv (.tmp 27), none⟩] [0, 1, 5, 6]))
   (.reg [
       ⟨(some 15), .mv (.tmp 6), none⟩,
       ⟨(some 16), .bin .add (.tmp 15) (.const (.int .i64 1)), none⟩,
       ⟨(some 6), .mv (.tmp 16), none⟩] [0, 1, 5, 6]))))))
 (.seq (.reg [
     ⟨(some 28), .mv (.tmp 5), none⟩,
     ⟨(some 4), .mv (.tmp 28), none⟩] [4])
 (.ret))))
theorem s_spec_l25Images : stripF Tryz.prog 85 [[0, 1], [0, 1, 5], [0, 1, 5, 6], [0, 1, 5, 6], [0, 1, 5, 6, 14], [0, 1, 5, 6], [0, 1, 5, 6], [4]] = some (c_spec_l25Images, [.tmp 4], 29) := by kernel_rfl
abbrev f_impl_imagesOf : Nat := 90
def c_impl_imagesOf : SC :=
 .seq (.reg [
     ⟨(some 2), .box 33 (.tmp 0), none⟩,
     ⟨(some 4), .mv (.const (.slice none 0 0)), none⟩] [1, 2])
 (.seq (.reg [
     ⟨(some 5), .mv (.const (.slice none 0 0)), none⟩] [1, 2, 5])
 (.seq (.seq (.reg [
     ⟨(some 8), .faddr 1 (.tmp 2), none⟩,
     ⟨(some 9), .load 1 false (.tmp 8), none⟩,
     ⟨(some 10), .len (.tmp 9), none⟩,
     ⟨(some 11), .mv (.const (.int .i64 0)), none⟩] [1, 5, 9, 10, 11])
 (.block 0 (.loop [1, 5, 9, 10, 11]
   (.seq (.reg [
       ⟨(some 12), .bin .lss (.tmp 11) (.tmp 10), none⟩] [1, 5, 9, 10, 11, 12])
   (.seq (.cond (.tmp 12)
    (.skip)
    (.exit 0))
   (.seq (.block 1 (.seq (.reg [
        ⟨(some 13), .iaddr 1 (.tmp 9) (.tmp 11), none⟩,
        ⟨(some 14), .load 1 false (.tmp 13), none⟩,
        ⟨(some 7), .mv (.tmp 14), none⟩] [1, 5, 7, 9, 10, 11])
    (.reg [
        ⟨(some 15), .mv (.tmp 5), none⟩,
        ⟨(some 16), .mv (.tmp 7), none⟩,
        ⟨(some 17), .mv (.tmp 1), none⟩,
        ⟨(some 18), .call 84 [(.tmp 16), (.tmp 17)], none⟩,
        ⟨(some 19), .bslice 51 1 1 [(.slice none 0 0)] [(0, (.tmp 18))], none⟩,
        ⟨(some 20), .app 51 1 24 (.tmp 15) (.tmp 19), none⟩,
        ⟨(some 5), .mv (.tmp 20), none⟩] [1, 5, 9, 10, 11])))
   (.reg [
       ⟨(some 21), .bin .add (.tmp 11) (.const (.int .i64 1)), none⟩,
       ⟨(some 11), .mv (.tmp 21), none⟩] [1, 5, 9, 10, 11])))))))
 (.seq (.reg [
     ⟨(some 22), .mv (.tmp 5), none⟩,
     ⟨(some 23), .call 98 [(.tmp 22), (.func 79)], none⟩] [5])
 (.seq (.reg [
     ⟨(some 24), .mv (.tmp 5), none⟩,
     ⟨(some 25), .call 126 [(.tmp 24), (.func 122)], none⟩,
     ⟨(some 4), .mv (.tmp 25), none⟩] [4])
 (.ret)))))
theorem s_impl_imagesOf : stripF Tryz.prog 90 [[1, 2], [1, 2, 5], [1, 5, 9, 10, 11], [1, 5, 9, 10, 11], [1, 5, 9, 10, 11, 12], [1, 5, 7, 9, 10, 11], [1, 5, 9, 10, 11], [1, 5, 9, 10, 11], [5], [4]] = some (c_impl_imagesOf, [.tmp 4], 26) := by kernel_rfl
abbrev f_slices_CompactFunc_LLint64_Lint64 : Nat := 126
def c_slices_CompactFunc_LLint64_Lint64 : SC :=
 .seq (.reg [
     ⟨(some 4), .mv (.const (.slice none 0 0)), none⟩] [0, 1])
 (.seq (.seq (.reg [
     ⟨(some 8), .mv (.tmp 0), none⟩,
     ⟨(some 9), .len (.tmp 8), none⟩,
     ⟨(some 10), .bin .lss (.tmp 9) (.const (.int .i64 2)), none⟩] [0, 1, 10])
 (.cond (.tmp 10)
  (.seq (.reg [
      ⟨(some 11), .mv (.tmp 0), none⟩,
      ⟨(some 4), .mv (.tmp 11), none⟩] [4])
  (.ret))
  (.skip)))
 (.seq (.seq (.reg [
     ⟨(some 5), .mv (.const (.int .i64 1)), none⟩] [0, 1, 5])
 (.block 0 (.loop [0, 1, 5]
   (.seq (.seq (.reg [
       ⟨(some 12), .mv (.tmp 5), none⟩,
       ⟨(some 13), .mv (.tmp 0), none⟩,
       ⟨(some 14), .len (.tmp 13), none⟩,
       ⟨(some 15), .bin .lss (.tmp 12) (.tmp 14), none⟩] [0, 1, 5, 15])
   (.cond (.tmp 15)
    (.skip)
    (.exit 0)))
   (.seq (.block 1 (.seq (.reg [
        ⟨(some 18), .mv (.tmp 1), none⟩,
        ⟨(some 19), .mv (.tmp 0), none⟩,
        ⟨(some 20), .mv (.tmp 5), none⟩,
        ⟨(some 21), .iaddr 1 (.tmp 19) (.tmp 20), none⟩,
        ⟨(some 22), .load 1 false (.tmp 21), none⟩,
        ⟨(some 23), .mv (.tmp 0), none⟩,
        ⟨(some 24), .mv (.tmp 5), none⟩,
        ⟨(some 25), .bin .sub (.tmp 24) (.const (.int .i64 1)), none⟩,
        ⟨(some 26), .iaddr 1 (.tmp 23) (.tmp 25), none⟩,
        ⟨(some 27), .load 1 false (.tmp 26), none⟩,
        ⟨(some 28), .qcallv (.tmp 18) [(.tmp 22), (.tmp 27)], none⟩] [0, 1, 5, 28])
    (.cond (.tmp 28)
     (.seq (.reg [
         ⟨(some 29), .mv (.tmp 0), none⟩,
         ⟨(some 30), .mv (.tmp 5), none⟩,
         ⟨(some 31), .slc 1 (.tmp 29) (some (.tmp 30)) none, none⟩,
         ⟨(some 6), .mv (.tmp 31), none⟩] [0, 1, 5, 6])
     (.seq (.seq (.reg [
         ⟨(some 7), .mv (.const (.int .i64 1)), none⟩] [0, 1, 5, 6, 7])
     (.block 2 (.loop [0, 1, 5, 6, 7]
       (.seq (.seq (.reg [
           ⟨(some 32), .mv (.tmp 7), none⟩,
           ⟨(some 33), .mv (.tmp 6), none⟩,
           ⟨(some 34), .len (.tmp 33), none⟩,
           ⟨(some 35), .bin .lss (.tmp 32) (.tmp 34), none⟩] [0, 1, 5, 6, 7, 35])
       (.cond (.tmp 35)
        (.skip)
        (.exit 2)))
       (.seq (.block 3 (.seq (.reg [
            ⟨(some 38), .mv (.tmp 1), none⟩,
            ⟨(some 39), .mv (.tmp 6), none⟩,
            ⟨(some 40), .mv (.tmp 7), none⟩,
            ⟨(some 41), .iaddr 1 (.tmp 39) (.tmp 40), none⟩,
            ⟨(some 42), .load 1 false (.tmp 41), none⟩,
            ⟨(some 43), .mv (.tmp 6), none⟩,
            ⟨(some 44), .mv (.tmp 7), none⟩,
            ⟨(some 45), .bin .sub (.tmp 44) (.const (.int .i64 1)), none⟩,
            ⟨(some 46), .iaddr 1 (.tmp 43) (.tmp 45), none⟩,
            ⟨(some 47), .load 1 false (.tmp 46), none⟩,
            ⟨(some 48), .qcallv (.tmp 38) [(.tmp 42), (.tmp 47)], none⟩,
            ⟨(some 49), .un .not (.tmp 48), none⟩] [0, 1, 5, 6, 7, 49])
        (.cond (.tmp 49)
         (.seq (.reg [
             ⟨(some 50), .mv (.tmp 0), none⟩,
             ⟨(some 51), .mv (.tmp 5), none⟩,
             ⟨(some 52), .mv (.tmp 6), none⟩,
             ⟨(some 53), .mv (.tmp 7), none⟩,
             ⟨(some 54), .iaddr 1 (.tmp 52) (.tmp 53), none⟩,
             ⟨(some 55), .load 1 false (.tmp 54), none⟩,
             ⟨(some 56), .iaddr 1 (.tmp 50) (.tmp 51), none⟩,
             ⟨none, .store 1 (.tmp 56) (.tmp 55), none⟩] [0, 1, 5, 6, 7])
         (.reg [
             ⟨(some 57), .mv (.tmp 5), none⟩,
             ⟨(some 58), .bin .add (.tmp 57) (.const (.int .i64 1)), none⟩,
             ⟨(some 5), .mv (.tmp 58), none⟩] [0, 1, 5, 6, 7]))
         (.skip))))
       (.reg [
           ⟨(some 36), .mv (.tmp 7), none⟩,
           ⟨(some 37), .bin .add (.tmp 36) (.const (.int .i64 1)), none⟩,
           ⟨(some 7), .mv (.tmp 37), none⟩] [0, 1, 5, 6, 7]))))))
     (.seq (.reg [
         ⟨(some 59), .mv (.tmp 0), none⟩,
         ⟨(some 60), .mv (.tmp 5), none⟩,
         ⟨(some 61), .slc 1 (.tmp 59) (some (.tmp 60)) none, none⟩,
         ⟨none, .clr (.slice none 0 0) (.tmp 61), none⟩] [0, 5])
     (.seq (.reg [
         ⟨(some 62), .mv (.tmp 0), none⟩,
         ⟨(some 63), .mv (.tmp 5), none⟩,
         ⟨(some 64), .slc 1 (.tmp 62) none (some (.tmp 63)), none⟩,
         ⟨(some 4), .mv (.tmp 64), none⟩] [4])
     (.ret)))))
     (.skip))))
   (.reg [
       ⟨(some 16), .mv (.tmp 5), none⟩,
       ⟨(some 17), .bin .add (.tmp 16) (.const (.int .i64 1)), none⟩,
       ⟨(some 5), .mv (.tmp 17), none⟩] [0, 1, 5]))))))
 (.seq (.reg [
     ⟨(some 65), .mv (.tmp 0), none⟩,
     ⟨(some 4), .mv (.tmp 65), none⟩] [4])
 (.ret))))
theorem s_slices_CompactFunc_LLint64_Lint64 : stripF Tryz.prog 126 [[0, 1], [0, 1, 10], [4], [0, 1, 5], [0, 1, 5], [0, 1, 5, 15], [0, 1, 5, 28], [0, 1, 5, 6], [0, 1, 5, 6, 7], [0, 1, 5, 6, 7], [0, 1, 5, 6, 7, 35], [0, 1, 5, 6, 7, 49], [0, 1, 5, 6, 7], [0, 1, 5, 6, 7], [0, 1, 5, 6, 7], [0, 5], [4], [0, 1, 5], [4]] = some (c_slices_CompactFunc_LLint64_Lint64, [.tmp 4], 66) := by kernel_rfl
def ddT (xs : List (List Int)) (m : Nat) : List (List Int) := ((List.range m).filter fun j => decide (j = 0) || !decide (xs.getD j [] = xs.getD (j - 1) [])).map fun j => xs.getD j []
theorem ddT_succ (xs : List (List Int)) (m : Nat) : ddT xs (m + 1) = ddT xs m ++ (if m = 0 ∨ xs.getD m [] ≠ xs.getD (m - 1) [] then [xs.getD m []] else []) := by
  unfold ddT
  rw [List.range_succ, List.filter_append, List.map_append]
  congr 1
  by_cases h : m = 0 ∨ xs.getD m [] ≠ xs.getD (m - 1) []
  · rw [if_pos h, List.filter_cons_of_pos (by
      rcases h with h | h
      · rw [decide_eq_true h]; rfl
      · rw [decide_eq_false h, Bool.not_false, Bool.or_true])]; rfl
  · rw [if_neg h, List.filter_cons_of_neg (by
      simp only [not_or, ne_eq, Decidable.not_not] at h
      rw [decide_eq_false h.1, decide_eq_true h.2]; simp)]; rfl
theorem ddT_mem {xs : List (List Int)} {m : Nat} {y : List Int} : y ∈ ddT xs m ↔ ∃ j, j < m ∧ xs.getD j [] = y := by
  induction m with
  | zero => simp [ddT]
  | succ m ih =>
    rw [ddT_succ, List.mem_append, ih]
    constructor
    · rintro (⟨j, h1, h2⟩ | h)
      · exact ⟨j, by omega, h2⟩
      · split at h
        · exact ⟨m, by omega, (List.mem_singleton.1 h).symm⟩
        · simp at h
    · rintro ⟨j, h1, h2⟩
      rcases Nat.lt_or_eq_of_le (Nat.le_of_lt_succ h1) with h | rfl
      · exact .inl ⟨j, h, h2⟩
      · by_cases hc : j = 0 ∨ xs.getD j [] ≠ xs.getD (j - 1) []
        · rw [if_pos hc]; exact .inr (by rw [h2]; simp)
        · simp only [not_or, ne_eq, Decidable.not_not] at hc
          exact .inl ⟨j - 1, by omega, by rw [← hc.2, h2]⟩
theorem ddT_is {xs : List (List Int)} (hs : xs.Pairwise fun a b => ¬ cmpL b a < 0) : ddT xs xs.length = sortU cmpL xs := by
  have hle : ∀ i j, i ≤ j → j < xs.length → cmpL (xs.getD i []) (xs.getD j []) ≤ 0 := by
    intro i j hij hj
    have e : ∀ k, k < xs.length → xs.getD k [] = xs.getD k [] := fun _ _ => rfl
    rcases Nat.lt_or_eq_of_le hij with h | rfl
    · have := List.pairwise_iff_getElem.1 hs i j (by omega) hj h
      rw [List.getD_eq_getElem?_getD, List.getD_eq_getElem?_getD, List.getElem?_eq_getElem hj, List.getElem?_eq_getElem (show i < xs.length by omega)]
      simp only [Option.getD_some]
      have h2 := cmpL_tot.neg xs[i] xs[j]
      omega
    · rw [(cmpL_eq0 _ _).2 rfl]; omega
  refine asc_uniq cmpL_tot ?_ (sortU_asc cmpL_tot _) (fun y => ?_)
  · unfold Asc ddT
    rw [List.pairwise_map]
    refine (List.pairwise_lt_range.filter _).imp_of_mem ?_
    intro i j hi hj hij
    have hj1 := (List.mem_filter.1 hj)
    have hjl := List.mem_range.1 hj1.1
    have hj0 := hj1.2
    simp only [Bool.or_eq_true, decide_eq_true_eq, Bool.not_eq_true', decide_eq_false_iff_not] at hj0
    have h1 := hle i (j - 1) (by omega) (by omega)
    have h2 := hle (j - 1) j (by omega) hjl
    have h3 : cmpL (xs.getD (j - 1) []) (xs.getD j []) ≠ 0 := fun h => by
      rcases hj0 with h4 | h4
      · omega
      · exact h4 ((cmpL_eq0 _ _).1 h).symm
    by_cases h4 : cmpL (xs.getD i []) (xs.getD (j - 1) []) = 0
    · rw [(cmpL_eq0 _ _).1 h4]; omega
    · exact cmpL_trans _ (xs.getD (j - 1) []) _ (by omega) (by omega)
  · rw [sortU_mem cmpL_tot, ddT_mem]
    constructor
    · rintro ⟨j, hj, rfl⟩
      rw [List.getD_eq_getElem?_getD, List.getElem?_eq_getElem hj]; exact List.getElem_mem _
    · intro hy
      obtain ⟨j, hj, rfl⟩ := List.getElem_of_mem hy
      exact ⟨j, hj, by rw [List.getD_eq_getElem?_getD, List.getElem?_eq_getElem hj]; rfl⟩
theorem equal_call : callable Tryz.prog f_slices_Equal_Lint64_int64 = true := by kernel_rfl
theorem setMany_rep (c : AV) : ∀ (n : Nat) (cells : List AV) (off : Nat), off + n ≤ cells.length → (setMany cells off (List.replicate n c)).take off = cells.take off
  | 0, cells, off, _ => rfl
  | n + 1, cells, off, h => by
    rw [List.replicate_succ, setMany_cons]
    have h1 := setMany_rep c n (cells.set off c) (off + 1) (by simp; omega)
    have h2 := congrArg (fun l : List AV => l.take off) h1
    simp only [List.take_take, Nat.min_eq_left (Nat.le_succ off)] at h2
    rw [h2]
    rw [List.take_set_of_le (by omega)]
def keepI (xs : List (List Int)) (m : Nat) : List Nat := (List.range m).filter fun j => decide (j = 0) || !decide (xs.getD j [] = xs.getD (j - 1) [])
theorem keepI_map (xs : List (List Int)) (m : Nat) : (keepI xs m).map (fun j => xs.getD j []) = ddT xs m := rfl
theorem keepI_succ (xs : List (List Int)) (m : Nat) : keepI xs (m + 1) = keepI xs m ++ (if m = 0 ∨ xs.getD m [] ≠ xs.getD (m - 1) [] then [m] else []) := by
  unfold keepI
  rw [List.range_succ, List.filter_append]
  congr 1
  by_cases h : m = 0 ∨ xs.getD m [] ≠ xs.getD (m - 1) []
  · rw [if_pos h, List.filter_cons_of_pos (by
      rcases h with h | h
      · rw [decide_eq_true h]; rfl
      · rw [decide_eq_false h, Bool.not_false, Bool.or_true])]; rfl
  · rw [if_neg h, List.filter_cons_of_neg (by
      simp only [not_or, ne_eq, Decidable.not_not] at h
      rw [decide_eq_false h.1, decide_eq_true h.2]; simp)]; rfl
theorem range_getD (cs : List AV) (d : AV) : ∀ k, k ≤ cs.length → (List.range k).map (fun j => cs.getD j d) = cs.take k
  | 0, _ => by simp
  | k + 1, h => by
    rw [List.range_succ, List.map_append, range_getD cs d k (by omega), List.take_add_one, List.getElem?_eq_getElem (by omega), List.map_cons, List.map_nil, List.getD_eq_getElem?_getD, List.getElem?_eq_getElem (by omega)]; rfl
theorem slcNm {H : List Blk} {K : AV → Prop} {i ver n : Nat} {cells : List AV} {z y : Int} (hz : 0 < z) (hzy : z < y) (hy : y ≤ n) (hs : (H[i]?).map Blk.sz = some 1) : SlcG 1 (.nm i ver 0 n) z y H K (some (n, cells)) = K (.nm i ver z.toNat (y.toNat - z.toNat)) := by
  simp only [SlcG]
  rw [if_neg (by omega), if_neg (by omega)]
  refine propext ⟨fun h => by simpa using h.2.2.2.2, fun h => ⟨by omega, by omega, hy, ?_, by simpa using h⟩⟩
  intro i' ver' off' len' he
  cases he; exact hs
theorem slcNm0 {H : List Blk} {K : AV → Prop} {i ver n : Nat} {cells : List AV} {y : Int} (h0 : 0 ≤ y) (hy : y ≤ n) (hs : (H[i]?).map Blk.sz = some 1) : SlcG 1 (.nm i ver 0 n) 0 y H K (some (n, cells)) = K (.nm i ver 0 y.toNat) := by
  simp only [SlcG, if_true]
  refine propext ⟨fun h => h.2.2.2.2, fun h => ⟨by omega, by omega, hy, ?_, h⟩⟩
  intro i' ver' off' len' he
  cases he; exact hs
theorem compact_ok (H : List Blk) (i ver ty : Nat) (xs : List (List Int)) (cs : List AV) (hi : H[i]? = some ⟨ver, ty, 1, cs⟩) (hcl : cs.length = xs.length) (h1 : ∀ c ∈ cs, c.cell1 = true ∧ partsOf c = [c])
    (hrd : ∀ cells' j, j < xs.length → RdS (H.set i ⟨ver, ty, 1, cells'⟩) (cs.getD j nilS) (xs.getD j [])) (hl : xs.length ≤ 2000000) :
    ACalls Tryz.prog f_slices_CompactFunc_LLint64_Lint64 [.nm i ver 0 xs.length, .fn f_slices_Equal_Lint64_int64 []] H (fun r H' => ∃ cells, r = .nm i ver 0 (keepI xs xs.length).length ∧ H' = H.set i ⟨ver, ty, 1, cells⟩ ∧ cells.take (keepI xs xs.length).length = (keepI xs xs.length).map (fun j => cs.getD j nilS) ∧ (keepI xs xs.length).length ≤ cells.length) := by
  have hilt := (List.getElem?_eq_some_iff.1 hi).1
  have hself : H.set i ⟨ver, ty, 1, cs⟩ = H := by
    obtain ⟨g1, g2⟩ := List.getElem?_eq_some_iff.1 hi
    rw [← g2]; exact List.set_getElem_self g1
  have hv : aview H (.nm i ver 0 xs.length) = some (xs.length, cs) := by rw [← hcl]; exact view_nm hi rfl
  have hgc : ∀ j, j < xs.length → cs[j]? = some (cs.getD j nilS) := fun j hj => by
    rw [List.getD_eq_getElem?_getD, List.getElem?_eq_getElem (by omega)]; rfl
  have hrd0 : ∀ j, j < xs.length → RdS H (cs.getD j nilS) (xs.getD j []) := fun j hj => by have := hrd cs j hj; rwa [hself] at this
  have fin : ∀ k, k = xs.length → keepI xs k = List.range k → GR H (fun r H' => ∃ cells, r = .nm i ver 0 (keepI xs xs.length).length ∧ H' = H.set i ⟨ver, ty, 1, cells⟩ ∧ cells.take (keepI xs xs.length).length = (keepI xs xs.length).map (fun j => cs.getD j nilS) ∧ (keepI xs xs.length).length ≤ cells.length) (.nm i ver 0 xs.length) H := by
    rintro k rfl hk
    rw [hk]
    refine GR.of ⟨cs, by simp, hself.symm, ?_, by simp; omega⟩
    rw [range_getD cs nilS _ (by omega), List.length_range]
  refine ACalls.introB s_slices_CompactFunc_LLint64_Lint64 (by simp) ?_; intro hB hA; unfold c_slices_CompactFunc_LLint64_Lint64; simp (config := { maxSteps := 1000000 }) (disch := (first | omega | (simp only [go_sem]; try omega))) only [go_sem, Nat.reduceAdd, Nat.reduceEqDiff, Nat.reduceLeDiff, Nat.reduceMul, Nat.reduceLT, reduceIte, Int.reduceToNat, w64_id, cast_succ]
  by_cases h2 : xs.length < 2
  · have d2 : decide ((xs.length : Int) < 2) = true := decide_eq_true (by omega)
    have hdd : keepI xs xs.length = List.range xs.length := by
      match xs, h2 with
      | [], _ => rfl
      | [x], _ => rfl
    repeat (first | (with_reducible first | refine SW.seq ?_ | refine SW.block ?_ | refine SW.rowC ?_ | refine SW.skip ?_ | refine SW.exit ?_ | intro _ | refine And.intro (by omega) ?_) | simp (config := { maxSteps := 1000000 }) (disch := (first | omega | (simp only [go_sem]; try omega))) only [go_sem, Nat.reduceAdd, Nat.reduceEqDiff, Nat.reduceLeDiff, Nat.reduceMul, Nat.reduceLT, reduceIte, Int.reduceToNat, w64_id, cast_succ, hv, d2])
    refine SW.condT rfl ?_
    repeat (first | (with_reducible first | refine SW.seq ?_ | refine SW.block ?_ | refine SW.rowC ?_ | refine SW.skip ?_ | refine SW.exit ?_ | intro _ | refine And.intro (by omega) ?_) | simp (config := { maxSteps := 1000000 }) (disch := (first | omega | (simp only [go_sem]; try omega))) only [go_sem, Nat.reduceAdd, Nat.reduceEqDiff, Nat.reduceLeDiff, Nat.reduceMul, Nat.reduceLT, reduceIte, Int.reduceToNat, w64_id, cast_succ])
    refine SW.ret ?_; (try simp only [go_sem]); (first | refine FunPost.one ?_ | refine FunPost.two ?_ | refine FunPost.three ?_); (try simp (config := { maxSteps := 1000000 }) (disch := (first | omega | (simp only [go_sem]; try omega))) only [go_sem, Nat.reduceAdd, Nat.reduceEqDiff, Nat.reduceLeDiff, Nat.reduceMul, Nat.reduceLT, reduceIte, Int.reduceToNat, w64_id, cast_succ])
    exact fin _ rfl hdd
  have d2 : decide ((xs.length : Int) < 2) = false := decide_eq_false (by omega)
  repeat (first | (with_reducible first | refine SW.seq ?_ | refine SW.block ?_ | refine SW.rowC ?_ | refine SW.skip ?_ | refine SW.exit ?_ | intro _ | refine And.intro (by omega) ?_) | simp (config := { maxSteps := 1000000 }) (disch := (first | omega | (simp only [go_sem]; try omega))) only [go_sem, Nat.reduceAdd, Nat.reduceEqDiff, Nat.reduceLeDiff, Nat.reduceMul, Nat.reduceLT, reduceIte, Int.reduceToNat, w64_id, cast_succ, hv, d2])
  refine SW.condF rfl ?_
  repeat (first | (with_reducible first | refine SW.seq ?_ | refine SW.block ?_ | refine SW.rowC ?_ | refine SW.skip ?_ | refine SW.exit ?_ | intro _ | refine And.intro (by omega) ?_) | simp (config := { maxSteps := 1000000 }) (disch := (first | omega | (simp only [go_sem]; try omega))) only [go_sem, Nat.reduceAdd, Nat.reduceEqDiff, Nat.reduceLeDiff, Nat.reduceMul, Nat.reduceLT, reduceIte, Int.reduceToNat, w64_id, cast_succ])
  refine SW.loopE (fun E0 H0 q E' H' => ∃ k : Nat, 1 ≤ k ∧ k ≤ xs.length ∧ q = xs.length - k ∧ E' = aput E0 5 (I k) ∧ H' = H0 ∧ keepI xs k = List.range k) (xs.length - 1) ⟨1, by omega, by omega, rfl, rfl, rfl, rfl⟩ ?_
  rintro q E' H' ⟨k, hk1, hkl, rfl, rfl, rfl, hdk⟩
  simp (config := { maxSteps := 1000000 }) (disch := (first | omega | (simp only [go_sem]; try omega))) only [go_sem, Nat.reduceAdd, Nat.reduceEqDiff, Nat.reduceLeDiff, Nat.reduceMul, Nat.reduceLT, reduceIte, Int.reduceToNat, w64_id, cast_succ]
  repeat (first | (with_reducible first | refine SW.seq ?_ | refine SW.block ?_ | refine SW.rowC ?_ | refine SW.skip ?_ | refine SW.exit ?_ | intro _ | refine And.intro (by omega) ?_) | simp (config := { maxSteps := 1000000 }) (disch := (first | omega | (simp only [go_sem]; try omega))) only [go_sem, Nat.reduceAdd, Nat.reduceEqDiff, Nat.reduceLeDiff, Nat.reduceMul, Nat.reduceLT, reduceIte, Int.reduceToNat, w64_id, cast_succ, hv])
  (first | refine SW.condD rfl (fun h3 => ?_) (fun h3 => ?_) | refine SW.condN rfl (fun h3 => ?_) (fun h3 => ?_) | refine SW.condNB rfl (fun h3 => ?_) (fun h3 => ?_) | refine SW.condB rfl (fun h3 => ?_) (fun h3 => ?_))
  · have hklt : k < xs.length := by omega
    have e1 : (k : Int) - 1 = ((k - 1 : Nat) : Int) := by omega
    have hc1 := hgc k hklt
    have hc2 := hgc (k - 1) (by omega)
    have hq : AFn Tryz.prog f_slices_Equal_Lint64_int64 [cs.getD k nilS, cs.getD (k - 1) nilS] H' (Bv (decide (xs.getD k [] = xs.getD (k - 1) []))) := fun ext => slicesEqual_ok _ _ _ _ _ ((hrd0 k hklt).append ext) ((hrd0 (k - 1) (by omega)).append ext)
    repeat (first | (with_reducible first | refine SW.seq ?_ | refine SW.block ?_ | refine SW.rowC ?_ | refine SW.skip ?_ | refine SW.exit ?_ | intro _ | refine And.intro (by omega) ?_) | simp (config := { maxSteps := 1000000 }) (disch := (first | omega | (simp only [go_sem]; try omega))) only [go_sem, Nat.reduceAdd, Nat.reduceEqDiff, Nat.reduceLeDiff, Nat.reduceMul, Nat.reduceLT, reduceIte, Int.reduceToNat, w64_id, cast_succ, hv, e1, hc1, hc2, equal_call])
    refine QcallW.of hq ?_
    by_cases heq : xs.getD k [] = xs.getD (k - 1) []
    · rw [decide_eq_true heq]
      repeat (first | (with_reducible first | refine SW.seq ?_ | refine SW.block ?_ | refine SW.rowC ?_ | refine SW.skip ?_ | refine SW.exit ?_ | intro _ | refine And.intro (by omega) ?_) | simp (config := { maxSteps := 1000000 }) (disch := (first | omega | (simp only [go_sem]; try omega))) only [go_sem, Nat.reduceAdd, Nat.reduceEqDiff, Nat.reduceLeDiff, Nat.reduceMul, Nat.reduceLT, reduceIte, Int.reduceToNat, w64_id, cast_succ])
      refine SW.condT rfl ?_
      have hsz : ∀ cells', ((H'.set i ⟨ver, ty, 1, cells'⟩)[i]?).map Blk.sz = some 1 := fun cells' => by rw [List.getElem?_set_self hilt]; rfl
      have hsz0 : (H'[i]?).map Blk.sz = some 1 := by rw [hi]; rfl
      have hs1 : ∀ K : AV → Prop, SlcG 1 (.nm i ver 0 xs.length) (k : Int) ((xs.length : Nat) : Int) H' K (some (xs.length, cs)) = K (.nm i ver k (xs.length - k)) := fun K => by
        rw [slcNm (by omega) (by omega) (by omega) hsz0]; simp
      repeat (first | (with_reducible first | refine SW.seq ?_ | refine SW.block ?_ | refine SW.rowC ?_ | refine SW.skip ?_ | refine SW.exit ?_ | intro _ | refine And.intro (by omega) ?_) | simp (config := { maxSteps := 1000000 }) (disch := (first | omega | (simp only [go_sem]; try omega))) only [go_sem, Nat.reduceAdd, Nat.reduceEqDiff, Nat.reduceLeDiff, Nat.reduceMul, Nat.reduceLT, reduceIte, Int.reduceToNat, w64_id, cast_succ, hv, Option.map_some, Option.map_none, hs1])
      refine SW.loopE (fun E0 H0 q E' H2 => ∃ (m : Nat) (K : List Nat), 1 ≤ m ∧ m ≤ xs.length - k ∧ q = xs.length - k - m ∧ K = keepI xs (k + m) ∧ k ≤ K.length ∧ K.length < k + m ∧ E' = aput (aput E0 7 (I m)) 5 (I K.length) ∧ H2 = H'.set i ⟨ver, ty, 1, K.map (fun j => cs.getD j nilS) ++ cs.drop K.length⟩) (xs.length - k - 1) ⟨1, List.range k, by omega, by omega, by omega, ?_, by simp, by simp, by simp [go_sem], ?_⟩ ?_
      · rw [keepI_succ, if_neg (by simp only [not_or, ne_eq, Decidable.not_not]; exact ⟨by omega, heq⟩), hdk]; simp
      · rw [range_getD cs nilS k (by omega), List.length_range, List.take_append_drop, hself]
      rintro q E' H2 ⟨m, K, hm1, hml, rfl, hK, hkK, hKl, rfl, rfl⟩
      have hcl3 : (K.map (fun j => cs.getD j nilS) ++ cs.drop K.length).length = xs.length := by simp; omega
      generalize hC : K.map (fun j => cs.getD j nilS) ++ cs.drop K.length = C at *
      have hget : (H'.set i ⟨ver, ty, 1, C⟩)[i]? = some ⟨ver, ty, 1, C⟩ := List.getElem?_set_self hilt
      have hv0 : aview (H'.set i ⟨ver, ty, 1, C⟩) (.nm i ver 0 xs.length) = some (xs.length, C) := by rw [← hcl3]; exact view_nm hget rfl
      have hv2 : aview (H'.set i ⟨ver, ty, 1, C⟩) (.nm i ver k (xs.length - k)) = some (xs.length - k, C.drop k) := by
        simp only [aview, hget, if_true, Nat.mul_one]
        rw [List.take_of_length_le (by simp; omega)]
      have hcg : ∀ j, K.length ≤ j → j < xs.length → C[j]? = some (cs.getD j nilS) := fun j h1 h2 => by
        rw [← hC, List.getElem?_append_right (by simpa using h1), List.getElem?_drop, List.length_map, show K.length + (j - K.length) = j by omega]
        exact hgc j h2
      simp (config := { maxSteps := 1000000 }) (disch := (first | omega | (simp only [go_sem]; try omega))) only [go_sem, Nat.reduceAdd, Nat.reduceEqDiff, Nat.reduceLeDiff, Nat.reduceMul, Nat.reduceLT, reduceIte, Int.reduceToNat, w64_id, cast_succ]
      repeat (first | (with_reducible first | refine SW.seq ?_ | refine SW.block ?_ | refine SW.rowC ?_ | refine SW.skip ?_ | refine SW.exit ?_ | intro _ | refine And.intro (by omega) ?_) | simp (config := { maxSteps := 1000000 }) (disch := (first | omega | (simp only [go_sem]; try omega))) only [go_sem, Nat.reduceAdd, Nat.reduceEqDiff, Nat.reduceLeDiff, Nat.reduceMul, Nat.reduceLT, reduceIte, Int.reduceToNat, w64_id, cast_succ, hv2])
      (first | refine SW.condD rfl (fun h4 => ?_) (fun h4 => ?_) | refine SW.condN rfl (fun h4 => ?_) (fun h4 => ?_) | refine SW.condNB rfl (fun h4 => ?_) (fun h4 => ?_) | refine SW.condB rfl (fun h4 => ?_) (fun h4 => ?_))
      · have hcm : (C.drop k)[m]? = some (cs.getD (k + m) nilS) := by rw [List.getElem?_drop]; exact hcg _ (by omega) (by omega)
        have hcm1 : (C.drop k)[m - 1]? = some (cs.getD (k + m - 1) nilS) := by rw [List.getElem?_drop, show k + (m - 1) = k + m - 1 by omega]; exact hcg _ (by omega) (by omega)
        have e2 : (m : Int) - 1 = ((m - 1 : Nat) : Int) := by omega
        have hq2 : AFn Tryz.prog f_slices_Equal_Lint64_int64 [cs.getD (k + m) nilS, cs.getD (k + m - 1) nilS] (H'.set i ⟨ver, ty, 1, C⟩) (Bv (decide (xs.getD (k + m) [] = xs.getD (k + m - 1) []))) := fun ext => slicesEqual_ok _ _ _ _ _ ((hrd C (k + m) (by omega)).append ext) ((hrd C (k + m - 1) (by omega)).append ext)
        have h1c := h1 (cs.getD (k + m) nilS) (List.mem_of_getElem? (hgc (k + m) (by omega)))
        have hst : ∀ c, astore (H'.set i ⟨ver, ty, 1, C⟩) [c] (.el (.nm i ver 0 xs.length) K.length) = some (H'.set i ⟨ver, ty, 1, C.set K.length c⟩) := fun c => by
          rw [store_nm hget (by rw [hcl3]; omega), List.set_set]
        have hsetC : C.set K.length (cs.getD (k + m) nilS) = (K ++ [k + m]).map (fun j => cs.getD j nilS) ++ cs.drop (K ++ [k + m]).length := by
          rw [← hC, List.set_append_right _ _ (by simp), List.length_map, Nat.sub_self, List.drop_eq_getElem_cons (show K.length < cs.length by omega), List.set_cons_zero]
          simp
        repeat (first | (with_reducible first | refine SW.seq ?_ | refine SW.block ?_ | refine SW.rowC ?_ | refine SW.skip ?_ | refine SW.exit ?_ | intro _ | refine And.intro (by omega) ?_) | simp (config := { maxSteps := 1000000 }) (disch := (first | omega | (simp only [go_sem]; try omega))) only [go_sem, Nat.reduceAdd, Nat.reduceEqDiff, Nat.reduceLeDiff, Nat.reduceMul, Nat.reduceLT, reduceIte, Int.reduceToNat, w64_id, cast_succ, hv2, hv0, e2, hcm, hcm1, equal_call])
        refine QcallW.of hq2 ?_
        by_cases heq2 : xs.getD (k + m) [] = xs.getD (k + m - 1) []
        · rw [decide_eq_true heq2]
          repeat (first | (with_reducible first | refine SW.seq ?_ | refine SW.block ?_ | refine SW.rowC ?_ | refine SW.skip ?_ | refine SW.exit ?_ | intro _ | refine And.intro (by omega) ?_) | simp (config := { maxSteps := 1000000 }) (disch := (first | omega | (simp only [go_sem]; try omega))) only [go_sem, Nat.reduceAdd, Nat.reduceEqDiff, Nat.reduceLeDiff, Nat.reduceMul, Nat.reduceLT, reduceIte, Int.reduceToNat, w64_id, cast_succ])
          refine SW.condF rfl ?_
          repeat (first | (with_reducible first | refine SW.seq ?_ | refine SW.block ?_ | refine SW.rowC ?_ | refine SW.skip ?_ | refine SW.exit ?_ | intro _ | refine And.intro (by omega) ?_) | simp (config := { maxSteps := 1000000 }) (disch := (first | omega | (simp only [go_sem]; try omega))) only [go_sem, Nat.reduceAdd, Nat.reduceEqDiff, Nat.reduceLeDiff, Nat.reduceMul, Nat.reduceLT, reduceIte, Int.reduceToNat, w64_id, cast_succ])
          refine SLoop.next (xs.length - k - (m + 1)) (by omega) ⟨m + 1, K, by omega, by omega, rfl, ?_, hkK, by omega, by simp [go_sem], by rw [hC]⟩
          rw [show k + (m + 1) = (k + m) + 1 by omega, keepI_succ, if_neg (by simp only [not_or, ne_eq, Decidable.not_not]; exact ⟨by omega, heq2⟩), ← hK]; simp
        · rw [decide_eq_false heq2]
          repeat (first | (with_reducible first | refine SW.seq ?_ | refine SW.block ?_ | refine SW.rowC ?_ | refine SW.skip ?_ | refine SW.exit ?_ | intro _ | refine And.intro (by omega) ?_) | simp (config := { maxSteps := 1000000 }) (disch := (first | omega | (simp only [go_sem]; try omega))) only [go_sem, Nat.reduceAdd, Nat.reduceEqDiff, Nat.reduceLeDiff, Nat.reduceMul, Nat.reduceLT, reduceIte, Int.reduceToNat, w64_id, cast_succ])
          refine SW.condT rfl ?_
          repeat (first | (with_reducible first | refine SW.seq ?_ | refine SW.block ?_ | refine SW.rowC ?_ | refine SW.skip ?_ | refine SW.exit ?_ | intro _ | refine And.intro (by omega) ?_) | simp (config := { maxSteps := 1000000 }) (disch := (first | omega | (simp only [go_sem]; try omega))) only [go_sem, Nat.reduceAdd, Nat.reduceEqDiff, Nat.reduceLeDiff, Nat.reduceMul, Nat.reduceLT, reduceIte, Int.reduceToNat, w64_id, cast_succ, hv2, hv0, hcm, hst, h1c.1, h1c.2])
          refine SLoop.next (xs.length - k - (m + 1)) (by omega) ⟨m + 1, K ++ [k + m], by omega, by omega, rfl, ?_, by simp; omega, by simp; omega, by simp [go_sem], by rw [hsetC]⟩
          rw [show k + (m + 1) = (k + m) + 1 by omega, keepI_succ, if_pos (.inr heq2), ← hK]
      · have hmk : k + m = xs.length := by omega
        rw [hmk] at hK hKl
        have hs2 : ∀ Kk : AV → Prop, SlcG 1 (.nm i ver 0 xs.length) (K.length : Int) ((xs.length : Nat) : Int) (H'.set i ⟨ver, ty, 1, C⟩) Kk (some (xs.length, C)) = Kk (.nm i ver K.length (xs.length - K.length)) := fun Kk => by
          rw [slcNm (by omega) (by omega) (by omega) (hsz C)]; simp
        repeat (first | (with_reducible first | refine SW.seq ?_ | refine SW.block ?_ | refine SW.rowC ?_ | refine SW.skip ?_ | refine SW.exit ?_ | intro _ | refine And.intro (by omega) ?_) | simp (config := { maxSteps := 1000000 }) (disch := (first | omega | (simp only [go_sem]; try omega))) only [go_sem, Nat.reduceAdd, Nat.reduceEqDiff, Nat.reduceLeDiff, Nat.reduceMul, Nat.reduceLT, reduceIte, Int.reduceToNat, w64_id, cast_succ, hv0, Option.map_some, Option.map_none, hs2])
        refine ClrW.of _ _ (by omega) hget (by omega) ?_
        rw [List.set_set]
        generalize hD : setMany C K.length (List.replicate (xs.length - K.length) (AV.lit (.slice none 0 0))) = D
        have hDl : D.length = xs.length := by rw [← hD, setMany_length]; exact hcl3
        have hDt : D.take K.length = K.map (fun j => cs.getD j nilS) := by
          rw [← hD, setMany_rep _ _ _ _ (by omega), ← hC, List.take_append_of_le_length (by simp), List.take_of_length_le (by simp)]
        have hgetD : (H'.set i ⟨ver, ty, 1, D⟩)[i]? = some ⟨ver, ty, 1, D⟩ := List.getElem?_set_self hilt
        have hvD : aview (H'.set i ⟨ver, ty, 1, D⟩) (.nm i ver 0 xs.length) = some (xs.length, D) := by rw [← hDl]; exact view_nm hgetD rfl
        have hs3 : ∀ Kk : AV → Prop, SlcG 1 (.nm i ver 0 xs.length) 0 (K.length : Int) (H'.set i ⟨ver, ty, 1, D⟩) Kk (some (xs.length, D)) = Kk (.nm i ver 0 K.length) := fun Kk => by
          rw [slcNm0 (by omega) (by omega) (hsz D)]; simp
        repeat (first | (with_reducible first | refine SW.seq ?_ | refine SW.block ?_ | refine SW.rowC ?_ | refine SW.skip ?_ | refine SW.exit ?_ | intro _ | refine And.intro (by omega) ?_) | simp (config := { maxSteps := 1000000 }) (disch := (first | omega | (simp only [go_sem]; try omega))) only [go_sem, Nat.reduceAdd, Nat.reduceEqDiff, Nat.reduceLeDiff, Nat.reduceMul, Nat.reduceLT, reduceIte, Int.reduceToNat, w64_id, cast_succ, hvD, Option.map_some, Option.map_none, hs3])
        refine SW.ret ?_; (try simp only [go_sem]); (first | refine FunPost.one ?_ | refine FunPost.two ?_ | refine FunPost.three ?_); (try simp (config := { maxSteps := 1000000 }) (disch := (first | omega | (simp only [go_sem]; try omega))) only [go_sem, Nat.reduceAdd, Nat.reduceEqDiff, Nat.reduceLeDiff, Nat.reduceMul, Nat.reduceLT, reduceIte, Int.reduceToNat, w64_id, cast_succ])
        rw [← hK]
        exact GR.of ⟨D, rfl, rfl, hDt, by omega⟩
    · rw [decide_eq_false heq]
      repeat (first | (with_reducible first | refine SW.seq ?_ | refine SW.block ?_ | refine SW.rowC ?_ | refine SW.skip ?_ | refine SW.exit ?_ | intro _ | refine And.intro (by omega) ?_) | simp (config := { maxSteps := 1000000 }) (disch := (first | omega | (simp only [go_sem]; try omega))) only [go_sem, Nat.reduceAdd, Nat.reduceEqDiff, Nat.reduceLeDiff, Nat.reduceMul, Nat.reduceLT, reduceIte, Int.reduceToNat, w64_id, cast_succ])
      refine SW.condF rfl ?_
      repeat (first | (with_reducible first | refine SW.seq ?_ | refine SW.block ?_ | refine SW.rowC ?_ | refine SW.skip ?_ | refine SW.exit ?_ | intro _ | refine And.intro (by omega) ?_) | simp (config := { maxSteps := 1000000 }) (disch := (first | omega | (simp only [go_sem]; try omega))) only [go_sem, Nat.reduceAdd, Nat.reduceEqDiff, Nat.reduceLeDiff, Nat.reduceMul, Nat.reduceLT, reduceIte, Int.reduceToNat, w64_id, cast_succ])
      refine SLoop.next (xs.length - (k + 1)) (by omega) ⟨k + 1, by omega, by omega, rfl, by simp [go_sem], rfl, ?_⟩
      rw [keepI_succ, if_pos (.inr heq), hdk, List.range_succ]
  · have : k = xs.length := by omega
    subst this
    repeat (first | (with_reducible first | refine SW.seq ?_ | refine SW.block ?_ | refine SW.rowC ?_ | refine SW.skip ?_ | refine SW.exit ?_ | intro _ | refine And.intro (by omega) ?_) | simp (config := { maxSteps := 1000000 }) (disch := (first | omega | (simp only [go_sem]; try omega))) only [go_sem, Nat.reduceAdd, Nat.reduceEqDiff, Nat.reduceLeDiff, Nat.reduceMul, Nat.reduceLT, reduceIte, Int.reduceToNat, w64_id, cast_succ])
    refine SW.ret ?_; (try simp only [go_sem]); (first | refine FunPost.one ?_ | refine FunPost.two ?_ | refine FunPost.three ?_); (try simp (config := { maxSteps := 1000000 }) (disch := (first | omega | (simp only [go_sem]; try omega))) only [go_sem, Nat.reduceAdd, Nat.reduceEqDiff, Nat.reduceLeDiff, Nat.reduceMul, Nat.reduceLT, reduceIte, Int.reduceToNat, w64_id, cast_succ])
    exact fin _ rfl hdk
end Go.Proofs.YtkifdjjnbplghaaGreat
namespace Go.Av
theorem Sim.trunc {B : Nat} {W0 : World} {F : Fz} {m : List Ent} {H : List Blk} {w : World} (h : Sim B W0 F m H w) {i ver ty : Nat} {cells : List AV} (hk : H[i]? = some ⟨ver, ty, 1, cells⟩) (n : Nat) : Sim B W0 F m (H.set i ⟨ver, ty, 1, cells.take n⟩) w := by
  refine ⟨by simp [h.len], h.below, h.base, h.fz, h.apart, h.dist, fun j e k he hkk => ?_⟩
  have hlt := (List.getElem?_eq_some_iff.1 hk).1
  by_cases hij : i = j
  · subst hij
    rw [List.getElem?_set_self hlt] at hkk
    cases hkk
    obtain ⟨g1, g2, g3, g4, g5⟩ := h.blk i e _ he hk
    refine ⟨g1, g2, g3, fun hn => ⟨?_, (g4 hn).2⟩, fun b hb => ?_⟩
    · have := (g4 hn).1
      simp only at this
      simp [this]
    · obtain ⟨o1, ⟨o0, arr, o2, o3, o4, o5, o6⟩ | ⟨o0, _⟩⟩ := g5 b hb
      · refine ⟨o1, .inl ⟨o0, arr, o2, o3, ?_, fun q c v hc hv => ?_, o6⟩⟩
        · simp only [List.length_take] at o4 ⊢; omega
        · simp only [List.getElem?_take] at hc
          split at hc
          · exact o5 q c v hc hv
          · simp at hc
      · rw [g3] at o0; simp at o0
  · rw [List.getElem?_set_ne hij] at hkk
    exact h.blk j e k he hkk
theorem GR.trunc {H0 : List Blk} {R : AV → List Blk → Prop} {r : AV} {H : List Blk} {i ver ty : Nat} {cells : List AV} (n : Nat) (hk : H[i]? = some ⟨ver, ty, 1, cells⟩) (h : GR H0 R r (H.set i ⟨ver, ty, 1, cells.take n⟩)) : GR H0 R r H :=
  fun B W0 F0 m0 w0 F m w v hs0 hF hm hr hs => h B W0 F0 m0 w0 F m w v hs0 hF hm hr (hs.trunc hk n)
end Go.Av
namespace Go.Proofs.YtkifdjjnbplghaaGreat
open Go.Av
theorem image_new (n : Nat) (p b : List Int) (hn : n ≤ 64) (hp : permOk n p) (hb : asc 0 ((n : Int) - 1) b = true) : NewS Tryz.prog f_impl_image [ilS p, ilS b] (img p b) := by
  intro H
  refine ACalls.introB s_impl_image (by simp) ?_; intro hB hA; unfold c_impl_image; simp (config := { maxSteps := 1000000 }) (disch := (first | omega | (simp only [go_sem]; try omega))) only [go_sem, Nat.reduceAdd, Nat.reduceEqDiff, Nat.reduceLeDiff, Nat.reduceMul, Nat.reduceLT, reduceIte, Int.reduceToNat, w64_id, cast_succ]
  repeat (first | (with_reducible first | refine SW.seq ?_ | refine SW.block ?_ | refine SW.rowC ?_ | refine SW.skip ?_ | refine SW.exit ?_ | intro _ | refine And.intro (by omega) ?_) | simp (config := { maxSteps := 1000000 }) (disch := (first | omega | (simp only [go_sem]; try omega))) only [go_sem, Nat.reduceAdd, Nat.reduceEqDiff, Nat.reduceLeDiff, Nat.reduceMul, Nat.reduceLT, reduceIte, Int.reduceToNat, w64_id, cast_succ])
  have hbl : b.length ≤ 64 := by rcases asc_len hb with h | h; (rw [h]; simp); omega
  have hbm := asc_mem hb
  refine SW.ghost (Gh.name 5 2 1 rfl) ?_
  simp (config := { maxSteps := 1000000 }) (disch := (first | omega | (simp only [go_sem]; try omega))) only [go_sem, Nat.reduceAdd, Nat.reduceEqDiff, Nat.reduceLeDiff, Nat.reduceMul, Nat.reduceLT, reduceIte, Int.reduceToNat, w64_id, cast_succ]
  refine SW.loopE (fun E0 H0 q E' H' => ∃ (pre post : List Int) (ver : Nat), b = pre ++ post ∧ q = post.length ∧ E' = aput (aput E0 10 (I pre.length)) 5 (.nm H.length ver 0 (pre.map (pa p)).length) ∧ H' = H ++ [⟨ver, 2, 1, (pre.map (pa p)).map I⟩]) b.length ⟨[], b, 0, rfl, rfl, rfl, rfl⟩ ?_
  rintro q E' H' ⟨pre, post, ver, hpp, rfl, rfl, rfl⟩
  have hpl : pre.length ≤ 64 := by rw [hpp] at hbl; simp at hbl; omega
  have hml : (pre.map (pa p)).length = pre.length := by simp
  have hms : ∀ y, (pre ++ [y]).map (pa p) = pre.map (pa p) ++ [pa p y] := fun y => by simp
  generalize hM : pre.map (pa p) = M at *
  have htl : (M.map I).take M.length = M.map I := List.take_of_length_le (by simp)
  simp (config := { maxSteps := 1000000 }) (disch := (first | omega | (simp only [go_sem]; try omega))) only [go_sem, Nat.reduceAdd, Nat.reduceEqDiff, Nat.reduceLeDiff, Nat.reduceMul, Nat.reduceLT, reduceIte, Int.reduceToNat, w64_id, cast_succ]
  repeat (first | (with_reducible first | refine SW.seq ?_ | refine SW.block ?_ | refine SW.rowC ?_ | refine SW.skip ?_ | refine SW.exit ?_ | intro _ | refine And.intro (by omega) ?_) | simp (config := { maxSteps := 1000000 }) (disch := (first | omega | (simp only [go_sem]; try omega))) only [go_sem, Nat.reduceAdd, Nat.reduceEqDiff, Nat.reduceLeDiff, Nat.reduceMul, Nat.reduceLT, reduceIte, Int.reduceToNat, w64_id, cast_succ])
  (first | refine SW.condD rfl (fun h => ?_) (fun h => ?_) | refine SW.condN rfl (fun h => ?_) (fun h => ?_) | refine SW.condNB rfl (fun h => ?_) (fun h => ?_) | refine SW.condB rfl (fun h => ?_) (fun h => ?_))
  · obtain ⟨y, post, rfl, hg, -⟩ := consOf (d := 0) hpp (by omega)
    have hy := hbm y (by rw [hpp]; simp)
    obtain ⟨hg1, hg2⟩ := pa_get hp hy.1 (by omega)
    repeat (first | (with_reducible first | refine SW.seq ?_ | refine SW.block ?_ | refine SW.rowC ?_ | refine SW.skip ?_ | refine SW.exit ?_ | intro _ | refine And.intro (by omega) ?_) | simp (config := { maxSteps := 1000000 }) (disch := (first | omega | (simp only [go_sem]; try omega))) only [go_sem, Nat.reduceAdd, Nat.reduceEqDiff, Nat.reduceLeDiff, Nat.reduceMul, Nat.reduceLT, reduceIte, Int.reduceToNat, w64_id, cast_succ, hg, hg2, htl])
    refine SLoop.nextT 1 post.length hB (by omega) (by simp) (by simp) ?_ ?_ ⟨pre ++ [y], post, ver + 1, by simp [hpp], rfl, ?_, ?_⟩
    · (simp only [go_sem, Nat.reduceAdd, Nat.reduceEqDiff, reduceIte, go_sem, and_self, and_true, true_and, implies_true, List.take_succ_cons, List.take_zero, and_true, true_and]; try omega)
    · (simp only [go_sem, Nat.reduceAdd, Nat.reduceEqDiff, reduceIte, go_sem, and_self, and_true, true_and, implies_true, List.take_succ_cons, List.take_zero, and_true, true_and]; try omega)
    · simp [go_sem, hml]
    · rw [hms]; simp
  · obtain ⟨rfl, rfl⟩ := nilOf hpp (by omega)
    repeat (first | (with_reducible first | refine SW.seq ?_ | refine SW.block ?_ | refine SW.rowC ?_ | refine SW.skip ?_ | refine SW.exit ?_ | intro _ | refine And.intro (by omega) ?_) | simp (config := { maxSteps := 1000000 }) (disch := (first | omega | (simp only [go_sem]; try omega))) only [go_sem, Nat.reduceAdd, Nat.reduceEqDiff, Nat.reduceLeDiff, Nat.reduceMul, Nat.reduceLT, reduceIte, Int.reduceToNat, w64_id, cast_succ])
    refine (sortI_ok sortL_p sortL_n _ H.length ver 2 M (by simp) (by omega)).mono ?_
    rintro r H' ⟨rfl, rfl⟩
    rw [← hM, img_is hp hb, hM]
    have hil : (img p pre).length = M.length := by rw [← img_is hp hb, hM, isort_length]
    repeat (first | (with_reducible first | refine SW.seq ?_ | refine SW.block ?_ | refine SW.rowC ?_ | refine SW.skip ?_ | refine SW.exit ?_ | intro _ | refine And.intro (by omega) ?_) | simp (config := { maxSteps := 1000000 }) (disch := (first | omega | (simp only [go_sem]; try omega))) only [go_sem, Nat.reduceAdd, Nat.reduceEqDiff, Nat.reduceLeDiff, Nat.reduceMul, Nat.reduceLT, reduceIte, Int.reduceToNat, w64_id, cast_succ])
    refine SW.ret ?_; (try simp only [go_sem]); (first | refine FunPost.one ?_ | refine FunPost.two ?_ | refine FunPost.three ?_); (try simp (config := { maxSteps := 1000000 }) (disch := (first | omega | (simp only [go_sem]; try omega))) only [go_sem, Nat.reduceAdd, Nat.reduceEqDiff, Nat.reduceLeDiff, Nat.reduceMul, Nat.reduceLT, reduceIte, Int.reduceToNat, w64_id, cast_succ])
    rw [← hil]
    exact GR.oneS (Nat.le_refl _) (by simp)
theorem OwnC.compact {H : List Blk} {N : Nat → Prop} {t ver ty : Nat} {cells : List AV} {xs : List (List Int)} (h : OwnC H N t ver ty cells xs) (m : Nat) (hm : m ≤ xs.length) :
    OwnC (H.set t ⟨ver, ty, 1, (keepI xs m).map (fun j => cells.getD j nilS)⟩) N t ver ty ((keepI xs m).map (fun j => cells.getD j nilS)) (ddT xs m) := by
  obtain ⟨h1, h2, h3, h4, h5⟩ := h
  have hlt := (List.getElem?_eq_some_iff.1 h2).1
  have hK : ∀ j ∈ keepI xs m, j < xs.length := fun j hj => by have := List.mem_range.1 (List.mem_filter.1 hj).1; omega
  have hKn : (keepI xs m).Nodup := by
    rw [List.nodup_iff_pairwise_ne]
    exact (List.pairwise_lt_range.filter _).imp (fun h => by omega)
  have hcg : ∀ j, j < xs.length → cells[j]? = some (cells.getD j nilS) := fun j hj => by
    rw [List.getD_eq_getElem?_getD, List.getElem?_eq_getElem (by omega)]; rfl
  refine ⟨h1, List.getElem?_set_self hlt, by rw [← keepI_map]; simp, ?_, ?_⟩
  · intro j c x hc hx
    rw [← keepI_map] at hx
    rw [List.getElem?_map] at hc hx
    cases hj : (keepI xs m)[j]? with
    | none => rw [hj] at hc; simp at hc
    | some q =>
      rw [hj] at hc hx
      simp only [Option.map_some, Option.some.injEq] at hc hx
      subst hc; subst hx
      have hq := hK q (List.mem_of_getElem? hj)
      refine (h4 q _ _ (hcg q hq) (by rw [List.getD_eq_getElem?_getD, List.getElem?_eq_getElem hq]; rfl)).same (fun r b hN hrt hb => ?_)
      rw [List.getElem?_set_ne (Ne.symm hrt)]; exact hb
  · intro i j r v o l v' o' l' hij g1 g2
    rw [List.getElem?_map] at g1 g2
    cases hi : (keepI xs m)[i]? with
    | none => rw [hi] at g1; simp at g1
    | some a =>
      cases hj : (keepI xs m)[j]? with
      | none => rw [hj] at g2; simp at g2
      | some b =>
        rw [hi] at g1; rw [hj] at g2
        simp only [Option.map_some, Option.some.injEq] at g1 g2
        have ha := hK a (List.mem_of_getElem? hi)
        have hb := hK b (List.mem_of_getElem? hj)
        have hab : a ≠ b := by
          rintro rfl
          obtain ⟨p1, p2⟩ := List.getElem?_eq_some_iff.1 hi
          obtain ⟨q1, q2⟩ := List.getElem?_eq_some_iff.1 hj
          exact hij ((List.getElem_inj hKn).1 (p2.trans q2.symm))
        exact h5 a b r v o l v' o' l' hab (by rw [hcg a ha, g1]) (by rw [hcg b hb, g2])
def imgsOf (els : List (List Int)) (set : List Int) : List (List Int) := els.map fun p => img p set
theorem imagesOf_own (H : List Blk) (n : Nat) (els : List (List Int)) (set : List Int) (hn : n ≤ 32) (hel : 1 ≤ els.length) (hl : els.length ≤ 720) (hp : ∀ p ∈ els, permOk n p) (hb : asc 0 ((n : Int) - 1) set = true) :
    ACalls Tryz.prog f_impl_imagesOf [.agg [I n, ilSS els], ilS set] H (fun r H' => ∃ ext, H' = H ++ ext ∧ OwnSS H' (Btw H.length H'.length) r (sortU cmpL (imgsOf els set))) := by
  refine ACalls.introB s_impl_imagesOf (by simp) ?_; intro hB hA; unfold c_impl_imagesOf; simp (config := { maxSteps := 1000000 }) (disch := (first | omega | (simp only [go_sem]; try omega))) only [go_sem, Nat.reduceAdd, Nat.reduceEqDiff, Nat.reduceLeDiff, Nat.reduceMul, Nat.reduceLT, reduceIte, Int.reduceToNat, w64_id, cast_succ]
  repeat (first | (with_reducible first | refine SW.seq ?_ | refine SW.block ?_ | refine SW.rowC ?_ | refine SW.skip ?_ | refine SW.exit ?_ | intro _ | refine And.intro (by omega) ?_) | simp (config := { maxSteps := 1000000 }) (disch := (first | omega | (simp only [go_sem]; try omega))) only [go_sem, Nat.reduceAdd, Nat.reduceEqDiff, Nat.reduceLeDiff, Nat.reduceMul, Nat.reduceLT, reduceIte, Int.reduceToNat, w64_id, cast_succ])
  refine SW.loopE (fun E0 H0 q E' H' => ∃ (pre post : List (List Int)) (v : AV), els = pre ++ post ∧ q = post.length ∧ E' = aput (aput E0 11 (I pre.length)) 5 v ∧ GrowSS H' (H.length + 1) tyLL v (imgsOf pre set) ∧ H.length + 1 ≤ H'.length ∧ ∀ j, j < H.length + 1 → H'[j]? = H0[j]?) els.length ⟨[], els, nilS, rfl, rfl, rfl, .inl ⟨rfl, rfl⟩, by simp, fun _ _ => rfl⟩ ?_
  rintro q E' H1 ⟨pre, post, v, hpp, rfl, rfl, hgr, hHl, hpre⟩
  have hprl : pre.length ≤ 720 := by rw [hpp] at hl; simp at hl; omega
  have hil : (imgsOf pre set).length = pre.length := by simp [imgsOf]
  simp (config := { maxSteps := 1000000 }) (disch := (first | omega | (simp only [go_sem]; try omega))) only [go_sem, Nat.reduceAdd, Nat.reduceEqDiff, Nat.reduceLeDiff, Nat.reduceMul, Nat.reduceLT, reduceIte, Int.reduceToNat, w64_id, cast_succ]
  repeat (first | (with_reducible first | refine SW.seq ?_ | refine SW.block ?_ | refine SW.rowC ?_ | refine SW.skip ?_ | refine SW.exit ?_ | intro _ | refine And.intro (by omega) ?_) | simp (config := { maxSteps := 1000000 }) (disch := (first | omega | (simp only [go_sem]; try omega))) only [go_sem, Nat.reduceAdd, Nat.reduceEqDiff, Nat.reduceLeDiff, Nat.reduceMul, Nat.reduceLT, reduceIte, Int.reduceToNat, w64_id, cast_succ])
  (first | refine SW.condD rfl (fun h2 => ?_) (fun h2 => ?_) | refine SW.condN rfl (fun h2 => ?_) (fun h2 => ?_) | refine SW.condNB rfl (fun h2 => ?_) (fun h2 => ?_) | refine SW.condB rfl (fun h2 => ?_) (fun h2 => ?_))
  · obtain ⟨p, post, rfl, hgp, -⟩ := consOf (d := []) hpp (by omega)
    have hpo := hp p (by rw [hpp]; simp)
    repeat (first | (with_reducible first | refine SW.seq ?_ | refine SW.block ?_ | refine SW.rowC ?_ | refine SW.skip ?_ | refine SW.exit ?_ | intro _ | refine And.intro (by omega) ?_) | simp (config := { maxSteps := 1000000 }) (disch := (first | omega | (simp only [go_sem]; try omega))) only [go_sem, Nat.reduceAdd, Nat.reduceEqDiff, Nat.reduceLeDiff, Nat.reduceMul, Nat.reduceLT, reduceIte, Int.reduceToNat, w64_id, cast_succ, hgp])
    refine (image_new n p set (by omega) hpo hb _).mono ?_
    rintro r H2 ⟨rfl, rfl⟩
    repeat (first | (with_reducible first | refine SW.seq ?_ | refine SW.block ?_ | refine SW.rowC ?_ | refine SW.skip ?_ | refine SW.exit ?_ | intro _ | refine And.intro (by omega) ?_) | simp (config := { maxSteps := 1000000 }) (disch := (first | omega | (simp only [go_sem]; try omega))) only [go_sem, Nat.reduceAdd, Nat.reduceEqDiff, Nat.reduceLeDiff, Nat.reduceMul, Nat.reduceLT, reduceIte, Int.reduceToNat, w64_id, cast_succ])
    refine GrowSS.appG rfl hgr (by omega) (Nat.le_refl _) (by rw [hil]; omega) (rv := 0) (rty := 2) (xs := img p set) (fun j b _ hb => by rw [List.getElem?_append_left (List.getElem?_eq_some_iff.1 hb).1]; exact hb) (by simp) ?_
    intro v3 H3 d1 d2 d3
    have e1 : imgsOf (pre ++ [p]) set = imgsOf pre set ++ [img p set] := by simp [imgsOf]
    repeat (first | (with_reducible first | refine SW.seq ?_ | refine SW.block ?_ | refine SW.rowC ?_ | refine SW.skip ?_ | refine SW.exit ?_ | intro _ | refine And.intro (by omega) ?_) | simp (config := { maxSteps := 1000000 }) (disch := (first | omega | (simp only [go_sem]; try omega))) only [go_sem, Nat.reduceAdd, Nat.reduceEqDiff, Nat.reduceLeDiff, Nat.reduceMul, Nat.reduceLT, reduceIte, Int.reduceToNat, w64_id, cast_succ])
    refine SLoop.next post.length (by simp) ⟨pre ++ [p], post, v3, by simp [hpp], rfl, by simp [go_sem], by rw [e1]; exact d1, by simp at d2; omega, fun j hj => ?_⟩
    rw [d3 j hj, List.getElem?_append_left (by omega)]; exact hpre j hj
  · obtain ⟨rfl, rfl⟩ := nilOf hpp (by omega)
    rcases hgr with ⟨_, h0⟩ | ⟨t, ver, cells, rfl, hown⟩
    · have := congrArg List.length h0
      rw [hil] at this
      simp only [List.length_nil] at this
      omega
    repeat (first | (with_reducible first | refine SW.seq ?_ | refine SW.block ?_ | refine SW.rowC ?_ | refine SW.skip ?_ | refine SW.exit ?_ | intro _ | refine And.intro (by omega) ?_) | simp (config := { maxSteps := 1000000 }) (disch := (first | omega | (simp only [go_sem]; try omega))) only [go_sem, Nat.reduceAdd, Nat.reduceEqDiff, Nat.reduceLeDiff, Nat.reduceMul, Nat.reduceLT, reduceIte, Int.reduceToNat, w64_id, cast_succ])
    refine (sortRows_ok hown (by omega)).mono ?_
    rintro r H2 ⟨rfl, cs, ys, hpm, hsd, rfl, hown2⟩
    have hlen : (imgsOf pre set).length = ys.length := hpm.length_eq.symm
    have ht := hown.1
    unfold Fr at ht
    have htl := (List.getElem?_eq_some_iff.1 hown.2.1).1
    have hpre2 : ∀ j, j < H.length → (H1.set t ⟨ver, tyLL, 1, cs⟩)[j]? = H[j]? := fun j hj => by
      rw [List.getElem?_set_ne (by omega), hpre j (by omega), List.getElem?_append_left hj]
    have hl2 : (H1.set t ⟨ver, tyLL, 1, cs⟩).length = H1.length := by simp
    generalize H1.set t ⟨ver, tyLL, 1, cs⟩ = H2 at *
    have hown3 := hown2
    obtain ⟨o1, o2, o3, o4, o5⟩ := hown2
    have hos : ∀ j, j < ys.length → OwnS H2 (Fr (H.length + 1)) t (cs.getD j nilS) (ys.getD j []) := fun j hj => by
      refine o4 j _ _ ?_ ?_
      · rw [List.getD_eq_getElem?_getD, List.getElem?_eq_getElem (by omega)]; rfl
      · rw [List.getD_eq_getElem?_getD, List.getElem?_eq_getElem hj]; rfl
    have hco := compact_ok H2 t ver tyLL ys cs o2 o3 (fun c hc => by
      obtain ⟨j, hj, rfl⟩ := List.getElem_of_mem hc
      have := o4 j _ _ (List.getElem?_eq_getElem hj) (List.getElem?_eq_getElem (by omega))
      rcases this with ⟨r, v, ty, h, _⟩ | ⟨_, h | h⟩ <;> rw [h] <;> exact ⟨rfl, rfl⟩) (fun cells' j hj => by
      refine ((hos j hj).same (fun r b _ hrt hb => ?_)).rd
      rw [List.getElem?_set_ne (Ne.symm hrt)]; exact hb) (by omega)
    rw [hlen]
    repeat (first | (with_reducible first | refine SW.seq ?_ | refine SW.block ?_ | refine SW.rowC ?_ | refine SW.skip ?_ | refine SW.exit ?_ | intro _ | refine And.intro (by omega) ?_) | simp (config := { maxSteps := 1000000 }) (disch := (first | omega | (simp only [go_sem]; try omega))) only [go_sem, Nat.reduceAdd, Nat.reduceEqDiff, Nat.reduceLeDiff, Nat.reduceMul, Nat.reduceLT, reduceIte, Int.reduceToNat, w64_id, cast_succ])
    refine hco.mono ?_
    rintro r H3 ⟨cells3, rfl, rfl, hct, hcl⟩
    repeat (first | (with_reducible first | refine SW.seq ?_ | refine SW.block ?_ | refine SW.rowC ?_ | refine SW.skip ?_ | refine SW.exit ?_ | intro _ | refine And.intro (by omega) ?_) | simp (config := { maxSteps := 1000000 }) (disch := (first | omega | (simp only [go_sem]; try omega))) only [go_sem, Nat.reduceAdd, Nat.reduceEqDiff, Nat.reduceLeDiff, Nat.reduceMul, Nat.reduceLT, reduceIte, Int.reduceToNat, w64_id, cast_succ])
    refine SW.ret ?_; (try simp only [go_sem]); (first | refine FunPost.one ?_ | refine FunPost.two ?_ | refine FunPost.three ?_); (try simp (config := { maxSteps := 1000000 }) (disch := (first | omega | (simp only [go_sem]; try omega))) only [go_sem, Nat.reduceAdd, Nat.reduceEqDiff, Nat.reduceLeDiff, Nat.reduceMul, Nat.reduceLT, reduceIte, Int.reduceToNat, w64_id, cast_succ])
    have hget3 : (H2.set t ⟨ver, tyLL, 1, cells3⟩)[t]? = some ⟨ver, tyLL, 1, cells3⟩ := List.getElem?_set_self (by omega)
    refine GR.trunc (keepI ys ys.length).length hget3 ?_
    rw [List.set_set, hct]
    have hcp := hown3.compact ys.length (Nat.le_refl _)
    have hdd : ddT ys ys.length = sortU cmpL (imgsOf pre set) := by
      rw [ddT_is hsd]
      refine asc_uniq cmpL_tot (sortU_asc cmpL_tot _) (sortU_asc cmpL_tot _) (fun y => ?_)
      rw [sortU_mem cmpL_tot, sortU_mem cmpL_tot]
      exact hpm.mem_iff
    have hkl : (keepI ys ys.length).length = (ddT ys ys.length).length := by rw [← keepI_map]; simp
    have hpx := prefix_of (H := H) (H' := H2.set t ⟨ver, tyLL, 1, (keepI ys ys.length).map (fun j => cs.getD j nilS)⟩) (by simp; omega) (fun j hj => by rw [List.getElem?_set_ne (by omega)]; exact hpre2 j hj)
    obtain ⟨ext, hext⟩ := hpx
    refine GR.of ⟨ext, hext, ?_⟩
    rw [← hdd, hkl]
    refine .inl ⟨t, ver, tyLL, _, rfl, hcp.weak (fun r h1 h2 => ?_)⟩
    unfold Fr at h1
    unfold Btw
    omega
end Go.Proofs.YtkifdjjnbplghaaGreat
namespace Go.Proofs.YtkifdjjnbplghaaGreat
open Go.Av
theorem sortU_ne {els : List (List Int)} {set : List Int} (h : 1 ≤ els.length) : 1 ≤ (sortU cmpL (imgsOf els set)).length := by
  cases els with
  | nil => simp at h
  | cons p r =>
    have hm : img p set ∈ sortU cmpL (imgsOf (p :: r) set) := (sortU_mem cmpL_tot _ _).2 (by simp [imgsOf])
    exact List.length_pos_of_mem hm
theorem l25Images_ok (H : List Blk) (p : Nat) (n : Nat) (els : List (List Int)) (set : List Int) (hn : n ≤ 32) (hl : els.length ≤ 720) (ho : ∀ q ∈ els, permOk n q) (hb : asc 0 ((n : Int) - 1) set = true) (hp : H[p]? = some ⟨0, tyG, 1, [I n, ilSS els]⟩) :
    ACalls Tryz.prog f_spec_l25Images [.pc p 0 0, ilS set] H (fun r H' => r = ilSS (sortU cmpL (imgsOf els set)) ∧ H' = H) := by
  have hpa := fun (o : Nat) => pc_alive (off := o) hp
  have hpl := fun (o : Nat) => pc_ld (off := o) hp
  have hplt := (List.getElem?_eq_some_iff.1 hp).1
  refine ACalls.introB s_spec_l25Images (by simp) ?_; intro hB hA; unfold c_spec_l25Images; simp (config := { maxSteps := 1000000 }) (disch := (first | omega | (simp only [go_sem]; try omega))) only [go_sem, Nat.reduceAdd, Nat.reduceEqDiff, Nat.reduceLeDiff, Nat.reduceMul, Nat.reduceLT, reduceIte, Int.reduceToNat, w64_id, cast_succ]
  repeat (first | (with_reducible first | refine SW.seq ?_ | refine SW.block ?_ | refine SW.rowC ?_ | refine SW.skip ?_ | refine SW.exit ?_ | intro _ | refine And.intro (by omega) ?_) | simp (config := { maxSteps := 1000000 }) (disch := (first | omega | (simp only [go_sem]; try omega))) only [go_sem, Nat.reduceAdd, Nat.reduceEqDiff, Nat.reduceLeDiff, Nat.reduceMul, Nat.reduceLT, reduceIte, Int.reduceToNat, w64_id, cast_succ])
  refine SW.froz (E' := [(0, .pc p 0 0), (1, ilS set), (5, ilSS []), (6, I 0)]) hB (Nat.le_refl _) (.cons _ (.old _ (by simp [go_sem]; exact hplt)) (.cons _ (ren_ilS _) (.cons _ ?_ (.cons _ (ren_I _) .nil)))) ?_
  · exact ren_rowS (H := H ++ [(⟨0, tyLL, 1, [].map ilS⟩ : Blk)]) (k := H.length) (js := []) (r := H.length) (ver := 0) (ty := tyLL) (xs := []) (Nat.le_refl _) (by simp) (by simp)
  refine SW.loopE (fun E0 H0 q E' H' => ∃ (pre post : List (List Int)), els = pre ++ post ∧ q = post.length ∧ E' = aput (aput E0 6 (I pre.length)) 5 (ilSS (sortU cmpL (imgsOf pre set))) ∧ H' = H0) els.length ⟨[], els, rfl, rfl, rfl, rfl⟩ ?_
  rintro q E' H' ⟨pre, post, hpp, rfl, rfl, rfl⟩
  have hprl : pre.length ≤ 720 := by rw [hpp] at hl; simp at hl; omega
  have hsl := sortU_len (cf := cmpL) (imgsOf pre set)
  have hil : (imgsOf pre set).length = pre.length := by simp [imgsOf]
  simp (config := { maxSteps := 1000000 }) (disch := (first | omega | (simp only [go_sem]; try omega))) only [go_sem, Nat.reduceAdd, Nat.reduceEqDiff, Nat.reduceLeDiff, Nat.reduceMul, Nat.reduceLT, reduceIte, Int.reduceToNat, w64_id, cast_succ]
  repeat (first | (with_reducible first | refine SW.seq ?_ | refine SW.block ?_ | refine SW.rowC ?_ | refine SW.skip ?_ | refine SW.exit ?_ | intro _ | refine And.intro (by omega) ?_) | simp (config := { maxSteps := 1000000 }) (disch := (first | omega | (simp only [go_sem]; try omega))) only [go_sem, Nat.reduceAdd, Nat.reduceEqDiff, Nat.reduceLeDiff, Nat.reduceMul, Nat.reduceLT, reduceIte, Int.reduceToNat, w64_id, cast_succ, hpa, hpl])
  (first | refine SW.condD rfl (fun h2 => ?_) (fun h2 => ?_) | refine SW.condN rfl (fun h2 => ?_) (fun h2 => ?_) | refine SW.condNB rfl (fun h2 => ?_) (fun h2 => ?_) | refine SW.condB rfl (fun h2 => ?_) (fun h2 => ?_))
  · obtain ⟨y, post, rfl, hg, -⟩ := consOf (d := []) hpp (by omega)
    have him := l04Image_fn n y set (by omega) (ho y (by rw [hpp]; simp)) hb
    have hpu := l21PutList_fn (sortU cmpL (imgsOf pre set)) (img y set) (by omega)
    repeat (first | (with_reducible first | refine SW.seq ?_ | refine SW.block ?_ | refine SW.rowC ?_ | refine SW.skip ?_ | refine SW.exit ?_ | refine PFn.use (him) ?_ | refine PFn.useq (him) ?_ | refine PFn.use (hpu) ?_ | refine PFn.useq (hpu) ?_ | intro _ | refine And.intro (by omega) ?_) | simp (config := { maxSteps := 1000000 }) (disch := (first | omega | (simp only [go_sem]; try omega))) only [go_sem, Nat.reduceAdd, Nat.reduceEqDiff, Nat.reduceLeDiff, Nat.reduceMul, Nat.reduceLT, reduceIte, Int.reduceToNat, w64_id, cast_succ, hpa, hpl, hg])
    refine SLoop.next post.length (by simp) ⟨pre ++ [y], post, by simp [hpp], rfl, ?_, rfl⟩
    have e1 : imgsOf (pre ++ [y]) set = imgsOf pre set ++ [img y set] := by simp [imgsOf]
    rw [e1, sortU_snoc]; simp [go_sem]
  · obtain ⟨rfl, rfl⟩ := nilOf hpp (by omega)
    repeat (first | (with_reducible first | refine SW.seq ?_ | refine SW.block ?_ | refine SW.rowC ?_ | refine SW.skip ?_ | refine SW.exit ?_ | intro _ | refine And.intro (by omega) ?_) | simp (config := { maxSteps := 1000000 }) (disch := (first | omega | (simp only [go_sem]; try omega))) only [go_sem, Nat.reduceAdd, Nat.reduceEqDiff, Nat.reduceLeDiff, Nat.reduceMul, Nat.reduceLT, reduceIte, Int.reduceToNat, w64_id, cast_succ])
    refine SW.ret ?_; (try simp only [go_sem]); (first | refine FunPost.one ?_ | refine FunPost.two ?_ | refine FunPost.three ?_); (try simp (config := { maxSteps := 1000000 }) (disch := (first | omega | (simp only [go_sem]; try omega))) only [go_sem, Nat.reduceAdd, Nat.reduceEqDiff, Nat.reduceLeDiff, Nat.reduceMul, Nat.reduceLT, reduceIte, Int.reduceToNat, w64_id, cast_succ]); (first | (with_reducible refine GR.drop ?_ ?_; (simp only [go_sem, and_self, and_true, true_and, implies_true, List.take_succ_cons, List.take_zero])) | refine GR.of ?_); refine ⟨?_, rfl⟩; (try with_reducible rfl)
end Go.Proofs.YtkifdjjnbplghaaGreat
