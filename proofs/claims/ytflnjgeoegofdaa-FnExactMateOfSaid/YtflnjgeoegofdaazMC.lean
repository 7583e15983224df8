/- Mates: the program. -/
import Derived.Test.YtflnjgeoegofdaaProg
import Derived.KernelRfl
import Derived.Test.YtflnjgeoegofdaazMD
import Derived.Test.YtflnjgeoegofdaazVS
import Derived.Test.YtflnjgeoegofdaazK32
set_option linter.unusedSimpArgs false
set_option linter.unusedVariables false
set_option maxHeartbeats 4000000
set_option maxRecDepth 100000
namespace Go.Proofs.Ytflnjgeoegofdaa
open Go.Av
abbrev f_impl_MateOf : Nat := 7
def c_impl_MateOf : SC :=
 .seq (.reg [
     ⟨(some 4), .mv (.const (.slice none 0 0)), none⟩,
     ⟨(some 5), .mv (.const (.int .i64 0)), none⟩] [0, 1])
 (.seq (.seq (.reg [
     ⟨(some 10), .mv (.tmp 0), none⟩,
     ⟨(some 11), .call 17 [(.tmp 10)], none⟩,
     ⟨(some 12), .un .not (.tmp 11), none⟩] [0, 1, 12])
 (.cond (.tmp 12)
  (.seq (.reg [
      ⟨(some 4), .mv (.const (.slice none 0 0)), none⟩,
      ⟨(some 5), .mv (.const (.int .i64 1)), none⟩] [4, 5])
  (.ret))
  (.skip)))
 (.seq (.seq (.reg [
     ⟨(some 13), .mv (.tmp 1), none⟩,
     ⟨(some 14), .call 18 [(.tmp 13)], none⟩,
     ⟨(some 15), .un .not (.tmp 14), none⟩] [0, 1, 15])
 (.cond (.tmp 15)
  (.seq (.reg [
      ⟨(some 4), .mv (.const (.slice none 0 0)), none⟩,
      ⟨(some 5), .mv (.const (.int .i64 2)), none⟩] [4, 5])
  (.ret))
  (.skip)))
 (.seq (.reg [
     ⟨(some 16), .mv (.tmp 0), none⟩,
     ⟨(some 17), .call 19 [(.tmp 16)], none⟩,
     ⟨(some 6), .mv (.tmp 17), none⟩] [0, 1, 6])
 (.seq (.reg [
     ⟨(some 18), .mv (.tmp 1), none⟩,
     ⟨(some 19), .build [(.int .i64 0), (.bool false)] [(0, 1, (.tmp 18))], none⟩,
     ⟨(some 20), .mv (.tmp 0), none⟩,
     ⟨(some 21), .mv (.tmp 6), none⟩,
     ⟨(some 22), .call 20 [(.tmp 21), (.func 21)], none⟩,
     ⟨(some 23), .build [(.int .i64 0), (.bool false), (.slice none 0 0), (.slice none 0 0), (.slice none 0 0), (.slice none 0 0)] [(0, 2, (.tmp 19)), (2, 1, (.tmp 20)), (3, 1, (.tmp 22))], none⟩,
     ⟨(some 24), .box 47 (.tmp 23), none⟩,
     ⟨(some 7), .mv (.tmp 24), none⟩] [6, 7])
 (.seq (.seq (.reg [
     ⟨(some 25), .mv (.tmp 6), none⟩,
     ⟨(some 26), .mv (.const (.int .i64 0)), none⟩] [6, 7, 25, 26])
 (.block 0 (.loop [6, 7, 25, 26]
   (.seq (.reg [
       ⟨(some 27), .bin .lss (.tmp 26) (.tmp 25), none⟩] [6, 7, 25, 26, 27])
   (.seq (.cond (.tmp 27)
    (.skip)
    (.exit 0))
   (.seq (.block 1 (.mixU (.sem ⟨(some 28), .mv (.tmp 7), none⟩
     (.sem ⟨(some 29), .mv (.tmp 7), none⟩
     (.sem ⟨(some 30), .mv (.tmp 7), none⟩
     (.sem ⟨(some 31), .nilc (.tmp 30), none⟩
     (.sem ⟨(some 32), .faddr 4 (.tmp 31), none⟩
     (.sem ⟨(some 33), .load 1 false (.tmp 32), none⟩
     (.sem ⟨(some 34), .mv (.tmp 6), none⟩
     (.sem ⟨(some 38), .mv (.tmp 7), none⟩
     (.sem ⟨(some 39), .nilc (.tmp 38), none⟩
     (.sem ⟨(some 40), .faddr 5 (.tmp 39), none⟩
     (.sem ⟨(some 41), .load 1 false (.tmp 40), none⟩
     (.sem ⟨(some 42), .mv (.tmp 6), none⟩
     (.both (.one ⟨(some 35), .mslice 4 1 (.bool false) (.tmp 34) (.tmp 34), none⟩
      (.both (.one ⟨(some 36), .bslice 48 1 1 [(.slice none 0 0)] [(0, (.tmp 35))], none⟩
       (.both (.one ⟨(some 37), .app 48 1 24 (.tmp 33) (.tmp 36), none⟩
        (.one ⟨(some 43), .mslice 4 1 (.bool false) (.tmp 42) (.tmp 42), none⟩
        (.one ⟨(some 44), .bslice 48 1 1 [(.slice none 0 0)] [(0, (.tmp 43))], none⟩
        (.one ⟨(some 45), .app 48 1 24 (.tmp 41) (.tmp 44), none⟩
        (.one ⟨(some 46), .nilc (.tmp 28), none⟩
        (.one ⟨(some 47), .faddr 4 (.tmp 46), none⟩
        (.one ⟨none, .store 1 (.tmp 47) (.tmp 37), none⟩
        (.one ⟨(some 48), .nilc (.tmp 29), none⟩
        (.one ⟨(some 49), .faddr 5 (.tmp 48), none⟩
        (.one ⟨none, .store 1 (.tmp 49) (.tmp 45), none⟩
        (.done)))))))))))
       (.one ⟨(some 43), .mslice 4 1 (.bool false) (.tmp 42) (.tmp 42), none⟩
        (.both (.one ⟨(some 37), .app 48 1 24 (.tmp 33) (.tmp 36), none⟩
         (.one ⟨(some 44), .bslice 48 1 1 [(.slice none 0 0)] [(0, (.tmp 43))], none⟩
         (.one ⟨(some 45), .app 48 1 24 (.tmp 41) (.tmp 44), none⟩
         (.one ⟨(some 46), .nilc (.tmp 28), none⟩
         (.one ⟨(some 47), .faddr 4 (.tmp 46), none⟩
         (.one ⟨none, .store 1 (.tmp 47) (.tmp 37), none⟩
         (.one ⟨(some 48), .nilc (.tmp 29), none⟩
         (.one ⟨(some 49), .faddr 5 (.tmp 48), none⟩
         (.one ⟨none, .store 1 (.tmp 49) (.tmp 45), none⟩
         (.done))))))))))
        (.one ⟨(some 44), .bslice 48 1 1 [(.slice none 0 0)] [(0, (.tmp 43))], none⟩
         (.one ⟨(some 37), .app 48 1 24 (.tmp 33) (.tmp 36), none⟩
         (.one ⟨(some 45), .app 48 1 24 (.tmp 41) (.tmp 44), none⟩
         (.one ⟨(some 46), .nilc (.tmp 28), none⟩
         (.one ⟨(some 47), .faddr 4 (.tmp 46), none⟩
         (.one ⟨none, .store 1 (.tmp 47) (.tmp 37), none⟩
         (.one ⟨(some 48), .nilc (.tmp 29), none⟩
         (.one ⟨(some 49), .faddr 5 (.tmp 48), none⟩
         (.one ⟨none, .store 1 (.tmp 49) (.tmp 45), none⟩
         (.done))))))))))))))
      (.one ⟨(some 43), .mslice 4 1 (.bool false) (.tmp 42) (.tmp 42), none⟩
       (.both (.one ⟨(some 36), .bslice 48 1 1 [(.slice none 0 0)] [(0, (.tmp 35))], none⟩
        (.both (.one ⟨(some 37), .app 48 1 24 (.tmp 33) (.tmp 36), none⟩
         (.one ⟨(some 44), .bslice 48 1 1 [(.slice none 0 0)] [(0, (.tmp 43))], none⟩
         (.one ⟨(some 45), .app 48 1 24 (.tmp 41) (.tmp 44), none⟩
         (.one ⟨(some 46), .nilc (.tmp 28), none⟩
         (.one ⟨(some 47), .faddr 4 (.tmp 46), none⟩
         (.one ⟨none, .store 1 (.tmp 47) (.tmp 37), none⟩
         (.one ⟨(some 48), .nilc (.tmp 29), none⟩
         (.one ⟨(some 49), .faddr 5 (.tmp 48), none⟩
         (.one ⟨none, .store 1 (.tmp 49) (.tmp 45), none⟩
         (.done))))))))))
        (.one ⟨(some 44), .bslice 48 1 1 [(.slice none 0 0)] [(0, (.tmp 43))], none⟩
         (.one ⟨(some 37), .app 48 1 24 (.tmp 33) (.tmp 36), none⟩
         (.one ⟨(some 45), .app 48 1 24 (.tmp 41) (.tmp 44), none⟩
         (.one ⟨(some 46), .nilc (.tmp 28), none⟩
         (.one ⟨(some 47), .faddr 4 (.tmp 46), none⟩
         (.one ⟨none, .store 1 (.tmp 47) (.tmp 37), none⟩
         (.one ⟨(some 48), .nilc (.tmp 29), none⟩
         (.one ⟨(some 49), .faddr 5 (.tmp 48), none⟩
         (.one ⟨none, .store 1 (.tmp 49) (.tmp 45), none⟩
         (.done))))))))))))
       (.one ⟨(some 44), .bslice 48 1 1 [(.slice none 0 0)] [(0, (.tmp 43))], none⟩
        (.one ⟨(some 36), .bslice 48 1 1 [(.slice none 0 0)] [(0, (.tmp 35))], none⟩
        (.one ⟨(some 37), .app 48 1 24 (.tmp 33) (.tmp 36), none⟩
        (.one ⟨(some 45), .app 48 1 24 (.tmp 41) (.tmp 44), none⟩
        (.one ⟨(some 46), .nilc (.tmp 28), none⟩
        (.one ⟨(some 47), .faddr 4 (.tmp 46), none⟩
        (.one ⟨none, .store 1 (.tmp 47) (.tmp 37), none⟩
        (.one ⟨(some 48), .nilc (.tmp 29), none⟩
        (.one ⟨(some 49), .faddr 5 (.tmp 48), none⟩
        (.one ⟨none, .store 1 (.tmp 49) (.tmp 45), none⟩
        (.done)))))))))))))))
     (.one ⟨(some 43), .mslice 4 1 (.bool false) (.tmp 42) (.tmp 42), none⟩
      (.both (.one ⟨(some 35), .mslice 4 1 (.bool false) (.tmp 34) (.tmp 34), none⟩
       (.both (.one ⟨(some 36), .bslice 48 1 1 [(.slice none 0 0)] [(0, (.tmp 35))], none⟩
        (.both (.one ⟨(some 37), .app 48 1 24 (.tmp 33) (.tmp 36), none⟩
         (.one ⟨(some 44), .bslice 48 1 1 [(.slice none 0 0)] [(0, (.tmp 43))], none⟩
         (.one ⟨(some 45), .app 48 1 24 (.tmp 41) (.tmp 44), none⟩
         (.one ⟨(some 46), .nilc (.tmp 28), none⟩
         (.one ⟨(some 47), .faddr 4 (.tmp 46), none⟩
         (.one ⟨none, .store 1 (.tmp 47) (.tmp 37), none⟩
         (.one ⟨(some 48), .nilc (.tmp 29), none⟩
         (.one ⟨(some 49), .faddr 5 (.tmp 48), none⟩
         (.one ⟨none, .store 1 (.tmp 49) (.tmp 45), none⟩
         (.done))))))))))
        (.one ⟨(some 44), .bslice 48 1 1 [(.slice none 0 0)] [(0, (.tmp 43))], none⟩
         (.one ⟨(some 37), .app 48 1 24 (.tmp 33) (.tmp 36), none⟩
         (.one ⟨(some 45), .app 48 1 24 (.tmp 41) (.tmp 44), none⟩
         (.one ⟨(some 46), .nilc (.tmp 28), none⟩
         (.one ⟨(some 47), .faddr 4 (.tmp 46), none⟩
         (.one ⟨none, .store 1 (.tmp 47) (.tmp 37), none⟩
         (.one ⟨(some 48), .nilc (.tmp 29), none⟩
         (.one ⟨(some 49), .faddr 5 (.tmp 48), none⟩
         (.one ⟨none, .store 1 (.tmp 49) (.tmp 45), none⟩
         (.done))))))))))))
       (.one ⟨(some 44), .bslice 48 1 1 [(.slice none 0 0)] [(0, (.tmp 43))], none⟩
        (.one ⟨(some 36), .bslice 48 1 1 [(.slice none 0 0)] [(0, (.tmp 35))], none⟩
        (.one ⟨(some 37), .app 48 1 24 (.tmp 33) (.tmp 36), none⟩
        (.one ⟨(some 45), .app 48 1 24 (.tmp 41) (.tmp 44), none⟩
        (.one ⟨(some 46), .nilc (.tmp 28), none⟩
        (.one ⟨(some 47), .faddr 4 (.tmp 46), none⟩
        (.one ⟨none, .store 1 (.tmp 47) (.tmp 37), none⟩
        (.one ⟨(some 48), .nilc (.tmp 29), none⟩
        (.one ⟨(some 49), .faddr 5 (.tmp 48), none⟩
        (.one ⟨none, .store 1 (.tmp 49) (.tmp 45), none⟩
        (.done)))))))))))))
      (.one ⟨(some 44), .bslice 48 1 1 [(.slice none 0 0)] [(0, (.tmp 43))], none⟩
       (.one ⟨(some 35), .mslice 4 1 (.bool false) (.tmp 34) (.tmp 34), none⟩
       (.one ⟨(some 36), .bslice 48 1 1 [(.slice none 0 0)] [(0, (.tmp 35))], none⟩
       (.one ⟨(some 37), .app 48 1 24 (.tmp 33) (.tmp 36), none⟩
       (.one ⟨(some 45), .app 48 1 24 (.tmp 41) (.tmp 44), none⟩
       (.one ⟨(some 46), .nilc (.tmp 28), none⟩
       (.one ⟨(some 47), .faddr 4 (.tmp 46), none⟩
       (.one ⟨none, .store 1 (.tmp 47) (.tmp 37), none⟩
       (.one ⟨(some 48), .nilc (.tmp 29), none⟩
       (.one ⟨(some 49), .faddr 5 (.tmp 48), none⟩
       (.one ⟨none, .store 1 (.tmp 49) (.tmp 45), none⟩
       (.done))))))))))))))))))))))))))) [6, 7, 25, 26]))
   (.reg [
       ⟨(some 50), .bin .add (.tmp 26) (.const (.int .i64 1)), none⟩,
       ⟨(some 26), .mv (.tmp 50), none⟩] [6, 7, 25, 26])))))))
 (.seq (.seq (.reg [
     ⟨(some 8), .mv (.const (.int .i64 0)), none⟩] [6, 7, 8])
 (.block 2 (.loop [6, 7, 8]
   (.seq (.seq (.reg [
       ⟨(some 51), .mv (.tmp 8), none⟩,
       ⟨(some 52), .mv (.tmp 6), none⟩,
       ⟨(some 53), .bin .lss (.tmp 51) (.tmp 52), none⟩] [6, 7, 8, 53])
   (.cond (.tmp 53)
    (.skip)
    (.exit 2)))
   (.seq (.block 3 (.reg [
        ⟨(some 56), .mv (.tmp 7), none⟩,
        ⟨(some 57), .mv (.tmp 8), none⟩,
        ⟨(some 58), .mv (.tmp 8), none⟩,
        ⟨(some 59), .call 22 [(.tmp 56), (.tmp 57), (.const (.int .i64 0)), (.tmp 58), (.const (.bool true))], none⟩] [6, 7, 8]))
   (.reg [
       ⟨(some 54), .mv (.tmp 8), none⟩,
       ⟨(some 55), .bin .add (.tmp 54) (.const (.int .i64 1)), none⟩,
       ⟨(some 8), .mv (.tmp 55), none⟩] [6, 7, 8]))))))
 (.seq (.seq (.reg [
     ⟨(some 60), .mv (.tmp 7), none⟩,
     ⟨(some 61), .call 23 [(.tmp 60), (.const (.int .i64 0)), (.const (.int .i64 1))], none⟩,
     ⟨(some 9), .mv (.tmp 61), none⟩] [7, 9])
 (.block 4 (.seq (.reg [
      ⟨(some 63), .mv (.tmp 9), none⟩,
      ⟨(some 62), .mv (.tmp 63), none⟩] [7, 62])
  (.cond (.tmp 62)
   (.seq (.reg [
       ⟨(some 64), .mv (.tmp 7), none⟩,
       ⟨(some 65), .nilc (.tmp 64), none⟩,
       ⟨(some 66), .faddr 3 (.tmp 65), none⟩,
       ⟨(some 67), .load 1 false (.tmp 66), none⟩,
       ⟨(some 4), .mv (.tmp 67), none⟩,
       ⟨(some 5), .mv (.const (.int .i64 0)), none⟩] [4, 5])
   (.ret))
   (.seq (.reg [
       ⟨(some 69), .mv (.tmp 7), none⟩,
       ⟨(some 70), .nilc (.tmp 69), none⟩,
       ⟨(some 71), .faddr 0 (.tmp 70), none⟩,
       ⟨(some 72), .faddr 1 (.tmp 71), none⟩,
       ⟨(some 73), .load 1 false (.tmp 72), none⟩,
       ⟨(some 68), .mv (.tmp 73), none⟩] [68])
   (.cond (.tmp 68)
    (.seq (.reg [
        ⟨(some 4), .mv (.const (.slice none 0 0)), none⟩,
        ⟨(some 5), .mv (.const (.int .i64 5)), none⟩] [4, 5])
    (.ret))
    (.skip)))))))
 (.seq (.reg [
     ⟨(some 4), .mv (.const (.slice none 0 0)), none⟩,
     ⟨(some 5), .mv (.const (.int .i64 3)), none⟩] [4, 5])
 (.ret)))))))))
theorem s_impl_MateOf : stripF Try.prog 7 [[0, 1], [0, 1, 12], [4, 5], [0, 1, 15], [4, 5], [0, 1, 6], [6, 7], [6, 7, 25, 26], [6, 7, 25, 26], [6, 7, 25, 26, 27], [6, 7, 25, 26, 1005000], [6, 7, 25, 26], [6, 7, 8], [6, 7, 8], [6, 7, 8, 53], [6, 7, 8], [6, 7, 8], [7, 9], [7, 62], [4, 5], [68], [4, 5], [4, 5]] = some (c_impl_MateOf, [.tmp 4, .tmp 5], 74) := by kernel_rfl
abbrev f_impl_MateOf_c1 : Nat := 21
def c_impl_MateOf_c1 : SC :=
 .seq (.reg [
     ⟨(some 4), .mv (.const (.int .i64 0)), none⟩] [])
 (.seq (.reg [
     ⟨(some 4), .mv (.const (.int .i64 (-1))), none⟩] [4])
 (.ret))
theorem s_impl_MateOf_c1 : stripF Try.prog 21 [[], [4]] = some (c_impl_MateOf_c1, [.tmp 4], 5) := by kernel_rfl
def topM (n j : Nat) : List (List Int) := (List.range j).foldl (fun b (k : Nat) => setC b 0 k (k : Int)) (List.replicate n (List.replicate n (-1)))
theorem topM_succ (n j : Nat) : topM n (j + 1) = setC (topM n j) 0 j (j : Int) := by unfold topM; rw [List.range_succ, List.foldl_append]; rfl
theorem topM_ok {n : Nat} : ∀ j, (topM n j).length = n ∧ ∀ r ∈ topM n j, r.length = n
  | 0 => ⟨by simp [topM], fun r hr => by
    rw [List.eq_of_mem_replicate (show r ∈ List.replicate n (List.replicate n (-1)) from hr)]; simp⟩
  | j + 1 => by rw [topM_succ]; exact setC_ok (topM_ok j)
theorem topM_get {n : Nat} (h1 : 1 ≤ n) : ∀ j, j ≤ n → ∀ i y, i < n → y < n → cellAt (topM n j) i y = if i = 0 ∧ y < j then (y : Int) else -1
  | 0, _, i, y, hi, hy => by
    rw [if_neg (by omega)]
    unfold cellAt
    rw [getD_get (show i < (topM n 0).length by rw [(topM_ok 0).1]; exact hi)]
    have : (topM n 0)[i]'(by rw [(topM_ok 0).1]; exact hi) = List.replicate n (-1) := by simp [topM]
    rw [this, getD_get (by simpa using hy)]; simp
  | j + 1, hj, i, y, hi, hy => by
    rw [topM_succ, cellAt_setC (topM_ok j) (by omega) (by omega)]
    split
    · rename_i h
      rw [if_pos (by omega)]; omega
    · rename_i h
      rw [topM_get h1 j (by omega) i y hi hy]
      by_cases h2 : i = 0 ∧ y < j
      · rw [if_pos h2, if_pos (by omega)]
      · rw [if_neg h2, if_neg (by omega)]
theorem topM_bok {n : Nat} (h1 : 1 ≤ n) : BOk (topM n n) n 0 1 :=
  ⟨topM_ok n, fun j hj => by rw [topM_get h1 n (Nat.le_refl _) 0 j (by omega) hj, if_pos ⟨rfl, hj⟩], fun i j g1 g2 g3 => .inl (by rw [topM_get h1 n (Nat.le_refl _) i j g2 g3, if_neg (by omega)])⟩
def mtS (a : List (List Int)) (b : Nat) : MS := matR a a.length (a.length * (a.length - 1)) (topM a.length a.length) ⟨b, false, none⟩
def mtV (a : List (List Int)) (b : Int) : List (List Int) × Int :=
  if !latB a then ([], 1) else if !(decide (1 ≤ b) && decide (b ≤ 20000)) then ([], 2) else
    match (mtS a b.toNat).res with
    | some q => (q, 0)
    | none => if (mtS a b.toNat).spent then ([], 5) else ([], 3)
theorem colsM_zero (n : Nat) (h1 : 1 ≤ n) : colsM (topM n 0) n = List.replicate n (List.replicate n false) := by
  unfold colsM tabB
  refine List.ext_getElem? fun i => ?_
  rw [List.getElem?_map, List.getElem?_replicate]
  by_cases hi : i < n
  · rw [List.getElem?_range hi, if_pos hi]
    simp only [Option.map_some, Option.some.injEq]
    refine List.ext_getElem? fun j => ?_
    rw [List.getElem?_map, List.getElem?_replicate]
    by_cases hj : j < n
    · rw [List.getElem?_range hj, if_pos hj]
      simp only [Option.map_some, Option.some.injEq]
      unfold colM
      rw [List.any_eq_false]
      intro x hx
      rw [topM_get h1 0 (by omega) x j (List.mem_range.1 hx) hj, if_neg (by omega)]
      simp
    · rw [List.getElem?_eq_none (by simp; omega), if_neg hj]; rfl
  · rw [List.getElem?_eq_none (by simp; omega), if_neg hi]; rfl
theorem symsM_zero (a : List (List Int)) (n : Nat) (h1 : 1 ≤ n) : symsM a (topM n 0) n = List.replicate n (List.replicate n false) := by
  unfold symsM tabB
  refine List.ext_getElem? fun i => ?_
  rw [List.getElem?_map, List.getElem?_replicate]
  by_cases hi : i < n
  · rw [List.getElem?_range hi, if_pos hi]
    simp only [Option.map_some, Option.some.injEq]
    refine List.ext_getElem? fun j => ?_
    rw [List.getElem?_map, List.getElem?_replicate]
    by_cases hj : j < n
    · rw [List.getElem?_range hj, if_pos hj]
      simp only [Option.map_some, Option.some.injEq]
      unfold symM
      rw [List.any_eq_false]
      intro x hx
      rw [Bool.not_eq_true, List.any_eq_false]
      intro z hz
      rw [topM_get h1 0 (by omega) x z (List.mem_range.1 hx) (List.mem_range.1 hz), if_neg (by omega)]
      simp
    · rw [List.getElem?_eq_none (by simp; omega), if_neg hj]; rfl
  · rw [List.getElem?_eq_none (by simp; omega), if_neg hi]; rfl
theorem swpU_semI {P : Program} {S : List Blk → Prop} {d : Option Nat} {op : SO} {tt : SU} {E : Env} {H : List Blk} {K : Env → List Blk → Prop} {v : AV} (h1 : ∀ H', S H' → swpOp P op (ev (aget E)) H' (OKs v H')) (h2 : swpU P S tt (aputO E d v) H K) : swpU P S (.sem ⟨d, op, none⟩ tt) E H K := by
  rw [swpU_sem]; exact ⟨v, h1, h2⟩
theorem maOne_ok (H : List Blk) (a : List (List Int)) (N : MaN) (b : List (List Int)) (C S : List (List Bool)) (left : Nat) (spent : Bool) (h : MaH H N 1 a b C S left spent) (hla : a.length = 1) :
    ACalls Try.prog f_impl_mates_search [.pc N.p 0 0, I 0, I 1] H (fun v H' => v = Bv true ∧ H' = H) := by
  have hpa := fun o => pc_alive (off := o) h.box
  have hpl := fun o => pc_ld (off := o) h.box
  refine ACalls.introB s_impl_mates_search (by simp) ?_; intro hB hA; unfold c_impl_mates_search; simp (config := { maxSteps := 1000000 }) (disch := (first | omega | (simp only [go_sem]; try omega))) only [go_sem, Nat.reduceAdd, Nat.reduceEqDiff, Nat.reduceLeDiff, Nat.reduceMul, Nat.reduceLT, reduceIte, Int.reduceToNat, w64_id, cast_succ]
  repeat (first | (with_reducible first | refine SW.seq ?_ | refine SW.block ?_ | refine SW.rowC ?_ | refine SW.skip ?_ | refine SW.exit ?_ | intro _ | refine And.intro (by omega) ?_) | simp (config := { maxSteps := 1000000 }) (disch := (first | omega | (simp only [go_sem]; try omega))) only [go_sem, Nat.reduceAdd, Nat.reduceEqDiff, Nat.reduceLeDiff, Nat.reduceMul, Nat.reduceLT, reduceIte, Int.reduceToNat, w64_id, cast_succ, hpa, hpl, hla])
  refine ((sizeS_fn a) H).mono ?_
  rintro v H ⟨rfl, rfl⟩
  rw [hla]
  repeat (first | (with_reducible first | refine SW.seq ?_ | refine SW.block ?_ | refine SW.rowC ?_ | refine SW.skip ?_ | refine SW.exit ?_ | intro _ | refine And.intro (by omega) ?_) | simp (config := { maxSteps := 1000000 }) (disch := (first | omega | (simp only [go_sem]; try omega))) only [go_sem, Nat.reduceAdd, Nat.reduceEqDiff, Nat.reduceLeDiff, Nat.reduceMul, Nat.reduceLT, reduceIte, Int.reduceToNat, w64_id, cast_succ, hpa, hpl])
  refine SW.condT rfl ?_
  have e1 : decide ((0 : Int) + 1 = ((1 : Nat) : Int)) = true := rfl
  repeat (first | (with_reducible first | refine SW.seq ?_ | refine SW.block ?_ | refine SW.rowC ?_ | refine SW.skip ?_ | refine SW.exit ?_ | intro _ | refine And.intro (by omega) ?_) | simp (config := { maxSteps := 1000000 }) (disch := (first | omega | (simp only [go_sem]; try omega))) only [go_sem, Nat.reduceAdd, Nat.reduceEqDiff, Nat.reduceLeDiff, Nat.reduceMul, Nat.reduceLT, reduceIte, Int.reduceToNat, w64_id, cast_succ, hpa, hpl, e1])
  refine SW.condT rfl ?_
  repeat (first | (with_reducible first | refine SW.seq ?_ | refine SW.block ?_ | refine SW.rowC ?_ | refine SW.skip ?_ | refine SW.exit ?_ | intro _ | refine And.intro (by omega) ?_) | simp (config := { maxSteps := 1000000 }) (disch := (first | omega | (simp only [go_sem]; try omega))) only [go_sem, Nat.reduceAdd, Nat.reduceEqDiff, Nat.reduceLeDiff, Nat.reduceMul, Nat.reduceLT, reduceIte, Int.reduceToNat, w64_id, cast_succ])
  refine SW.ret ?_; (try simp only [go_sem]); (first | refine FunPost.one ?_ | refine FunPost.two ?_ | refine FunPost.three ?_); (try simp (config := { maxSteps := 1000000 }) (disch := (first | omega | (simp only [go_sem]; try omega))) only [go_sem, Nat.reduceAdd, Nat.reduceEqDiff, Nat.reduceLeDiff, Nat.reduceMul, Nat.reduceLT, reduceIte, Int.reduceToNat, w64_id, cast_succ])
  exact GR.of ⟨rfl, rfl⟩
theorem MateOf_c1_fn (x y : Int) : PFn Try.prog f_impl_MateOf_c1 [I x, I y] (I (-1)) := by
  intro H; refine ACalls.introB s_impl_MateOf_c1 (by simp) ?_; intro hB hA; unfold c_impl_MateOf_c1; simp (config := { maxSteps := 1000000 }) (disch := (first | omega | (simp only [go_sem]; try omega))) only [go_sem, Nat.reduceAdd, Nat.reduceEqDiff, Nat.reduceLeDiff, Nat.reduceMul, Nat.reduceLT, reduceIte, Int.reduceToNat, w64_id, cast_succ]
  repeat (first | (with_reducible first | refine SW.seq ?_ | refine SW.block ?_ | refine SW.rowC ?_ | refine SW.skip ?_ | refine SW.exit ?_ | intro _ | refine And.intro (by omega) ?_) | simp (config := { maxSteps := 1000000 }) (disch := (first | omega | (simp only [go_sem]; try omega))) only [go_sem, Nat.reduceAdd, Nat.reduceEqDiff, Nat.reduceLeDiff, Nat.reduceMul, Nat.reduceLT, reduceIte, Int.reduceToNat, w64_id, cast_succ])
  refine SW.ret ?_; (try simp only [go_sem]); (first | refine FunPost.one ?_ | refine FunPost.two ?_ | refine FunPost.three ?_); (try simp (config := { maxSteps := 1000000 }) (disch := (first | omega | (simp only [go_sem]; try omega))) only [go_sem, Nat.reduceAdd, Nat.reduceEqDiff, Nat.reduceLeDiff, Nat.reduceMul, Nat.reduceLT, reduceIte, Int.reduceToNat, w64_id, cast_succ]); (first | (with_reducible refine GR.drop ?_ ?_; (simp only [go_sem, and_self, and_true, true_and, implies_true, List.take_succ_cons, List.take_zero])) | refine GR.of ?_); refine ⟨?_, rfl⟩; (try with_reducible rfl)
theorem sqF_top (n : Nat) : sqF n (fun _ _ => -1) n = topM n 0 := by
  unfold topM sqF tab
  simp [List.map_const']
theorem MaP.done {X X0 H bs : List Blk} {a : List (List Int)} {n p b : Nat} {vc vs : AV} {rc rs : List Nat} (h1 : 1 ≤ n) (hX0 : X0 = H ++ (sqB n n H.length (sqF n (fun _ _ => -1) n) ++ bs)) (hp : p = H.length + (sqB n n H.length (sqF n (fun _ _ => -1) n)).length)
    (hM : MaP X0 X (p + 1) p n (I b) (Bv false) (ilSS a) (.nm H.length n 0 n) vc vs rc rs) (hc : rc.length = n) (hs : rs.length = n) :
    ∃ N : MaN, N.p = p ∧ N.tb = H.length ∧ N.vb = n ∧ MaH X N n a (topM n 0) (colsM (topM n 0) n) (symsM a (topM n 0) n) b false ∧ ∀ j ∈ N.foot, H.length ≤ j := by
  have hq := sqB_length n n H.length (sqF n (fun _ _ => -1) n)
  rw [sqF_length] at hq
  have hpn : p = H.length + (n + 1) := by omega
  have hc0 : rc ≠ [] := by rintro rfl; simp at hc; omega
  have hs0 : rs ≠ [] := by rintro rfl; simp at hs; omega
  rcases hM.gc with ⟨e, -⟩ | ⟨tc, wc, rfl, lc, gc⟩
  · exact absurd e hc0
  rcases hM.gs with ⟨e, -⟩ | ⟨ts, ws, rfl, ls, gs⟩
  · exact absurd e hs0
  have old : ∀ j, j < p → X[j]? = X0[j]? := fun j hj => hM.fr j (by omega) (by omega)
  have rowc : ∀ r ∈ rc ++ rs, p + 1 ≤ r ∧ X[r]? = some (rowF n) := hM.row
  have notT : ∀ t ver cells, X[t]? = some ⟨ver, tyBT, 1, cells⟩ → t ∉ rc ++ rs := fun t ver cells ht hr => by
    have := (rowc t hr).2
    rw [ht] at this
    have e : (48 : Nat) = 4 := congrArg Blk.ty (Option.some.inj this)
    exact absurd e (by decide)
  have nrc := notT _ _ _ gc
  have nrs := notT _ _ _ gs
  have hcs : tc ≠ ts := fun e => hM.ne tc rfl (by rw [e]; rfl)
  have repl : ∀ i, i < n → ((List.replicate n (List.replicate n false)).getD i []).map Bv = (List.replicate n false).map Bv := fun i hi => by
    rw [getD_get (by simpa using hi)]; simp
  have grow : ∀ (t ver : Nat) (rr : List Nat), rr.length = n → X[t]? = some ⟨ver, tyBT, 1, rr.map fun r => AV.nm r 0 0 n⟩ → (∀ r ∈ rr, r ∈ rc ++ rs) → GrV Bv 48 4 X t ver 0 n rr (List.replicate n (List.replicate n false)) := fun t ver rr hl ht hr => by
    refine ⟨ht, ⟨hl, by simp, fun r hr => by rw [List.eq_of_mem_replicate hr]; simp⟩, fun i r hi => ?_⟩
    have hil := (List.getElem?_eq_some_iff.1 hi).1
    rw [repl i (by omega)]
    exact (rowc r (hr r (List.mem_of_getElem? hi))).2
  refine ⟨⟨p, H.length, n, n, tc, wc, 0, ts, ws, 0, (List.range n).map fun i => H.length + 1 + i, rc, rs⟩, rfl, rfl, rfl, ⟨?_, ?_, ?_, ?_, ?_⟩, ?_⟩
  · show (p :: H.length :: tc :: ts :: ((List.range n).map (fun i => H.length + 1 + i) ++ (rc ++ rs))).Nodup
    have hb : ∀ r ∈ (List.range n).map (fun i => H.length + 1 + i), H.length < r ∧ r < p := fun r hr => by
      obtain ⟨i, hi, h⟩ := List.mem_map.1 hr
      have := List.mem_range.1 hi
      (try simp only at h)
      omega
    have hcr : ∀ r ∈ rc ++ rs, p + 1 ≤ r := fun r hr => (rowc r hr).1
    refine List.nodup_cons.2 ⟨fun h => ?_, List.nodup_cons.2 ⟨fun h => ?_, List.nodup_cons.2 ⟨fun h => ?_, List.nodup_cons.2 ⟨fun h => ?_, ?_⟩⟩⟩⟩
    · simp only [List.mem_cons] at h
      rcases h with h | h | h | h
      · omega
      · omega
      · omega
      · rcases List.mem_append.1 h with h | h
        · have := hb _ h; omega
        · have := hcr _ h; omega
    · simp only [List.mem_cons] at h
      rcases h with h | h | h
      · omega
      · omega
      · rcases List.mem_append.1 h with h | h
        · have := hb _ h; omega
        · have := hcr _ h; omega
    · simp only [List.mem_cons] at h
      rcases h with h | h
      · exact hcs h
      · rcases List.mem_append.1 h with h | h
        · have := hb _ h; omega
        · exact nrc h
    · rcases List.mem_append.1 h with h | h
      · have := hb _ h; omega
      · exact nrs h
    · rw [List.nodup_append]
      refine ⟨?_, hM.nd, fun x hx y hy => by have := hb _ hx; have := hcr _ hy; omega⟩
      unfold List.Nodup
      rw [List.pairwise_map]
      exact List.Pairwise.imp (fun h e => h (by omega)) List.nodup_range
  · rw [← hc] at *
    exact (hs.trans hc.symm ▸ hM.box)
  · rw [← sqF_top]
    refine ⟨?_, ⟨by simp, sqF_length _ _ _, fun r hr => ?_⟩, fun i r hi => ?_⟩
    · show X[H.length]? = _
      rw [old H.length (by omega), hX0, sq_get0]
      congr 2
      refine List.ext_getElem? fun i => ?_
      rw [nmsV_get, List.getElem?_map, List.getElem?_map]
      by_cases hi : i < n
      · rw [List.getElem?_eq_getElem (by rw [sqF_length]; exact hi), List.getElem?_range hi]
        simp [sqF, tab]
      · rw [List.getElem?_eq_none (by rw [sqF_length]; omega), List.getElem?_eq_none (by simp; omega)]; rfl
    · obtain ⟨x, _, rfl⟩ := List.mem_map.1 hr
      simp [tab]
    · have hil := (List.getElem?_eq_some_iff.1 hi).1
      simp only [List.length_map, List.length_range] at hil
      rw [List.getElem?_map, List.getElem?_range hil] at hi
      cases hi
      show X[H.length + 1 + i]? = _
      rw [old (H.length + 1 + i) (by omega), hX0, sq_get (by rw [sqF_length]; exact hil)]
  · rw [colsM_zero n h1]
    exact grow tc wc rc hc gc (fun r hr => List.mem_append_left _ hr)
  · rw [symsM_zero a n h1]
    exact grow ts ws rs hs gs (fun r hr => List.mem_append_right _ hr)
  · show ∀ j ∈ p :: H.length :: tc :: ts :: ((List.range n).map (fun i => H.length + 1 + i) ++ (rc ++ rs)), H.length ≤ j
    intro j hj
    simp only [List.mem_cons] at hj
    rcases hj with h | h | h | h | h
    · omega
    · omega
    · omega
    · omega
    · rcases List.mem_append.1 h with h | h
      · obtain ⟨i, _, h⟩ := List.mem_map.1 h
        (try simp only at h); omega
      · have := (rowc _ h).1; omega
theorem GrV.own {tyO tyR : Nat} {H : List Blk} {b t ver rv n : Nat} {rs : List Nat} {xss : List (List Int)} (h : GrV I tyO tyR H t ver rv n rs xss) (hnd : (t :: rs).Nodup) (hN : ∀ j ∈ t :: rs, b ≤ j) : OwnSS H (Btw b H.length) (.nm t ver 0 n) xss := by
  have lt : ∀ {j : Nat} {k : Blk}, H[j]? = some k → j < H.length := fun hj => (List.getElem?_eq_some_iff.1 hj).1
  rw [List.nodup_cons] at hnd
  refine .inl ⟨t, ver, tyO, _, by rw [h.len.2.1], ⟨hN t (by simp), lt h.top⟩, h.top, by rw [List.length_map, h.len.1, h.len.2.1], fun i c xs hc hx => ?_, fun i j r v o l v' o' l' hij h1 h2 => ?_⟩
  · rw [List.getElem?_map] at hc
    cases hr : rs[i]? with
    | none => rw [hr] at hc; cases hc
    | some r =>
      rw [hr] at hc
      cases hc
      have hrm := List.mem_of_getElem? hr
      have hrow := h.rows i r hr
      have hxe : xss.getD i [] = xs := by rw [List.getD_eq_getElem?_getD, hx]; rfl
      rw [hxe] at hrow
      have hxl : xs.length = n := h.len.2.2 xs (List.mem_of_getElem? hx)
      exact .inl ⟨r, rv, tyR, by rw [hxl], ⟨hN r (by simp [hrm]), lt hrow⟩, fun e => hnd.1 (e ▸ hrm), hrow⟩
  · rw [List.getElem?_map] at h1 h2
    cases hr : rs[i]? with
    | none => rw [hr] at h1; cases h1
    | some r1 =>
      cases hr2 : rs[j]? with
      | none => rw [hr2] at h2; cases h2
      | some r2 =>
        rw [hr] at h1
        rw [hr2] at h2
        cases h1; cases h2
        obtain ⟨l1, e1⟩ := List.getElem?_eq_some_iff.1 hr
        obtain ⟨l2, e2⟩ := List.getElem?_eq_some_iff.1 hr2
        exact hij ((List.getElem_inj hnd.2).1 (e1.trans e2.symm))
theorem implMate_fss (a : List (List Int)) (b : Int) (hl : ∀ x ∈ a, x.length ≤ 2000000) : FSS Try.prog f_impl_MateOf [ilSS a, I b] (mtV a b).1 (mtV a b).2 := by
  intro H
  have hv := ValidSquare_fn a hl
  refine ACalls.introB s_impl_MateOf (by simp) ?_; intro hB hA; unfold c_impl_MateOf; simp (config := { maxSteps := 1000000 }) (disch := (first | omega | (simp only [go_sem]; try omega))) only [go_sem, Nat.reduceAdd, Nat.reduceEqDiff, Nat.reduceLeDiff, Nat.reduceMul, Nat.reduceLT, reduceIte, Int.reduceToNat, w64_id, cast_succ]
  repeat (first | (with_reducible first | refine SW.seq ?_ | refine SW.block ?_ | refine SW.rowC ?_ | refine SW.skip ?_ | refine SW.exit ?_ | refine PFn.use (hv) ?_ | refine PFn.useq (hv) ?_ | intro _ | refine And.intro (by omega) ?_) | simp (config := { maxSteps := 1000000 }) (disch := (first | omega | (simp only [go_sem]; try omega))) only [go_sem, Nat.reduceAdd, Nat.reduceEqDiff, Nat.reduceLeDiff, Nat.reduceMul, Nat.reduceLT, reduceIte, Int.reduceToNat, w64_id, cast_succ])
  (first | refine SW.condD rfl (fun h => ?_) (fun h => ?_) | refine SW.condN rfl (fun h => ?_) (fun h => ?_) | refine SW.condNB rfl (fun h => ?_) (fun h => ?_) | refine SW.condB rfl (fun h => ?_) (fun h => ?_))
  · rw [mtV, h]
    repeat (first | (with_reducible first | refine SW.seq ?_ | refine SW.block ?_ | refine SW.rowC ?_ | refine SW.skip ?_ | refine SW.exit ?_ | intro _ | refine And.intro (by omega) ?_) | simp (config := { maxSteps := 1000000 }) (disch := (first | omega | (simp only [go_sem]; try omega))) only [go_sem, Nat.reduceAdd, Nat.reduceEqDiff, Nat.reduceLeDiff, Nat.reduceMul, Nat.reduceLT, reduceIte, Int.reduceToNat, w64_id, cast_succ])
    refine SW.ret ?_; (try simp only [go_sem]); (first | refine FunPost.one ?_ | refine FunPost.two ?_ | refine FunPost.three ?_); (try simp (config := { maxSteps := 1000000 }) (disch := (first | omega | (simp only [go_sem]; try omega))) only [go_sem, Nat.reduceAdd, Nat.reduceEqDiff, Nat.reduceLeDiff, Nat.reduceMul, Nat.reduceLT, reduceIte, Int.reduceToNat, w64_id, cast_succ])
    exact GR.of nilFSS0
  have hf := latB_facts h
  rw [mtV, h]
  have ib := isBudget_fn b
  cases h1 : (decide (1 ≤ b) && decide (b ≤ 20000))
  · rw [h1] at ib
    repeat (first | (with_reducible first | refine SW.seq ?_ | refine SW.block ?_ | refine SW.rowC ?_ | refine SW.skip ?_ | refine SW.exit ?_ | refine PFn.use (ib) ?_ | refine PFn.useq (ib) ?_ | intro _ | refine And.intro (by omega) ?_) | simp (config := { maxSteps := 1000000 }) (disch := (first | omega | (simp only [go_sem]; try omega))) only [go_sem, Nat.reduceAdd, Nat.reduceEqDiff, Nat.reduceLeDiff, Nat.reduceMul, Nat.reduceLT, reduceIte, Int.reduceToNat, w64_id, cast_succ])
    refine SW.condT rfl ?_
    repeat (first | (with_reducible first | refine SW.seq ?_ | refine SW.block ?_ | refine SW.rowC ?_ | refine SW.skip ?_ | refine SW.exit ?_ | intro _ | refine And.intro (by omega) ?_) | simp (config := { maxSteps := 1000000 }) (disch := (first | omega | (simp only [go_sem]; try omega))) only [go_sem, Nat.reduceAdd, Nat.reduceEqDiff, Nat.reduceLeDiff, Nat.reduceMul, Nat.reduceLT, reduceIte, Int.reduceToNat, w64_id, cast_succ])
    refine SW.ret ?_; (try simp only [go_sem]); (first | refine FunPost.one ?_ | refine FunPost.two ?_ | refine FunPost.three ?_); (try simp (config := { maxSteps := 1000000 }) (disch := (first | omega | (simp only [go_sem]; try omega))) only [go_sem, Nat.reduceAdd, Nat.reduceEqDiff, Nat.reduceLeDiff, Nat.reduceMul, Nat.reduceLT, reduceIte, Int.reduceToNat, w64_id, cast_succ])
    exact GR.of nilFSS0
  rw [h1] at ib
  simp only [Bool.and_eq_true, decide_eq_true_eq] at h1
  obtain ⟨b, rfl⟩ := Int.eq_ofNat_of_zero_le (show 0 ≤ b by omega)
  rw [if_neg (by simp), if_neg (by simp), Int.toNat_natCast]
  generalize hn : a.length = n at *
  repeat (first | (with_reducible first | refine SW.seq ?_ | refine SW.block ?_ | refine SW.rowC ?_ | refine SW.skip ?_ | refine SW.exit ?_ | refine PFn.use (ib) ?_ | refine PFn.useq (ib) ?_ | intro _ | refine And.intro (by omega) ?_) | simp (config := { maxSteps := 1000000 }) (disch := (first | omega | (simp only [go_sem]; try omega))) only [go_sem, Nat.reduceAdd, Nat.reduceEqDiff, Nat.reduceLeDiff, Nat.reduceMul, Nat.reduceLT, reduceIte, Int.reduceToNat, w64_id, cast_succ])
  refine SW.condF rfl ?_
  repeat (first | (with_reducible first | refine SW.seq ?_ | refine SW.block ?_ | refine SW.rowC ?_ | refine SW.skip ?_ | refine SW.exit ?_ | intro _ | refine And.intro (by omega) ?_) | simp (config := { maxSteps := 1000000 }) (disch := (first | omega | (simp only [go_sem]; try omega))) only [go_sem, Nat.reduceAdd, Nat.reduceEqDiff, Nat.reduceLeDiff, Nat.reduceMul, Nat.reduceLT, reduceIte, Int.reduceToNat, w64_id, cast_succ])
  refine ((sizeS_fn a) H).mono ?_
  rintro v H ⟨rfl, rfl⟩
  rw [hn]
  repeat (first | (with_reducible first | refine SW.seq ?_ | refine SW.block ?_ | refine SW.rowC ?_ | refine SW.skip ?_ | refine SW.exit ?_ | intro _ | refine And.intro (by omega) ?_) | simp (config := { maxSteps := 1000000 }) (disch := (first | omega | (simp only [go_sem]; try omega))) only [go_sem, Nat.reduceAdd, Nat.reduceEqDiff, Nat.reduceLeDiff, Nat.reduceMul, Nat.reduceLT, reduceIte, Int.reduceToNat, w64_id, cast_succ])
  refine (filledSquare_ok _ n (by omega) _ [] (fun _ _ => -1) (by kernel_rfl) (fun x y ext _ _ => MateOf_c1_fn x y _)).mono ?_
  rintro v H1 ⟨rfl, rfl⟩
  repeat (first | (with_reducible first | refine SW.seq ?_ | refine SW.block ?_ | refine SW.rowC ?_ | refine SW.skip ?_ | refine SW.exit ?_ | intro _ | refine And.intro (by omega) ?_) | simp (config := { maxSteps := 1000000 }) (disch := (first | omega | (simp only [go_sem]; try omega))) only [go_sem, Nat.reduceAdd, Nat.reduceEqDiff, Nat.reduceLeDiff, Nat.reduceMul, Nat.reduceLT, reduceIte, Int.reduceToNat, w64_id, cast_succ])
  have hq := sqB_length n n H.length (sqF n (fun _ _ => -1) n)
  obtain ⟨X0, hX0⟩ : ∃ X0, X0 = H ++ (sqB n n H.length (sqF n (fun _ _ => -1) n) ++ [⟨0, tyMa, 1, [I b, Bv false, ilSS a, .nm H.length n 0 n, nilS, nilS]⟩]) := ⟨_, rfl⟩
  obtain ⟨p, hp⟩ : ∃ p, p = H.length + (sqB n n H.length (sqF n (fun _ _ => -1) n)).length := ⟨_, rfl⟩
  have hXl : X0.length = p + 1 := by rw [hX0, hp]; simp; omega
  have hbox : X0[p]? = some ⟨0, tyMa, 1, [I b, Bv false, ilSS a, .nm H.length n 0 n, nilS, nilS]⟩ := by
    rw [hX0, ← List.append_assoc, List.getElem?_append_right (by simp; omega), hp]; simp
  rw [← hX0, ← hp]
  refine SW.loopE (fun E0 H0 q E' H' => ∃ (k : Nat) (vc vs : AV) (rc rs : List Nat), k ≤ n ∧ q = n - k ∧ E' = aput E0 26 (I k) ∧ rc.length = k ∧ rs.length = k ∧ MaP X0 H' (p + 1) p n (I b) (Bv false) (ilSS a) (.nm H.length n 0 n) vc vs rc rs) n
    ⟨0, nilS, nilS, [], [], by omega, by omega, rfl, rfl, rfl, hbox, ⟨by omega, by omega⟩, fun _ _ _ => rfl, .inl ⟨rfl, rfl⟩, .inl ⟨rfl, rfl⟩, (fun t h => by cases h), (fun r h => by simp at h), by simp⟩ ?_
  rintro q E' X ⟨k, vc, vs, rc, rs, hk, rfl, rfl, hrc, hrs, hM⟩
  simp (config := { maxSteps := 1000000 }) (disch := (first | omega | (simp only [go_sem]; try omega))) only [go_sem, Nat.reduceAdd, Nat.reduceEqDiff, Nat.reduceLeDiff, Nat.reduceMul, Nat.reduceLT, reduceIte, Int.reduceToNat, w64_id, cast_succ]
  repeat (first | (with_reducible first | refine SW.seq ?_ | refine SW.block ?_ | refine SW.rowC ?_ | refine SW.skip ?_ | refine SW.exit ?_ | intro _ | refine And.intro (by omega) ?_) | simp (config := { maxSteps := 1000000 }) (disch := (first | omega | (simp only [go_sem]; try omega))) only [go_sem, Nat.reduceAdd, Nat.reduceEqDiff, Nat.reduceLeDiff, Nat.reduceMul, Nat.reduceLT, reduceIte, Int.reduceToNat, w64_id, cast_succ])
  (first | refine SW.condD rfl (fun h3 => ?_) (fun h3 => ?_) | refine SW.condN rfl (fun h3 => ?_) (fun h3 => ?_) | refine SW.condNB rfl (fun h3 => ?_) (fun h3 => ?_) | refine SW.condB rfl (fun h3 => ?_) (fun h3 => ?_))
  · have hpa := fun o => pc_alive (off := o) hM.box
    have hpl := fun o => pc_ld (off := o) hM.box
    repeat (first | (with_reducible first | refine SW.seq ?_ | refine SW.block ?_ | refine SW.rowC ?_ | refine SW.skip ?_ | refine SW.exit ?_ | intro _ | refine And.intro (by omega) ?_) | simp (config := { maxSteps := 1000000 }) (disch := (first | omega | (simp only [go_sem]; try omega))) only [go_sem, Nat.reduceAdd, Nat.reduceEqDiff, Nat.reduceLeDiff, Nat.reduceMul, Nat.reduceLT, reduceIte, Int.reduceToNat, w64_id, cast_succ])
    refine SW.mixU (fun Z => Z[p]? = some ⟨0, tyMa, 1, [I b, Bv false, ilSS a, .nm H.length n 0 n, vc, vs]⟩) (fun E' Z => keep [6, 7, 25, 26] E' = [(6, I n), (7, .pc p 0 0), (25, I n), (26, I k)] ∧ ∃ vc' vs' ra rb, MaP X0 Z (p + 1) p n (I b) (Bv false) (ilSS a) (.nm H.length n 0 n) vc' vs' (rc ++ [ra]) (rs ++ [rb])) hM.box ?_ ?_
    · simp (config := { maxSteps := 1000000 }) (disch := (first | omega | (simp only [go_sem]; try omega))) only [go_sem, Nat.reduceAdd, Nat.reduceEqDiff, Nat.reduceLeDiff, Nat.reduceMul, Nat.reduceLT, reduceIte, Int.reduceToNat, w64_id, cast_succ]
      repeat (apply swpU_semI; intro Z hZ; have za := fun o => pc_alive (off := o) hZ; have zl := fun o => pc_ld (off := o) hZ; (try simp (config := { maxSteps := 1000000 }) (disch := (first | omega | (simp only [go_sem]; try omega))) only [go_sem, Nat.reduceAdd, Nat.reduceEqDiff, Nat.reduceLeDiff, Nat.reduceMul, Nat.reduceLT, reduceIte, Int.reduceToNat, w64_id, cast_succ, za, zl]); exact rfl; (try simp (config := { maxSteps := 1000000 }) (disch := (first | omega | (simp only [go_sem]; try omega))) only [go_sem, Nat.reduceAdd, Nat.reduceEqDiff, Nat.reduceLeDiff, Nat.reduceMul, Nat.reduceLT, reduceIte, Int.reduceToNat, w64_id, cast_succ]))
      have hSx : ∀ ext, (X ++ ext)[p]? = some ⟨0, tyMa, 1, [I b, Bv false, ilSS a, .nm H.length n 0 n, vc, vs]⟩ := fun ext => get_appU hM.box ext
      (try simp (config := { maxSteps := 1000000 }) (disch := (first | omega | (simp only [go_sem]; try omega))) only [go_sem, Nat.reduceAdd, Nat.reduceEqDiff, Nat.reduceLeDiff, Nat.reduceMul, Nat.reduceLT, reduceIte, Int.reduceToNat, w64_id, cast_succ, List.all_nil, List.all_cons, List.length_set, List.append_assoc, List.cons_append, List.nil_append, List.length_append, List.length_set, List.set_cons_zero, List.set_cons_succ, acell1_own, acell1_own0, alive_own, alive_own0, acells_own, acells_own0, astore_own, astore_own0, aview_own, aview_own0, PcL_some, PcV_some, PcG_some, PcS_some, NmV_some, setMany_nil, setMany_cons, partsOf_agg, cell1_nm, cell1_nil, cell1_il, cell1_Bv, cell1_pc, partsOf_nm, partsOf_il, partsOf_nil, partsOf_Bv, afill_nil, afill_cons, List.drop_zero, List.drop_succ_cons, List.take_succ_cons, List.take_zero, List.take_nil, and_self, Nat.le_refl])
      repeat' (with_reducible refine And.intro ?_ ?_)
      all_goals first | omega | (intro _ _; exact hSx _) | skip
      all_goals
        have hpX := hM.pL.2
        refine hM.gc.app (by simp; omega) (by omega) (fun t b _ h => get_appU h _) ?_
        intro v1 Z1 hp1 hl1 hf1 hg1 hi1
        have hn1 := new_get hf1 (fun t e => (hM.gc.lt e).2.1)
        have hb1 := hM.boxC (fun j b h => get_appU h _) hf1
        have hb1' := fun ext => get_appU hb1 ext
        have hs1 := hM.gs1 (fun j b h => get_appU h _) hf1
        have hn0 := hn1 0 (by simp)
        have hn2 := new_getZ hf1 (fun t e => (hM.gc.lt e).2.1)
        have hn3 := hn2 0 (by simp)
        simp (config := { maxSteps := 1000000 }) (disch := (first | omega | (simp only [go_sem]; try omega))) only [go_sem, Nat.reduceAdd, Nat.reduceEqDiff, Nat.reduceLeDiff, Nat.reduceMul, Nat.reduceLT, reduceIte, Int.reduceToNat, w64_id, cast_succ, List.all_nil, List.all_cons, List.length_set, List.append_assoc, List.cons_append, List.nil_append, List.length_append, List.length_set, List.set_cons_zero, List.set_cons_succ, acell1_own, acell1_own0, alive_own, alive_own0, acells_own, acells_own0, astore_own, astore_own0, aview_own, aview_own0, PcL_some, PcV_some, PcG_some, PcS_some, NmV_some, setMany_nil, setMany_cons, partsOf_agg, cell1_nm, cell1_nil, cell1_il, cell1_Bv, cell1_pc, partsOf_nm, partsOf_il, partsOf_nil, partsOf_Bv, afill_nil, afill_cons, List.drop_zero, List.drop_succ_cons, List.take_succ_cons, List.take_zero, List.take_nil, and_self, Nat.le_refl, aview_nmV, hn1, hn0, hn2, hn3]
        repeat' (with_reducible refine And.intro ?_ ?_)
        all_goals first | omega | (intro _ _; first | exact hb1' _ | exact hb1) | skip
        refine hs1.app (by simp at hl1; (try simp); omega) (by omega) (fun t b _ h => by first | exact h | exact get_appU h _) ?_
        intro v2 Z2 hp2 hl2 hf2 hg2 hi2
        have hZ2 := hM.old (fun j b h => get_appU h _) hf1 (fun j b h => by first | exact h | exact get_appU h _) hf2
        have hb2 := hM.boxZ hZ2
        have hpl2 := (List.getElem?_eq_some_iff.1 hb2).1
        have za := fun o => pc_alive (off := o) hb2
        have zl := fun o => pc_ld (off := o) hb2
        have w1 : astore Z2 [v1] (.pc p 0 4) = some (Z2.set p ⟨0, tyMa, 1, [I b, Bv false, ilSS a, .nm H.length n 0 n, v1, vs]⟩) := by rw [pc_st hb2 (by simp)]; rfl
        have hb3 : (Z2.set p ⟨0, tyMa, 1, [I b, Bv false, ilSS a, .nm H.length n 0 n, v1, vs]⟩)[p]? = some ⟨0, tyMa, 1, [I b, Bv false, ilSS a, .nm H.length n 0 n, v1, vs]⟩ := List.getElem?_set_self hpl2
        have za3 := fun o => pc_alive (off := o) hb3
        have w2 : astore (Z2.set p ⟨0, tyMa, 1, [I b, Bv false, ilSS a, .nm H.length n 0 n, v1, vs]⟩) [v2] (.pc p 0 5) = some (Z2.set p ⟨0, tyMa, 1, [I b, Bv false, ilSS a, .nm H.length n 0 n, v1, v2]⟩) := by rw [pc_st hb3 (by simp), List.set_set]; rfl
        simp (config := { maxSteps := 1000000 }) (disch := (first | omega | (simp only [go_sem]; try omega))) only [go_sem, Nat.reduceAdd, Nat.reduceEqDiff, Nat.reduceLeDiff, Nat.reduceMul, Nat.reduceLT, reduceIte, Int.reduceToNat, w64_id, cast_succ, za, zl, za3, w1, w2, hp1.1, hp1.2, hp2.1, hp2.2]
        repeat' (with_reducible refine And.intro ?_ ?_)
        rotate_right
        · refine ⟨v1, v2, _, _, hM.leaf (by simp) (fun j b h => get_appU h _) hl1 hf1 hg1 hi1 ?_ (fun j b h => by first | exact h | exact get_appU h _) hl2 hf2 hg2 hi2 (by simp) ?_ ?_ ?_ ?_⟩
          · simp
          · first | exact (by simp [rowF])
          · simp at hl1; omega
          · first | (simp [rowF]; done) | exact (hn1 _ (by simp) _).trans rfl | exact (hn2 _ (by simp)).trans rfl | exact (hn0 _).trans rfl | exact hn3.trans rfl
          · simp at hl1; omega
        all_goals first | rfl | (intro e h; first | exact h | exact hb2 | exact Bool.noConfusion e)
    · rintro E2 Y ⟨hk2, vc', vs', ra, rb, hM2⟩
      rw [hk2]
      repeat (first | (with_reducible first | refine SW.seq ?_ | refine SW.block ?_ | refine SW.rowC ?_ | refine SW.skip ?_ | refine SW.exit ?_ | intro _ | refine And.intro (by omega) ?_) | simp (config := { maxSteps := 1000000 }) (disch := (first | omega | (simp only [go_sem]; try omega))) only [go_sem, Nat.reduceAdd, Nat.reduceEqDiff, Nat.reduceLeDiff, Nat.reduceMul, Nat.reduceLT, reduceIte, Int.reduceToNat, w64_id, cast_succ])
      exact SLoop.next (n - (k + 1)) (by omega) ⟨k + 1, vc', vs', _, _, by omega, rfl, by simp [go_sem], by simp [hrc], by simp [hrs], hM2⟩
  obtain ⟨N, hNp, hNt, hNv, hMH, hfoot⟩ := hM.done (by omega) hX0 hp (by omega) (by omega)
  have hlX : p + 1 ≤ X.length := hM.pL.2
  have hXH : ∀ j, j < H.length → X[j]? = H[j]? := fun j hj => by rw [hM.fr j (by omega) (by omega), hX0, List.getElem?_append_left hj]
  clear hM hbox hX0
  subst hNp
  repeat (first | (with_reducible first | refine SW.seq ?_ | refine SW.block ?_ | refine SW.rowC ?_ | refine SW.skip ?_ | refine SW.exit ?_ | intro _ | refine And.intro (by omega) ?_) | simp (config := { maxSteps := 1000000 }) (disch := (first | omega | (simp only [go_sem]; try omega))) only [go_sem, Nat.reduceAdd, Nat.reduceEqDiff, Nat.reduceLeDiff, Nat.reduceMul, Nat.reduceLT, reduceIte, Int.reduceToNat, w64_id, cast_succ])
  refine SW.loopE (fun E0 H0 q E' H' => ∃ j : Nat, j ≤ n ∧ q = n - j ∧ E' = aput E0 8 (I j) ∧ MaH H' N n a (topM n j) (colsM (topM n j) n) (symsM a (topM n j) n) b false ∧ H'.length = X.length ∧ ∀ i, i ∉ N.foot → H'[i]? = X[i]?) n ⟨0, by omega, by omega, rfl, hMH, rfl, fun _ _ => rfl⟩ ?_
  rintro q E' Y ⟨j, hj, rfl, rfl, hMY, hlY, hfY⟩
  have hta := topM_ok (n := n) j
  simp (config := { maxSteps := 1000000 }) (disch := (first | omega | (simp only [go_sem]; try omega))) only [go_sem, Nat.reduceAdd, Nat.reduceEqDiff, Nat.reduceLeDiff, Nat.reduceMul, Nat.reduceLT, reduceIte, Int.reduceToNat, w64_id, cast_succ]
  repeat (first | (with_reducible first | refine SW.seq ?_ | refine SW.block ?_ | refine SW.rowC ?_ | refine SW.skip ?_ | refine SW.exit ?_ | intro _ | refine And.intro (by omega) ?_) | simp (config := { maxSteps := 1000000 }) (disch := (first | omega | (simp only [go_sem]; try omega))) only [go_sem, Nat.reduceAdd, Nat.reduceEqDiff, Nat.reduceLeDiff, Nat.reduceMul, Nat.reduceLT, reduceIte, Int.reduceToNat, w64_id, cast_succ])
  (first | refine SW.condD rfl (fun h4 => ?_) (fun h4 => ?_) | refine SW.condN rfl (fun h4 => ?_) (fun h4 => ?_) | refine SW.condNB rfl (fun h4 => ?_) (fun h4 => ?_) | refine SW.condB rfl (fun h4 => ?_) (fun h4 => ?_))
  · obtain ⟨s, hs, hsn⟩ := hf.2.2 0 j (by omega) (by omega)
    have hjn : j < n := by omega
    have hcm : cellAt (topM n j) 0 j = -1 := by rw [topM_get (by omega) j (by omega) 0 j (by omega) hjn, if_neg (by omega)]
    repeat (first | (with_reducible first | refine SW.seq ?_ | refine SW.block ?_ | refine SW.rowC ?_ | refine SW.skip ?_ | refine SW.exit ?_ | intro _ | refine And.intro (by omega) ?_) | simp (config := { maxSteps := 1000000 }) (disch := (first | omega | (simp only [go_sem]; try omega))) only [go_sem, Nat.reduceAdd, Nat.reduceEqDiff, Nat.reduceLeDiff, Nat.reduceMul, Nat.reduceLT, reduceIte, Int.reduceToNat, w64_id, cast_succ])
    refine (maTake_ok Y N n a (topM n j) _ _ b false hMY ⟨hn, hf.2.1⟩ j 0 j s hjn (by omega) hjn hs hsn true).mono ?_
    rintro v Y2 ⟨rfl, hM3, hl3, hf3⟩
    rw [if_pos rfl, colsM_push hta (by omega) hjn hjn hcm, symsM_push hta (by omega) hjn hjn hsn hcm hs, ← topM_succ] at hM3
    repeat (first | (with_reducible first | refine SW.seq ?_ | refine SW.block ?_ | refine SW.rowC ?_ | refine SW.skip ?_ | refine SW.exit ?_ | intro _ | refine And.intro (by omega) ?_) | simp (config := { maxSteps := 1000000 }) (disch := (first | omega | (simp only [go_sem]; try omega))) only [go_sem, Nat.reduceAdd, Nat.reduceEqDiff, Nat.reduceLeDiff, Nat.reduceMul, Nat.reduceLT, reduceIte, Int.reduceToNat, w64_id, cast_succ])
    exact SLoop.next (n - (j + 1)) (by omega) ⟨j + 1, by omega, rfl, by simp [go_sem], hM3, by omega, fun i hi => by rw [hf3 i hi, hfY i hi]⟩
  have hjn : j = n := by omega
  subst hjn
  have hend : ∃ st : MS, mtS a b = st ∧ ACalls Try.prog f_impl_mates_search [.pc N.p 0 0, I 0, I 1] Y (fun v H' => v = Bv st.res.isSome ∧ MaH H' N j a (st.res.getD (topM j j)) (colsM (st.res.getD (topM j j)) j) (symsM a (st.res.getD (topM j j)) j) st.left st.spent ∧ H'.length = Y.length ∧ ∀ i, i ∉ N.foot → H'[i]? = Y[i]?) := by
    unfold mtS
    rw [hn]
    by_cases h1 : j = 1
    · subst h1
      refine ⟨_, rfl, (maOne_ok Y a N _ _ _ b false hMY hn).mono ?_⟩
      rintro v H' ⟨rfl, rfl⟩
      exact ⟨rfl, hMY, rfl, fun _ _ => rfl⟩
    · refine ⟨_, rfl, (maSearch_ok a j (by omega) (by omega) ⟨hn, hf.2.1⟩ hf.2.2 (j * (j - 1)) Y N (topM j j) 0 1 ⟨b, false, none⟩ hMY (topM_bok (by omega)) (by omega) (by omega) (by omega) (by omega) rfl rfl (by show b ≤ 20000; omega)).mono ?_⟩
      rintro v H' h
      exact h
  obtain ⟨st, hst, hcall⟩ := hend
  rw [hst]
  repeat (first | (with_reducible first | refine SW.seq ?_ | refine SW.block ?_ | refine SW.rowC ?_ | refine SW.skip ?_ | refine SW.exit ?_ | intro _ | refine And.intro (by omega) ?_) | simp (config := { maxSteps := 1000000 }) (disch := (first | omega | (simp only [go_sem]; try omega))) only [go_sem, Nat.reduceAdd, Nat.reduceEqDiff, Nat.reduceLeDiff, Nat.reduceMul, Nat.reduceLT, reduceIte, Int.reduceToNat, w64_id, cast_succ])
  refine hcall.mono ?_
  rintro v Y2 ⟨rfl, hM4, hl4, hf4⟩
  have hY2 : ∀ i, i < H.length → Y2[i]? = H[i]? := fun i hi => by
    have hif : i ∉ N.foot := fun h => by have := hfoot i h; omega
    rw [hf4 i hif, hfY i hif, hXH i hi]
  have hpre := prefix_of (H := H) (H' := Y2) (by omega) hY2
  obtain ⟨left, spent, res⟩ := st
  have hpa4 := fun o => pc_alive (off := o) hM4.box
  have hpl4 := fun o => pc_ld (off := o) hM4.box
  cases res with
  | some g =>
    repeat (first | (with_reducible first | refine SW.seq ?_ | refine SW.block ?_ | refine SW.rowC ?_ | refine SW.skip ?_ | refine SW.exit ?_ | intro _ | refine And.intro (by omega) ?_) | simp (config := { maxSteps := 1000000 }) (disch := (first | omega | (simp only [go_sem]; try omega))) only [go_sem, Nat.reduceAdd, Nat.reduceEqDiff, Nat.reduceLeDiff, Nat.reduceMul, Nat.reduceLT, reduceIte, Int.reduceToNat, w64_id, cast_succ])
    refine SW.condT rfl ?_
    repeat (first | (with_reducible first | refine SW.seq ?_ | refine SW.block ?_ | refine SW.rowC ?_ | refine SW.skip ?_ | refine SW.exit ?_ | intro _ | refine And.intro (by omega) ?_) | simp (config := { maxSteps := 1000000 }) (disch := (first | omega | (simp only [go_sem]; try omega))) only [go_sem, Nat.reduceAdd, Nat.reduceEqDiff, Nat.reduceLeDiff, Nat.reduceMul, Nat.reduceLT, reduceIte, Int.reduceToNat, w64_id, cast_succ, hpa4, hpl4])
    refine SW.ret ?_; (try simp only [go_sem]); (first | refine FunPost.one ?_ | refine FunPost.two ?_ | refine FunPost.three ?_); (try simp (config := { maxSteps := 1000000 }) (disch := (first | omega | (simp only [go_sem]; try omega))) only [go_sem, Nat.reduceAdd, Nat.reduceEqDiff, Nat.reduceLeDiff, Nat.reduceMul, Nat.reduceLT, reduceIte, Int.reduceToNat, w64_id, cast_succ])
    obtain ⟨ext, rfl⟩ := hpre
    refine GR.of ⟨ext, _, rfl, rfl, ?_⟩
    have hgl : g.length = j := hM4.gb.len.2.1
    have := hM4.gb.own (b := H.length) (by
      have := hM4.nd
      unfold MaN.foot at this
      simp only [List.nodup_cons, List.mem_cons, List.mem_append, not_or, List.nodup_append] at this
      exact List.nodup_cons.2 ⟨this.2.1.2.2.1, this.2.2.2.2.1⟩) (fun i hi => hfoot i (by
      unfold MaN.foot
      rcases List.mem_cons.1 hi with rfl | hi
      · simp
      · simp [hi]))
    exact this
  | none =>
    repeat (first | (with_reducible first | refine SW.seq ?_ | refine SW.block ?_ | refine SW.rowC ?_ | refine SW.skip ?_ | refine SW.exit ?_ | intro _ | refine And.intro (by omega) ?_) | simp (config := { maxSteps := 1000000 }) (disch := (first | omega | (simp only [go_sem]; try omega))) only [go_sem, Nat.reduceAdd, Nat.reduceEqDiff, Nat.reduceLeDiff, Nat.reduceMul, Nat.reduceLT, reduceIte, Int.reduceToNat, w64_id, cast_succ])
    refine SW.condF rfl ?_
    repeat (first | (with_reducible first | refine SW.seq ?_ | refine SW.block ?_ | refine SW.rowC ?_ | refine SW.skip ?_ | refine SW.exit ?_ | intro _ | refine And.intro (by omega) ?_) | simp (config := { maxSteps := 1000000 }) (disch := (first | omega | (simp only [go_sem]; try omega))) only [go_sem, Nat.reduceAdd, Nat.reduceEqDiff, Nat.reduceLeDiff, Nat.reduceMul, Nat.reduceLT, reduceIte, Int.reduceToNat, w64_id, cast_succ, hpa4, hpl4])
    obtain ⟨ext, rfl⟩ := hpre
    cases spent with
    | true =>
      refine SW.condT rfl ?_
      repeat (first | (with_reducible first | refine SW.seq ?_ | refine SW.block ?_ | refine SW.rowC ?_ | refine SW.skip ?_ | refine SW.exit ?_ | intro _ | refine And.intro (by omega) ?_) | simp (config := { maxSteps := 1000000 }) (disch := (first | omega | (simp only [go_sem]; try omega))) only [go_sem, Nat.reduceAdd, Nat.reduceEqDiff, Nat.reduceLeDiff, Nat.reduceMul, Nat.reduceLT, reduceIte, Int.reduceToNat, w64_id, cast_succ])
      refine SW.ret ?_; (try simp only [go_sem]); (first | refine FunPost.one ?_ | refine FunPost.two ?_ | refine FunPost.three ?_); (try simp (config := { maxSteps := 1000000 }) (disch := (first | omega | (simp only [go_sem]; try omega))) only [go_sem, Nat.reduceAdd, Nat.reduceEqDiff, Nat.reduceLeDiff, Nat.reduceMul, Nat.reduceLT, reduceIte, Int.reduceToNat, w64_id, cast_succ])
      exact GR.of ⟨ext, nilS, rfl, rfl, .inr ⟨rfl, .inl rfl⟩⟩
    | false =>
      refine SW.condF rfl ?_
      repeat (first | (with_reducible first | refine SW.seq ?_ | refine SW.block ?_ | refine SW.rowC ?_ | refine SW.skip ?_ | refine SW.exit ?_ | intro _ | refine And.intro (by omega) ?_) | simp (config := { maxSteps := 1000000 }) (disch := (first | omega | (simp only [go_sem]; try omega))) only [go_sem, Nat.reduceAdd, Nat.reduceEqDiff, Nat.reduceLeDiff, Nat.reduceMul, Nat.reduceLT, reduceIte, Int.reduceToNat, w64_id, cast_succ])
      refine SW.ret ?_; (try simp only [go_sem]); (first | refine FunPost.one ?_ | refine FunPost.two ?_ | refine FunPost.three ?_); (try simp (config := { maxSteps := 1000000 }) (disch := (first | omega | (simp only [go_sem]; try omega))) only [go_sem, Nat.reduceAdd, Nat.reduceEqDiff, Nat.reduceLeDiff, Nat.reduceMul, Nat.reduceLT, reduceIte, Int.reduceToNat, w64_id, cast_succ])
      exact GR.of ⟨ext, nilS, rfl, rfl, .inr ⟨rfl, .inl rfl⟩⟩
end Go.Proofs.Ytflnjgeoegofdaa
