/- Least images: the reference, the law. The least image of a set: the law. -/
import Derived.Test.YtkifdjjnbplghaaProg
import Derived.KernelRfl
import Derived.Test.YtkifdjjnbplghaaV12
import Derived.Test.YtkifdjjnbplghaaM1
import Derived.Test.YtkifdjjnbplghaaM2
import Derived.Test.YtkifdjjnbplghaaAv17
import Derived.Test.YtkifdjjnbplghaaK18
set_option linter.unusedSimpArgs false
set_option linter.unusedVariables false
set_option maxHeartbeats 4000000
set_option maxRecDepth 100000
namespace Go.Proofs.Ytkifdjjnbplghaa
open Go.Av

/-! The abstract code of functions, printed by program and tied to the program by the kernel. -/
/-- loop.example/g00920/laws.FnExactLeastImage -/
abbrev f_laws_FnExactLeastImage : Nat := 3
def c_laws_FnExactLeastImage : SC :=
 .seq (.reg [
     ⟨(some 2), .box 24 (.tmp 0), none⟩,
     ⟨(some 4), .mv (.const (.bool false)), none⟩] [1, 2])
 (.seq (.seq (.reg [
     ⟨(some 17), .mv (.tmp 1), none⟩,
     ⟨(some 18), .len (.tmp 17), none⟩,
     ⟨(some 19), .bin .gtr (.tmp 18) (.const (.int .i64 1048576)), none⟩] [1, 2, 19])
 (.cond (.tmp 19)
  (.seq (.reg [
      ⟨(some 4), .mv (.const (.bool true)), none⟩] [4])
  (.ret))
  (.skip)))
 (.seq (.reg [
     ⟨(some 5), .mv (.const (.int .i64 1048576)), none⟩] [1, 2, 5])
 (.seq (.reg [
     ⟨(some 20), .load 2 true (.tmp 2), none⟩,
     ⟨(some 21), .mv (.tmp 5), none⟩,
     ⟨(some 22), .call 7 [(.tmp 20), (.tmp 21)], none⟩,
     ⟨(some 5), .mv (.tmp 22), none⟩] [1, 2, 5])
 (.seq (.seq (.reg [
     ⟨(some 23), .mv (.tmp 5), none⟩,
     ⟨(some 24), .bin .lss (.tmp 23) (.const (.int .i64 0)), none⟩] [1, 2, 24])
 (.cond (.tmp 24)
  (.seq (.reg [
      ⟨(some 4), .mv (.const (.bool true)), none⟩] [4])
  (.ret))
  (.skip)))
 (.seq (.reg [
     ⟨(some 26), .load 2 true (.tmp 2), none⟩,
     ⟨(some 27), .call 9 [(.tmp 26)], none⟩,
     ⟨(some 28), .mv (.tmp 1), none⟩,
     ⟨(some 29), .call 10 [(.tmp 28)], none⟩,
     ⟨(some 30), .call 8 [(.tmp 27), (.tmp 29)], none⟩,
     ⟨(some 25), .mv (.tmp 30), none⟩,
     ⟨(some 31), .ext (.tmp 25) 0, none⟩,
     ⟨(some 32), .ext (.tmp 25) 1, none⟩,
     ⟨(some 6), .mv (.tmp 31), none⟩,
     ⟨(some 7), .mv (.tmp 32), none⟩] [1, 2, 6, 7])
 (.seq (.reg [
     ⟨(some 33), .load 2 true (.tmp 2), none⟩,
     ⟨(some 34), .call 9 [(.tmp 33)], none⟩,
     ⟨(some 8), .alloc 29 [(.int .i64 0), (.slice none 0 0)], none⟩,
     ⟨none, .store 2 (.tmp 8) (.tmp 34), none⟩] [1, 2, 6, 7, 8])
 (.seq (.reg [
     ⟨(some 35), .mv (.tmp 1), none⟩,
     ⟨(some 36), .call 10 [(.tmp 35)], none⟩,
     ⟨(some 9), .mv (.tmp 36), none⟩] [1, 2, 6, 7, 8, 9])
 (.seq (.reg [
     ⟨(some 38), .load 2 true (.tmp 8), none⟩,
     ⟨(some 39), .mv (.tmp 9), none⟩,
     ⟨(some 40), .call 11 [(.tmp 38), (.tmp 39)], none⟩,
     ⟨(some 37), .mv (.tmp 40), none⟩,
     ⟨(some 41), .ext (.tmp 37) 0, none⟩,
     ⟨(some 42), .ext (.tmp 37) 1, none⟩,
     ⟨(some 10), .mv (.tmp 41), none⟩,
     ⟨(some 11), .mv (.tmp 42), none⟩] [1, 2, 6, 7, 8, 9, 10, 11])
 (.seq (.seq (.reg [
     ⟨(some 43), .mv (.tmp 10), none⟩,
     ⟨(some 44), .mv (.tmp 6), none⟩,
     ⟨(some 45), .call 12 [(.tmp 43), (.tmp 44)], none⟩,
     ⟨(some 46), .un .not (.tmp 45), none⟩,
     ⟨(some 47), .mv (.tmp 46), none⟩,
     ⟨(some 48), .mv (.tmp 11), (some (47, false))⟩,
     ⟨(some 49), .mv (.tmp 7), (some (47, false))⟩,
     ⟨(some 50), .bin .neq (.tmp 48) (.tmp 49), (some (47, false))⟩,
     ⟨(some 51), .pick (.tmp 47) (.const (.bool true)) (.tmp 50), none⟩] [1, 2, 6, 7, 8, 9, 10, 11, 51])
 (.cond (.tmp 51)
  (.seq (.reg [
      ⟨(some 4), .mv (.const (.bool false)), none⟩] [4])
  (.ret))
  (.skip)))
 (.seq (.seq (.reg [
     ⟨(some 52), .load 2 true (.tmp 8), none⟩,
     ⟨(some 53), .load 2 true (.tmp 2), none⟩,
     ⟨(some 54), .qcall 9 [(.tmp 53)], none⟩,
     ⟨(some 55), .qcall 13 [(.tmp 52), (.tmp 54)], none⟩,
     ⟨(some 56), .un .not (.tmp 55), none⟩] [1, 2, 6, 7, 8, 9, 10, 11, 56])
 (.cond (.tmp 56)
  (.seq (.reg [
      ⟨(some 4), .mv (.const (.bool false)), none⟩] [4])
  (.ret))
  (.skip)))
 (.seq (.seq (.reg [
     ⟨(some 57), .mv (.tmp 9), none⟩,
     ⟨(some 58), .mv (.tmp 1), none⟩,
     ⟨(some 59), .call 10 [(.tmp 58)], none⟩,
     ⟨(some 60), .call 12 [(.tmp 57), (.tmp 59)], none⟩,
     ⟨(some 61), .un .not (.tmp 60), none⟩] [1, 2, 6, 7, 8, 9, 10, 11, 61])
 (.cond (.tmp 61)
  (.seq (.reg [
      ⟨(some 4), .mv (.const (.bool false)), none⟩] [4])
  (.ret))
  (.skip)))
 (.seq (.reg [
     ⟨(some 12), .mv (.const (.int .i64 1)), none⟩] [1, 2, 6, 7, 8, 9, 10, 11, 12])
 (.seq (.reg [
     ⟨(some 62), .load 2 true (.tmp 8), none⟩,
     ⟨(some 63), .mv (.tmp 12), none⟩,
     ⟨(some 64), .call 14 [(.tmp 62), (.tmp 63)], none⟩,
     ⟨(some 12), .mv (.tmp 64), none⟩] [1, 2, 6, 7, 9, 10, 11, 12])
 (.seq (.reg [
     ⟨(some 65), .mv (.tmp 9), none⟩,
     ⟨(some 66), .mv (.tmp 12), none⟩,
     ⟨(some 67), .call 15 [(.tmp 65), (.tmp 66)], none⟩,
     ⟨(some 12), .mv (.tmp 67), none⟩] [1, 2, 6, 7, 10, 11, 12])
 (.seq (.seq (.reg [
     ⟨(some 68), .mv (.tmp 12), none⟩,
     ⟨(some 69), .bin .lss (.tmp 68) (.const (.int .i64 0)), none⟩,
     ⟨(some 70), .mv (.tmp 69), none⟩,
     ⟨(some 71), .mv (.tmp 10), (some (70, false))⟩,
     ⟨(some 72), .mv (.tmp 6), (some (70, false))⟩,
     ⟨(some 73), .call 12 [(.tmp 71), (.tmp 72)], (some (70, false))⟩,
     ⟨(some 74), .un .not (.tmp 73), (some (70, false))⟩,
     ⟨(some 75), .pick (.tmp 70) (.const (.bool true)) (.tmp 74), none⟩,
     ⟨(some 76), .mv (.tmp 75), none⟩,
     ⟨(some 77), .mv (.tmp 11), (some (76, false))⟩,
     ⟨(some 78), .mv (.tmp 7), (some (76, false))⟩,
     ⟨(some 79), .bin .neq (.tmp 77) (.tmp 78), (some (76, false))⟩,
     ⟨(some 80), .pick (.tmp 76) (.const (.bool true)) (.tmp 79), none⟩] [1, 2, 6, 7, 10, 80])
 (.cond (.tmp 80)
  (.seq (.reg [
      ⟨(some 4), .mv (.const (.bool false)), none⟩] [4])
  (.ret))
  (.skip)))
 (.seq (.reg [
     ⟨(some 13), .mv (.const (.int .i64 1)), none⟩] [1, 2, 6, 7, 10, 13])
 (.seq (.reg [
     ⟨(some 81), .mv (.tmp 10), none⟩,
     ⟨(some 82), .mv (.tmp 13), none⟩,
     ⟨(some 83), .call 15 [(.tmp 81), (.tmp 82)], none⟩,
     ⟨(some 13), .mv (.tmp 83), none⟩] [1, 2, 6, 7, 10, 13])
 (.seq (.reg [
     ⟨(some 14), .mv (.const (.int .i64 1)), none⟩] [1, 2, 6, 7, 10, 13, 14])
 (.seq (.reg [
     ⟨(some 84), .mv (.tmp 10), none⟩,
     ⟨(some 85), .mv (.tmp 14), none⟩,
     ⟨(some 86), .call 16 [(.tmp 84), (.tmp 85)], none⟩,
     ⟨(some 14), .mv (.tmp 86), none⟩] [1, 2, 6, 7, 10, 13, 14])
 (.seq (.seq (.reg [
     ⟨(some 87), .mv (.tmp 14), none⟩,
     ⟨(some 88), .bin .lss (.tmp 87) (.const (.int .i64 0)), none⟩] [1, 2, 6, 7, 10, 13, 14, 88])
 (.cond (.tmp 88)
  (.seq (.reg [
      ⟨(some 4), .mv (.const (.bool false)), none⟩] [4])
  (.ret))
  (.skip)))
 (.seq (.seq (.reg [
     ⟨(some 89), .mv (.tmp 14), none⟩,
     ⟨(some 90), .mv (.tmp 13), none⟩,
     ⟨(some 91), .bin .neq (.tmp 89) (.tmp 90), none⟩] [1, 2, 6, 7, 10, 13, 91])
 (.cond (.tmp 91)
  (.seq (.reg [
      ⟨(some 4), .mv (.const (.bool false)), none⟩] [4])
  (.ret))
  (.skip)))
 (.seq (.reg [
     ⟨(some 93), .load 2 true (.tmp 2), none⟩,
     ⟨(some 94), .call 9 [(.tmp 93)], none⟩,
     ⟨(some 95), .mv (.tmp 1), none⟩,
     ⟨(some 96), .call 10 [(.tmp 95)], none⟩,
     ⟨(some 97), .call 11 [(.tmp 94), (.tmp 96)], none⟩,
     ⟨(some 92), .mv (.tmp 97), none⟩,
     ⟨(some 98), .ext (.tmp 92) 0, none⟩,
     ⟨(some 99), .ext (.tmp 92) 1, none⟩,
     ⟨(some 15), .mv (.tmp 98), none⟩,
     ⟨(some 16), .mv (.tmp 99), none⟩] [6, 7, 10, 13, 15, 16])
 (.seq (.seq (.reg [
     ⟨(some 100), .mv (.tmp 15), none⟩,
     ⟨(some 101), .mv (.tmp 6), none⟩,
     ⟨(some 102), .call 12 [(.tmp 100), (.tmp 101)], none⟩,
     ⟨(some 103), .un .not (.tmp 102), none⟩,
     ⟨(some 104), .mv (.tmp 103), none⟩,
     ⟨(some 105), .mv (.tmp 16), (some (104, false))⟩,
     ⟨(some 106), .mv (.tmp 7), (some (104, false))⟩,
     ⟨(some 107), .bin .neq (.tmp 105) (.tmp 106), (some (104, false))⟩,
     ⟨(some 108), .pick (.tmp 104) (.const (.bool true)) (.tmp 107), none⟩] [10, 13, 108])
 (.cond (.tmp 108)
  (.seq (.reg [
      ⟨(some 4), .mv (.const (.bool false)), none⟩] [4])
  (.ret))
  (.skip)))
 (.seq (.reg [
     ⟨(some 14), .mv (.const (.int .i64 1)), none⟩] [10, 13, 14])
 (.seq (.reg [
     ⟨(some 109), .mv (.tmp 10), none⟩,
     ⟨(some 110), .mv (.tmp 14), none⟩,
     ⟨(some 111), .call 16 [(.tmp 109), (.tmp 110)], none⟩,
     ⟨(some 14), .mv (.tmp 111), none⟩] [13, 14])
 (.seq (.seq (.reg [
     ⟨(some 112), .mv (.tmp 14), none⟩,
     ⟨(some 113), .bin .lss (.tmp 112) (.const (.int .i64 0)), none⟩] [13, 14, 113])
 (.cond (.tmp 113)
  (.seq (.reg [
      ⟨(some 4), .mv (.const (.bool false)), none⟩] [4])
  (.ret))
  (.skip)))
 (.seq (.seq (.reg [
     ⟨(some 114), .mv (.tmp 14), none⟩,
     ⟨(some 115), .mv (.tmp 13), none⟩,
     ⟨(some 116), .bin .neq (.tmp 114) (.tmp 115), none⟩] [116])
 (.cond (.tmp 116)
  (.seq (.reg [
      ⟨(some 4), .mv (.const (.bool false)), none⟩] [4])
  (.ret))
  (.skip)))
 (.seq (.reg [
     ⟨(some 4), .mv (.const (.bool true)), none⟩] [4])
 (.ret)))))))))))))))))))))))))))))
theorem s_laws_FnExactLeastImage : stripF Try.prog 3 [[1, 2], [1, 2, 19], [4], [1, 2, 5], [1, 2, 5], [1, 2, 24], [4], [1, 2, 6, 7], [1, 2, 6, 7, 8], [1, 2, 6, 7, 8, 9], [1, 2, 6, 7, 8, 9, 10, 11], [1, 2, 6, 7, 8, 9, 10, 11, 51], [4], [1, 2, 6, 7, 8, 9, 10, 11, 56], [4], [1, 2, 6, 7, 8, 9, 10, 11, 61], [4], [1, 2, 6, 7, 8, 9, 10, 11, 12], [1, 2, 6, 7, 9, 10, 11, 12], [1, 2, 6, 7, 10, 11, 12], [1, 2, 6, 7, 10, 80], [4], [1, 2, 6, 7, 10, 13], [1, 2, 6, 7, 10, 13], [1, 2, 6, 7, 10, 13, 14], [1, 2, 6, 7, 10, 13, 14], [1, 2, 6, 7, 10, 13, 14, 88], [4], [1, 2, 6, 7, 10, 13, 91], [4], [6, 7, 10, 13, 15, 16], [10, 13, 108], [4], [10, 13, 14], [13, 14], [13, 14, 113], [4], [116], [4], [4]] = some (c_laws_FnExactLeastImage, [.tmp 4], 117) := by kernel_rfl

/-- loop.example/g00920/spec.LeastImage -/
abbrev f_spec_LeastImage : Nat := 8
def c_spec_LeastImage : SC :=
 .seq (.reg [
     ⟨(some 2), .box 29 (.tmp 0), none⟩,
     ⟨(some 4), .mv (.const (.slice none 0 0)), none⟩,
     ⟨(some 5), .mv (.const (.int .i64 0)), none⟩] [1, 2])
 (.seq (.seq (.reg [
     ⟨(some 6), .call 24 [(.tmp 2)], none⟩,
     ⟨(some 7), .un .not (.tmp 6), none⟩] [1, 2, 7])
 (.cond (.tmp 7)
  (.seq (.reg [
      ⟨(some 4), .mv (.const (.slice none 0 0)), none⟩,
      ⟨(some 5), .mv (.const (.int .i64 1)), none⟩] [4, 5])
  (.ret))
  (.skip)))
 (.seq (.seq (.reg [
     ⟨(some 8), .mv (.tmp 1), none⟩,
     ⟨(some 9), .faddr 0 (.tmp 2), none⟩,
     ⟨(some 10), .load 1 false (.tmp 9), none⟩,
     ⟨(some 11), .call 25 [(.tmp 8), (.tmp 10)], none⟩,
     ⟨(some 12), .un .not (.tmp 11), none⟩] [1, 2, 12])
 (.cond (.tmp 12)
  (.seq (.reg [
      ⟨(some 4), .mv (.const (.slice none 0 0)), none⟩,
      ⟨(some 5), .mv (.const (.int .i64 2)), none⟩] [4, 5])
  (.ret))
  (.skip)))
 (.seq (.reg [
     ⟨(some 13), .mv (.tmp 1), none⟩,
     ⟨(some 14), .call 26 [(.tmp 2), (.tmp 13)], none⟩,
     ⟨(some 4), .mv (.tmp 14), none⟩,
     ⟨(some 5), .mv (.const (.int .i64 0)), none⟩] [4, 5])
 (.ret))))
theorem s_spec_LeastImage : stripF Try.prog 8 [[1, 2], [1, 2, 7], [4, 5], [1, 2, 12], [4, 5], [4, 5]] = some (c_spec_LeastImage, [.tmp 4, .tmp 5], 15) := by kernel_rfl

/-- loop.example/g00920/spec.l25Least -/
abbrev f_spec_l25Least : Nat := 26
def c_spec_l25Least : SC :=
 .seq (.reg [
     ⟨(some 4), .mv (.const (.slice none 0 0)), none⟩] [0, 1])
 (.seq (.reg [
     ⟨(some 8), .mv (.tmp 1), none⟩,
     ⟨(some 9), .call 50 [(.tmp 8)], none⟩,
     ⟨(some 5), .mv (.tmp 9), none⟩] [0, 1, 5])
 (.seq (.seq (.reg [
     ⟨(some 6), .mv (.const (.int .i64 0)), none⟩] [0, 1, 5, 6])
 (.block 0 (.loop [0, 1, 5, 6]
   (.seq (.seq (.reg [
       ⟨(some 10), .mv (.tmp 6), none⟩,
       ⟨(some 11), .mv (.tmp 0), none⟩,
       ⟨(some 12), .nilc (.tmp 11), none⟩,
       ⟨(some 13), .faddr 1 (.tmp 12), none⟩,
       ⟨(some 14), .load 1 false (.tmp 13), none⟩,
       ⟨(some 15), .len (.tmp 14), none⟩,
       ⟨(some 16), .bin .lss (.tmp 10) (.tmp 15), none⟩] [0, 1, 5, 6, 16])
   (.cond (.tmp 16)
    (.skip)
    (.exit 0)))
   (.seq (.block 1 (.seq (.reg [
        ⟨(some 19), .mv (.tmp 0), none⟩,
        ⟨(some 20), .nilc (.tmp 19), none⟩,
        ⟨(some 21), .faddr 1 (.tmp 20), none⟩,
        ⟨(some 22), .load 1 false (.tmp 21), none⟩,
        ⟨(some 23), .mv (.tmp 6), none⟩,
        ⟨(some 24), .iaddr 1 (.tmp 22) (.tmp 23), none⟩,
        ⟨(some 25), .load 1 false (.tmp 24), none⟩,
        ⟨(some 26), .mv (.tmp 1), none⟩,
        ⟨(some 27), .call 51 [(.tmp 25), (.tmp 26)], none⟩,
        ⟨(some 7), .mv (.tmp 27), none⟩] [0, 1, 5, 6, 7])
    (.seq (.reg [
        ⟨(some 28), .mv (.tmp 7), none⟩,
        ⟨(some 29), .mv (.tmp 5), none⟩,
        ⟨(some 30), .call 47 [(.tmp 28), (.tmp 29)], none⟩,
        ⟨(some 31), .bin .lss (.tmp 30) (.const (.int .i64 0)), none⟩] [0, 1, 5, 6, 7, 31])
    (.cond (.tmp 31)
     (.reg [
         ⟨(some 32), .mv (.tmp 7), none⟩,
         ⟨(some 5), .mv (.tmp 32), none⟩] [0, 1, 5, 6])
     (.skip)))))
   (.reg [
       ⟨(some 17), .mv (.tmp 6), none⟩,
       ⟨(some 18), .bin .add (.tmp 17) (.const (.int .i64 1)), none⟩,
       ⟨(some 6), .mv (.tmp 18), none⟩] [0, 1, 5, 6]))))))
 (.seq (.reg [
     ⟨(some 33), .mv (.tmp 5), none⟩,
     ⟨(some 4), .mv (.tmp 33), none⟩] [4])
 (.ret))))
theorem s_spec_l25Least : stripF Try.prog 26 [[0, 1], [0, 1, 5], [0, 1, 5, 6], [0, 1, 5, 6], [0, 1, 5, 6, 16], [0, 1, 5, 6, 7], [0, 1, 5, 6, 7, 31], [0, 1, 5, 6], [0, 1, 5, 6], [4]] = some (c_spec_l25Least, [.tmp 4], 34) := by kernel_rfl


theorem pa_id {n : Nat} {x : Int} (h0 : 0 ≤ x) (h1 : x < n) : pa (idL n) x = x := by
  unfold pa idL
  rw [tab_getD _ (by omega)]; omega
theorem img_id {n : Nat} {set : List Int} (hb : asc 0 ((n : Int) - 1) set = true) : img (idL n) set = set := by
  unfold img
  have e : set.map (pa (idL n)) = set := (List.map_congr_left (fun x hx => by
    have := asc_mem hb x hx
    exact pa_id this.1 (by omega))).trans (List.map_id _)
  rw [e]
  exact asc_uniq cmpZ_tot (sortU_asc cmpZ_tot _) (asc_Asc hb) (fun y => sortU_mem cmpZ_tot _ _)
/-- The least image, as the reference looks for it. -/
def leastS (els : List (List Int)) (set : List Int) : List Int := els.foldl (fun o p => if cmpL (img p set) o < 0 then img p set else o) set
theorem leastS_snoc (els : List (List Int)) (set : List Int) (p : List Int) : leastS (els ++ [p]) set = if cmpL (img p set) (leastS els set) < 0 then img p set else leastS els set := by unfold leastS; rw [List.foldl_append]; rfl
theorem leastS_spec (els : List (List Int)) (set : List Int) : (leastS els set = set ∨ leastS els set ∈ imgsOf els set) ∧ ¬ cmpL set (leastS els set) < 0 ∧ ∀ y ∈ imgsOf els set, ¬ cmpL y (leastS els set) < 0 := by
  rw [← List.reverse_reverse els]
  induction els.reverse with
  | nil =>
    refine ⟨.inl rfl, ?_, by simp [imgsOf]⟩
    have : leastS ([] : List (List Int)).reverse set = set := rfl
    rw [this, (cmpL_eq0 set set).2 rfl]; omega
  | cons p r ih =>
    rw [List.reverse_cons, leastS_snoc]
    have e1 : imgsOf (r.reverse ++ [p]) set = imgsOf r.reverse set ++ [img p set] := by simp [imgsOf]
    rw [e1]
    obtain ⟨h1, h2, h3⟩ := ih
    split
    · rename_i hlt
      refine ⟨.inr (by simp), fun h => h2 (cmpL_trans _ _ _ h hlt), fun y hy => ?_⟩
      rcases List.mem_append.1 hy with hy | hy
      · exact fun h => h3 y hy (cmpL_trans _ _ _ h hlt)
      · rw [List.mem_singleton.1 hy, (cmpL_eq0 _ _).2 rfl]; omega
    · rename_i hlt
      refine ⟨h1.imp id (fun h => List.mem_append_left _ h), h2, fun y hy => ?_⟩
      rcases List.mem_append.1 hy with hy | hy
      · exact h3 y hy
      · rw [List.mem_singleton.1 hy]; exact hlt
theorem leastS_is {n : Int} {els : List (List Int)} {set : List Int} (hg : grpOk n els) (ha : asc 0 (n - 1) set = true) : leastS els set = (sortU cmpL (imgsOf els set)).getD 0 [] := by
  have en : n = ((n.toNat : Nat) : Int) := by have := hg.1; omega
  obtain ⟨h1, h2, h3⟩ := leastS_spec els set
  have hid : set ∈ imgsOf els set := by
    have := hg.2.2.2.2 (idL n.toNat) .one
    refine List.mem_map.2 ⟨_, this, img_id (by rw [← en]; exact ha)⟩
  have hm : leastS els set ∈ sortU cmpL (imgsOf els set) := by
    rw [sortU_mem cmpL_tot]
    rcases h1 with h1 | h1
    · rw [h1]; exact hid
    · exact h1
  have hasc := sortU_asc cmpL_tot (imgsOf els set)
  have hmin : ∀ y ∈ sortU cmpL (imgsOf els set), ¬ cmpL y (leastS els set) < 0 := fun y hy => h3 y ((sortU_mem cmpL_tot _ _).1 hy)
  generalize sortU cmpL (imgsOf els set) = L at *
  cases L with
  | nil => simp at hm
  | cons x r =>
    rcases List.mem_cons.1 hm with h | h
    · rw [h]; rfl
    · exact absurd ((List.pairwise_cons.1 hasc).1 _ h) (hmin x (by simp))

theorem l25Least_ok (H : List Blk) (p : Nat) (n : Nat) (els : List (List Int)) (set : List Int) (hn : n ≤ 32) (hl : els.length ≤ 720) (ho : ∀ q ∈ els, permOk n q) (hb : asc 0 ((n : Int) - 1) set = true) (hp : H[p]? = some ⟨0, tyG, 1, [I n, ilSS els]⟩) :
    ACalls Try.prog f_spec_l25Least [.pc p 0 0, ilS set] H (fun r H' => r = ilS (leastS els set) ∧ H' = H) := by
  have hpa := fun (o : Nat) => pc_alive (off := o) hp
  have hpl := fun (o : Nat) => pc_ld (off := o) hp
  have hsl : set.length ≤ 2000000 := by rcases asc_len hb with h | h; (rw [h]; simp); omega
  have how := l00OwnV_fn set hsl
  refine ACalls.introB s_spec_l25Least (by simp) ?_; intro hB hA; unfold c_spec_l25Least; simp (config := { maxSteps := 1000000 }) (disch := (first | omega | (simp only [go_sem]; try omega))) only [go_sem, Nat.reduceAdd, Nat.reduceEqDiff, Nat.reduceLeDiff, Nat.reduceMul, Nat.reduceLT, reduceIte, Int.reduceToNat, w64_id, cast_succ]
  repeat (first | (with_reducible first | refine SW.seq ?_ | refine SW.block ?_ | refine SW.rowC ?_ | refine SW.skip ?_ | refine SW.exit ?_ | refine PFn.use (how) ?_ | refine PFn.useq (how) ?_ | intro _ | refine And.intro (by omega) ?_) | simp (config := { maxSteps := 1000000 }) (disch := (first | omega | (simp only [go_sem]; try omega))) only [go_sem, Nat.reduceAdd, Nat.reduceEqDiff, Nat.reduceLeDiff, Nat.reduceMul, Nat.reduceLT, reduceIte, Int.reduceToNat, w64_id, cast_succ])
  refine SW.loopE (fun E0 H0 q E' H' => ∃ (pre post : List (List Int)), els = pre ++ post ∧ q = post.length ∧ E' = aput (aput E0 6 (I pre.length)) 5 (ilS (leastS pre set)) ∧ H' = H0) els.length ⟨[], els, rfl, rfl, rfl, rfl⟩ ?_
  rintro q E' H' ⟨pre, post, hpp, rfl, rfl, rfl⟩
  simp (config := { maxSteps := 1000000 }) (disch := (first | omega | (simp only [go_sem]; try omega))) only [go_sem, Nat.reduceAdd, Nat.reduceEqDiff, Nat.reduceLeDiff, Nat.reduceMul, Nat.reduceLT, reduceIte, Int.reduceToNat, w64_id, cast_succ]
  repeat (first | (with_reducible first | refine SW.seq ?_ | refine SW.block ?_ | refine SW.rowC ?_ | refine SW.skip ?_ | refine SW.exit ?_ | intro _ | refine And.intro (by omega) ?_) | simp (config := { maxSteps := 1000000 }) (disch := (first | omega | (simp only [go_sem]; try omega))) only [go_sem, Nat.reduceAdd, Nat.reduceEqDiff, Nat.reduceLeDiff, Nat.reduceMul, Nat.reduceLT, reduceIte, Int.reduceToNat, w64_id, cast_succ, hpa, hpl])
  (first | refine SW.condD rfl (fun h2 => ?_) (fun h2 => ?_) | refine SW.condN rfl (fun h2 => ?_) (fun h2 => ?_) | refine SW.condNB rfl (fun h2 => ?_) (fun h2 => ?_) | refine SW.condB rfl (fun h2 => ?_) (fun h2 => ?_))
  · obtain ⟨y, post, rfl, hg, -⟩ := consOf (d := []) hpp (by omega)
    have him := l04Image_fn n y set (by omega) (ho y (by rw [hpp]; simp)) hb
    have hcf := CompareLists_fn (img y set) (leastS pre set)
    have hsn := leastS_snoc pre set y
    by_cases hc : cmpL (img y set) (leastS pre set) < 0
    · have dd := decide_eq_true hc
      rw [if_pos hc] at hsn
      repeat (first | (with_reducible first | refine SW.seq ?_ | refine SW.block ?_ | refine SW.rowC ?_ | refine SW.skip ?_ | refine SW.exit ?_ | refine PFn.use (him) ?_ | refine PFn.useq (him) ?_ | refine PFn.use (hcf) ?_ | refine PFn.useq (hcf) ?_ | intro _ | refine And.intro (by omega) ?_) | simp (config := { maxSteps := 1000000 }) (disch := (first | omega | (simp only [go_sem]; try omega))) only [go_sem, Nat.reduceAdd, Nat.reduceEqDiff, Nat.reduceLeDiff, Nat.reduceMul, Nat.reduceLT, reduceIte, Int.reduceToNat, w64_id, cast_succ, hpa, hpl, hg, dd])
      refine SW.condT rfl ?_
      repeat (first | (with_reducible first | refine SW.seq ?_ | refine SW.block ?_ | refine SW.rowC ?_ | refine SW.skip ?_ | refine SW.exit ?_ | intro _ | refine And.intro (by omega) ?_) | simp (config := { maxSteps := 1000000 }) (disch := (first | omega | (simp only [go_sem]; try omega))) only [go_sem, Nat.reduceAdd, Nat.reduceEqDiff, Nat.reduceLeDiff, Nat.reduceMul, Nat.reduceLT, reduceIte, Int.reduceToNat, w64_id, cast_succ])
      refine SLoop.next post.length (by simp) ⟨pre ++ [y], post, by simp [hpp], rfl, ?_, rfl⟩
      rw [hsn]; simp [go_sem]
    · have dd := decide_eq_false hc
      rw [if_neg hc] at hsn
      repeat (first | (with_reducible first | refine SW.seq ?_ | refine SW.block ?_ | refine SW.rowC ?_ | refine SW.skip ?_ | refine SW.exit ?_ | refine PFn.use (him) ?_ | refine PFn.useq (him) ?_ | refine PFn.use (hcf) ?_ | refine PFn.useq (hcf) ?_ | intro _ | refine And.intro (by omega) ?_) | simp (config := { maxSteps := 1000000 }) (disch := (first | omega | (simp only [go_sem]; try omega))) only [go_sem, Nat.reduceAdd, Nat.reduceEqDiff, Nat.reduceLeDiff, Nat.reduceMul, Nat.reduceLT, reduceIte, Int.reduceToNat, w64_id, cast_succ, hpa, hpl, hg, dd])
      refine SW.condF rfl ?_
      repeat (first | (with_reducible first | refine SW.seq ?_ | refine SW.block ?_ | refine SW.rowC ?_ | refine SW.skip ?_ | refine SW.exit ?_ | intro _ | refine And.intro (by omega) ?_) | simp (config := { maxSteps := 1000000 }) (disch := (first | omega | (simp only [go_sem]; try omega))) only [go_sem, Nat.reduceAdd, Nat.reduceEqDiff, Nat.reduceLeDiff, Nat.reduceMul, Nat.reduceLT, reduceIte, Int.reduceToNat, w64_id, cast_succ])
      refine SLoop.next post.length (by simp) ⟨pre ++ [y], post, by simp [hpp], rfl, ?_, rfl⟩
      rw [hsn]; simp [go_sem]
  · obtain ⟨rfl, rfl⟩ := nilOf hpp (by omega)
    repeat (first | (with_reducible first | refine SW.seq ?_ | refine SW.block ?_ | refine SW.rowC ?_ | refine SW.skip ?_ | refine SW.exit ?_ | intro _ | refine And.intro (by omega) ?_) | simp (config := { maxSteps := 1000000 }) (disch := (first | omega | (simp only [go_sem]; try omega))) only [go_sem, Nat.reduceAdd, Nat.reduceEqDiff, Nat.reduceLeDiff, Nat.reduceMul, Nat.reduceLT, reduceIte, Int.reduceToNat, w64_id, cast_succ])
    refine SW.ret ?_; (try simp only [go_sem]); (first | refine FunPost.one ?_ | refine FunPost.two ?_ | refine FunPost.three ?_); (try simp (config := { maxSteps := 1000000 }) (disch := (first | omega | (simp only [go_sem]; try omega))) only [go_sem, Nat.reduceAdd, Nat.reduceEqDiff, Nat.reduceLeDiff, Nat.reduceMul, Nat.reduceLT, reduceIte, Int.reduceToNat, w64_id, cast_succ]); (first | (with_reducible refine GR.drop ?_ ?_; (simp only [go_sem, and_self, and_true, true_and, implies_true, List.take_succ_cons, List.take_zero])) | refine GR.of ?_); refine ⟨?_, rfl⟩; (try with_reducible rfl)
theorem specLeastImage_fn (n : Int) (els : List (List Int)) (set : List Int) (hx : ∀ x ∈ set, (Lit.int .i64 x).wf = true) :
    PFn Try.prog f_spec_LeastImage [.agg [I n, ilSS els], ilS set] (.tup [ilS (liV n els set).1, I (liV n els set).2]) := by
  have hvs := specValidSet_fn set n hx
  unfold liV imV
  by_cases hg : grpB n els = true
  · have hgo := grpB_t.1 hg
    have hn := hgo.1
    rw [if_pos hg]
    rw [show (decide (0 ≤ n) && decide (n ≤ 32)) = true by rw [Bool.and_eq_true, decide_eq_true_eq, decide_eq_true_eq]; omega, Bool.and_true] at hvs
    by_cases ha : asc 0 (n - 1) set = true
    · rw [if_pos ha, if_pos rfl, ← leastS_is hgo ha]
      rw [ha] at hvs
      intro H; refine ACalls.introB s_spec_LeastImage (by simp) ?_; intro hB hA; unfold c_spec_LeastImage; simp (config := { maxSteps := 1000000 }) (disch := (first | omega | (simp only [go_sem]; try omega))) only [go_sem, Nat.reduceAdd, Nat.reduceEqDiff, Nat.reduceLeDiff, Nat.reduceMul, Nat.reduceLT, reduceIte, Int.reduceToNat, w64_id, cast_succ]
      repeat (first | (with_reducible first | refine SW.seq ?_ | refine SW.block ?_ | refine SW.rowC ?_ | refine SW.skip ?_ | refine SW.exit ?_ | intro _ | refine And.intro (by omega) ?_) | simp (config := { maxSteps := 1000000 }) (disch := (first | omega | (simp only [go_sem]; try omega))) only [go_sem, Nat.reduceAdd, Nat.reduceEqDiff, Nat.reduceLeDiff, Nat.reduceMul, Nat.reduceLT, reduceIte, Int.reduceToNat, w64_id, cast_succ])
      refine ACalls.fn (l05Ok_ok _ H.length n els (by simp)) ?_
      rw [hg]
      repeat (first | (with_reducible first | refine SW.seq ?_ | refine SW.block ?_ | refine SW.rowC ?_ | refine SW.skip ?_ | refine SW.exit ?_ | intro _ | refine And.intro (by omega) ?_) | simp (config := { maxSteps := 1000000 }) (disch := (first | omega | (simp only [go_sem]; try omega))) only [go_sem, Nat.reduceAdd, Nat.reduceEqDiff, Nat.reduceLeDiff, Nat.reduceMul, Nat.reduceLT, reduceIte, Int.reduceToNat, w64_id, cast_succ])
      refine SW.condF rfl ?_
      repeat (first | (with_reducible first | refine SW.seq ?_ | refine SW.block ?_ | refine SW.rowC ?_ | refine SW.skip ?_ | refine SW.exit ?_ | refine PFn.use (hvs) ?_ | refine PFn.useq (hvs) ?_ | intro _ | refine And.intro (by omega) ?_) | simp (config := { maxSteps := 1000000 }) (disch := (first | omega | (simp only [go_sem]; try omega))) only [go_sem, Nat.reduceAdd, Nat.reduceEqDiff, Nat.reduceLeDiff, Nat.reduceMul, Nat.reduceLT, reduceIte, Int.reduceToNat, w64_id, cast_succ])
      refine SW.condF rfl ?_
      repeat (first | (with_reducible first | refine SW.seq ?_ | refine SW.block ?_ | refine SW.rowC ?_ | refine SW.skip ?_ | refine SW.exit ?_ | intro _ | refine And.intro (by omega) ?_) | simp (config := { maxSteps := 1000000 }) (disch := (first | omega | (simp only [go_sem]; try omega))) only [go_sem, Nat.reduceAdd, Nat.reduceEqDiff, Nat.reduceLeDiff, Nat.reduceMul, Nat.reduceLT, reduceIte, Int.reduceToNat, w64_id, cast_succ])
      have en : n = ((n.toNat : Nat) : Int) := by omega
      have him := l25Least_ok (H ++ [(⟨0, tyG, 1, [I n, ilSS els]⟩ : Blk)]) H.length n.toNat els set (by omega) hgo.2.1.2 hgo.2.2.1 (by rw [← en]; exact ha) (by rw [← en]; simp)
      refine ACalls.fn him ?_
      repeat (first | (with_reducible first | refine SW.seq ?_ | refine SW.block ?_ | refine SW.rowC ?_ | refine SW.skip ?_ | refine SW.exit ?_ | intro _ | refine And.intro (by omega) ?_) | simp (config := { maxSteps := 1000000 }) (disch := (first | omega | (simp only [go_sem]; try omega))) only [go_sem, Nat.reduceAdd, Nat.reduceEqDiff, Nat.reduceLeDiff, Nat.reduceMul, Nat.reduceLT, reduceIte, Int.reduceToNat, w64_id, cast_succ])
      refine SW.ret ?_; (try simp only [go_sem]); (first | refine FunPost.one ?_ | refine FunPost.two ?_ | refine FunPost.three ?_); (try simp (config := { maxSteps := 1000000 }) (disch := (first | omega | (simp only [go_sem]; try omega))) only [go_sem, Nat.reduceAdd, Nat.reduceEqDiff, Nat.reduceLeDiff, Nat.reduceMul, Nat.reduceLT, reduceIte, Int.reduceToNat, w64_id, cast_succ]); (first | (with_reducible refine GR.drop ?_ ?_; (simp only [go_sem, and_self, and_true, true_and, implies_true, List.take_succ_cons, List.take_zero])) | refine GR.of ?_); refine ⟨?_, rfl⟩; (try with_reducible rfl)
    · rw [if_neg ha, if_neg (by omega)]
      rw [Bool.not_eq_true] at ha
      rw [ha] at hvs
      intro H; refine ACalls.introB s_spec_LeastImage (by simp) ?_; intro hB hA; unfold c_spec_LeastImage; simp (config := { maxSteps := 1000000 }) (disch := (first | omega | (simp only [go_sem]; try omega))) only [go_sem, Nat.reduceAdd, Nat.reduceEqDiff, Nat.reduceLeDiff, Nat.reduceMul, Nat.reduceLT, reduceIte, Int.reduceToNat, w64_id, cast_succ]
      repeat (first | (with_reducible first | refine SW.seq ?_ | refine SW.block ?_ | refine SW.rowC ?_ | refine SW.skip ?_ | refine SW.exit ?_ | intro _ | refine And.intro (by omega) ?_) | simp (config := { maxSteps := 1000000 }) (disch := (first | omega | (simp only [go_sem]; try omega))) only [go_sem, Nat.reduceAdd, Nat.reduceEqDiff, Nat.reduceLeDiff, Nat.reduceMul, Nat.reduceLT, reduceIte, Int.reduceToNat, w64_id, cast_succ])
      refine ACalls.fn (l05Ok_ok _ H.length n els (by simp)) ?_
      rw [hg]
      repeat (first | (with_reducible first | refine SW.seq ?_ | refine SW.block ?_ | refine SW.rowC ?_ | refine SW.skip ?_ | refine SW.exit ?_ | intro _ | refine And.intro (by omega) ?_) | simp (config := { maxSteps := 1000000 }) (disch := (first | omega | (simp only [go_sem]; try omega))) only [go_sem, Nat.reduceAdd, Nat.reduceEqDiff, Nat.reduceLeDiff, Nat.reduceMul, Nat.reduceLT, reduceIte, Int.reduceToNat, w64_id, cast_succ])
      refine SW.condF rfl ?_
      repeat (first | (with_reducible first | refine SW.seq ?_ | refine SW.block ?_ | refine SW.rowC ?_ | refine SW.skip ?_ | refine SW.exit ?_ | refine PFn.use (hvs) ?_ | refine PFn.useq (hvs) ?_ | intro _ | refine And.intro (by omega) ?_) | simp (config := { maxSteps := 1000000 }) (disch := (first | omega | (simp only [go_sem]; try omega))) only [go_sem, Nat.reduceAdd, Nat.reduceEqDiff, Nat.reduceLeDiff, Nat.reduceMul, Nat.reduceLT, reduceIte, Int.reduceToNat, w64_id, cast_succ])
      refine SW.condT rfl ?_
      repeat (first | (with_reducible first | refine SW.seq ?_ | refine SW.block ?_ | refine SW.rowC ?_ | refine SW.skip ?_ | refine SW.exit ?_ | intro _ | refine And.intro (by omega) ?_) | simp (config := { maxSteps := 1000000 }) (disch := (first | omega | (simp only [go_sem]; try omega))) only [go_sem, Nat.reduceAdd, Nat.reduceEqDiff, Nat.reduceLeDiff, Nat.reduceMul, Nat.reduceLT, reduceIte, Int.reduceToNat, w64_id, cast_succ])
      refine SW.ret ?_; (try simp only [go_sem]); (first | refine FunPost.one ?_ | refine FunPost.two ?_ | refine FunPost.three ?_); (try simp (config := { maxSteps := 1000000 }) (disch := (first | omega | (simp only [go_sem]; try omega))) only [go_sem, Nat.reduceAdd, Nat.reduceEqDiff, Nat.reduceLeDiff, Nat.reduceMul, Nat.reduceLT, reduceIte, Int.reduceToNat, w64_id, cast_succ])
      exact GR.froz (r' := .tup [ilS [], I 2]) (froz_tup2 .nil (froz_I' _)) ⟨rfl, rfl⟩
  · rw [if_neg hg, if_neg (by omega)]
    rw [Bool.not_eq_true] at hg
    intro H; refine ACalls.introB s_spec_LeastImage (by simp) ?_; intro hB hA; unfold c_spec_LeastImage; simp (config := { maxSteps := 1000000 }) (disch := (first | omega | (simp only [go_sem]; try omega))) only [go_sem, Nat.reduceAdd, Nat.reduceEqDiff, Nat.reduceLeDiff, Nat.reduceMul, Nat.reduceLT, reduceIte, Int.reduceToNat, w64_id, cast_succ]
    repeat (first | (with_reducible first | refine SW.seq ?_ | refine SW.block ?_ | refine SW.rowC ?_ | refine SW.skip ?_ | refine SW.exit ?_ | intro _ | refine And.intro (by omega) ?_) | simp (config := { maxSteps := 1000000 }) (disch := (first | omega | (simp only [go_sem]; try omega))) only [go_sem, Nat.reduceAdd, Nat.reduceEqDiff, Nat.reduceLeDiff, Nat.reduceMul, Nat.reduceLT, reduceIte, Int.reduceToNat, w64_id, cast_succ])
    refine ACalls.fn (l05Ok_ok _ H.length n els (by simp)) ?_
    rw [hg]
    repeat (first | (with_reducible first | refine SW.seq ?_ | refine SW.block ?_ | refine SW.rowC ?_ | refine SW.skip ?_ | refine SW.exit ?_ | intro _ | refine And.intro (by omega) ?_) | simp (config := { maxSteps := 1000000 }) (disch := (first | omega | (simp only [go_sem]; try omega))) only [go_sem, Nat.reduceAdd, Nat.reduceEqDiff, Nat.reduceLeDiff, Nat.reduceMul, Nat.reduceLT, reduceIte, Int.reduceToNat, w64_id, cast_succ])
    refine SW.condT rfl ?_
    repeat (first | (with_reducible first | refine SW.seq ?_ | refine SW.block ?_ | refine SW.rowC ?_ | refine SW.skip ?_ | refine SW.exit ?_ | intro _ | refine And.intro (by omega) ?_) | simp (config := { maxSteps := 1000000 }) (disch := (first | omega | (simp only [go_sem]; try omega))) only [go_sem, Nat.reduceAdd, Nat.reduceEqDiff, Nat.reduceLeDiff, Nat.reduceMul, Nat.reduceLT, reduceIte, Int.reduceToNat, w64_id, cast_succ])
    refine SW.ret ?_; (try simp only [go_sem]); (first | refine FunPost.one ?_ | refine FunPost.two ?_ | refine FunPost.three ?_); (try simp (config := { maxSteps := 1000000 }) (disch := (first | omega | (simp only [go_sem]; try omega))) only [go_sem, Nat.reduceAdd, Nat.reduceEqDiff, Nat.reduceLeDiff, Nat.reduceMul, Nat.reduceLT, reduceIte, Int.reduceToNat, w64_id, cast_succ])
    exact GR.froz (r' := .tup [ilS [], I 1]) (froz_tup2 .nil (froz_I' _)) ⟨rfl, rfl⟩
theorem liV_len (n : Int) (els : List (List Int)) (set : List Int) : (liV n els set).1.length ≤ 64 := by
  unfold liV
  split
  · rename_i h
    obtain ⟨hg, ha⟩ := imV_zero h
    have hne := sortU_ne (set := set) hg.2.1.1
    have hm : (sortU cmpL (imgsOf els set)).getD 0 [] ∈ sortU cmpL (imgsOf els set) := by
      rw [List.getD_eq_getElem?_getD, List.getElem?_eq_getElem (by omega)]; exact List.getElem_mem _
    rw [sortU_mem cmpL_tot] at hm
    obtain ⟨p, _, he⟩ := List.mem_map.1 hm
    simp only
    rw [← he]
    unfold img
    have h1 := sortU_len (cf := cmpZ) (set.map (pa p))
    have hn := hg.1
    rcases asc_len ha with h2 | h2
    · rw [h2]; show (sortU cmpZ []).length ≤ 64; simp [sortU]
    · simp at h1; omega
  · simp
end Go.Proofs.Ytkifdjjnbplghaa
namespace Go.Proofs.Ytkifdjjnbplghaa
open Go.Av

theorem OwnS.appendV {H : List Blk} {N : Nat → Prop} {t : Nat} {c : AV} {xs : List Int} (h : OwnS H N t c xs) (ext : List Blk) : OwnS (H ++ ext) N t c xs :=
  h.same (fun j b _ _ hb => by rw [List.getElem?_append_left (List.getElem?_eq_some_iff.1 hb).1]; exact hb)

theorem lawLeastImage_ok (H : List Blk) (n : Int) (els : List (List Int)) (set : List Int) (hx : ∀ x ∈ set, (Lit.int .i64 x).wf = true) : ACalls Try.prog f_laws_FnExactLeastImage [.agg [I n, ilSS els], ilS set] H (fun r _ => r = Bv true) := by
  refine ACalls.introB s_laws_FnExactLeastImage (by simp) ?_; intro hB hA; unfold c_laws_FnExactLeastImage; simp (config := { maxSteps := 1000000 }) (disch := (first | omega | (simp only [go_sem]; try omega))) only [go_sem, Nat.reduceAdd, Nat.reduceEqDiff, Nat.reduceLeDiff, Nat.reduceMul, Nat.reduceLT, reduceIte, Int.reduceToNat, w64_id, cast_succ]
  repeat (first | (with_reducible first | refine SW.seq ?_ | refine SW.block ?_ | refine SW.rowC ?_ | refine SW.skip ?_ | refine SW.exit ?_ | intro _ | refine And.intro (by omega) ?_) | simp (config := { maxSteps := 1000000 }) (disch := (first | omega | (simp only [go_sem]; try omega))) only [go_sem, Nat.reduceAdd, Nat.reduceEqDiff, Nat.reduceLeDiff, Nat.reduceMul, Nat.reduceLT, reduceIte, Int.reduceToNat, w64_id, cast_succ])
  (first | refine SW.condD rfl (fun h1 => ?_) (fun h1 => ?_) | refine SW.condN rfl (fun h1 => ?_) (fun h1 => ?_) | refine SW.condNB rfl (fun h1 => ?_) (fun h1 => ?_) | refine SW.condB rfl (fun h1 => ?_) (fun h1 => ?_))
  · repeat (first | (with_reducible first | refine SW.seq ?_ | refine SW.block ?_ | refine SW.rowC ?_ | refine SW.skip ?_ | refine SW.exit ?_ | intro _ | refine And.intro (by omega) ?_) | simp (config := { maxSteps := 1000000 }) (disch := (first | omega | (simp only [go_sem]; try omega))) only [go_sem, Nat.reduceAdd, Nat.reduceEqDiff, Nat.reduceLeDiff, Nat.reduceMul, Nat.reduceLT, reduceIte, Int.reduceToNat, w64_id, cast_succ])
    refine SW.ret ?_; (try simp only [go_sem]); (first | refine FunPost.one ?_ | refine FunPost.two ?_ | refine FunPost.three ?_); (try simp (config := { maxSteps := 1000000 }) (disch := (first | omega | (simp only [go_sem]; try omega))) only [go_sem, Nat.reduceAdd, Nat.reduceEqDiff, Nat.reduceLeDiff, Nat.reduceMul, Nat.reduceLT, reduceIte, Int.reduceToNat, w64_id, cast_succ])
    exact GR.of rfl
  repeat (first | (with_reducible first | refine SW.seq ?_ | refine SW.block ?_ | refine SW.rowC ?_ | refine SW.skip ?_ | refine SW.exit ?_ | intro _ | refine And.intro (by omega) ?_) | simp (config := { maxSteps := 1000000 }) (disch := (first | omega | (simp only [go_sem]; try omega))) only [go_sem, Nat.reduceAdd, Nat.reduceEqDiff, Nat.reduceLeDiff, Nat.reduceMul, Nat.reduceLT, reduceIte, Int.reduceToNat, w64_id, cast_succ])
  refine (szGroup_ok _ n _ els _ rfl (rd_ilSS _ _) (by omega) (by omega)).mono ?_
  rintro r H' ⟨⟨z, rfl, g1, g2, g3⟩, rfl⟩
  repeat (first | (with_reducible first | refine SW.seq ?_ | refine SW.block ?_ | refine SW.rowC ?_ | refine SW.skip ?_ | refine SW.exit ?_ | intro _ | refine And.intro (by omega) ?_) | simp (config := { maxSteps := 1000000 }) (disch := (first | omega | (simp only [go_sem]; try omega))) only [go_sem, Nat.reduceAdd, Nat.reduceEqDiff, Nat.reduceLeDiff, Nat.reduceMul, Nat.reduceLT, reduceIte, Int.reduceToNat, w64_id, cast_succ])
  (first | refine SW.condD rfl (fun h2 => ?_) (fun h2 => ?_) | refine SW.condN rfl (fun h2 => ?_) (fun h2 => ?_) | refine SW.condNB rfl (fun h2 => ?_) (fun h2 => ?_) | refine SW.condB rfl (fun h2 => ?_) (fun h2 => ?_))
  · repeat (first | (with_reducible first | refine SW.seq ?_ | refine SW.block ?_ | refine SW.rowC ?_ | refine SW.skip ?_ | refine SW.exit ?_ | intro _ | refine And.intro (by omega) ?_) | simp (config := { maxSteps := 1000000 }) (disch := (first | omega | (simp only [go_sem]; try omega))) only [go_sem, Nat.reduceAdd, Nat.reduceEqDiff, Nat.reduceLeDiff, Nat.reduceMul, Nat.reduceLT, reduceIte, Int.reduceToNat, w64_id, cast_succ])
    refine SW.ret ?_; (try simp only [go_sem]); (first | refine FunPost.one ?_ | refine FunPost.two ?_ | refine FunPost.three ?_); (try simp (config := { maxSteps := 1000000 }) (disch := (first | omega | (simp only [go_sem]; try omega))) only [go_sem, Nat.reduceAdd, Nat.reduceEqDiff, Nat.reduceLeDiff, Nat.reduceMul, Nat.reduceLT, reduceIte, Int.reduceToNat, w64_id, cast_succ])
    exact GR.of rfl
  have hsx := small_rows (by omega) (g3 (by omega)) (by omega)
  have t1 := toGroup_fn n els hsx.1 hsx.2
  have t2 := toInt64S_fnV set (by omega)
  have hlx : ∀ x ∈ els, x.length ≤ 2000000 := fun x hx => by
    have h1 : x.length ≤ total els := total_geV hx
    have := g3 (by omega); omega
  have hl2 : els.length ≤ 2000000 := by have := g3 (by omega); omega
  have htot : total els ≤ 1073741824 := by have := g3 (by omega); omega
  have hs := specLeastImage_fn n els set hx
  have hi := implLeastImage_fs n els set hlx hl2
  have hlen := liV_len n els set
  generalize (liV n els set).1 = zs at *
  generalize (liV n els set).2 = code at *
  repeat (first | (with_reducible first | refine SW.seq ?_ | refine SW.block ?_ | refine SW.rowC ?_ | refine SW.skip ?_ | refine SW.exit ?_ | intro _ | refine And.intro (by omega) ?_) | simp (config := { maxSteps := 1000000 }) (disch := (first | omega | (simp only [go_sem]; try omega))) only [go_sem, Nat.reduceAdd, Nat.reduceEqDiff, Nat.reduceLeDiff, Nat.reduceMul, Nat.reduceLT, reduceIte, Int.reduceToNat, w64_id, cast_succ])
  refine ACalls.fn (t1 _) ?_
  repeat (first | (with_reducible first | refine SW.seq ?_ | refine SW.block ?_ | refine SW.rowC ?_ | refine SW.skip ?_ | refine SW.exit ?_ | refine PFn.use (t2) ?_ | refine PFn.useq (t2) ?_ | refine PFn.use (hs) ?_ | refine PFn.useq (hs) ?_ | intro _ | refine And.intro (by omega) ?_) | simp (config := { maxSteps := 1000000 }) (disch := (first | omega | (simp only [go_sem]; try omega))) only [go_sem, Nat.reduceAdd, Nat.reduceEqDiff, Nat.reduceLeDiff, Nat.reduceMul, Nat.reduceLT, reduceIte, Int.reduceToNat, w64_id, cast_succ])
  refine (toGroup_ok _ n _ els rfl (rd_ilSS _ _) hsx.1 hsx.2).mono ?_
  rintro r H1 ⟨ext, v, hH1, rfl, own⟩
  have pw := get_appB2 (show (H ++ [(⟨0, 24, 1, [I n, ilSS els]⟩ : Blk)])[H.length]? = some ⟨0, 24, 1, [I n, ilSS els]⟩ by simp) ext
  rw [← hH1] at pw
  have hb : (H ++ [(⟨0, 24, 1, [I n, ilSS els]⟩ : Blk)]).length = H.length + 1 := by simp
  rw [hb] at own
  have hlt : H.length < H1.length := (List.getElem?_eq_some_iff.1 pw).1
  clear hH1 hb
  repeat (first | (with_reducible first | refine SW.seq ?_ | refine SW.block ?_ | refine SW.rowC ?_ | refine SW.skip ?_ | refine SW.exit ?_ | intro _ | refine And.intro (by omega) ?_) | simp (config := { maxSteps := 1000000 }) (disch := (first | omega | (simp only [go_sem]; try omega))) only [go_sem, Nat.reduceAdd, Nat.reduceEqDiff, Nat.reduceLeDiff, Nat.reduceMul, Nat.reduceLT, reduceIte, Int.reduceToNat, w64_id, cast_succ, own.cell1B.1, own.cell1B.2])
  refine (toInt64S_ok _ _ set (rd_ilS _ _) (by omega)).mono ?_
  rintro r H2 ⟨rfl, hH2⟩
  have px := get_appB2 (show (H1 ++ [(⟨0, tyG, 1, [I n, v]⟩ : Blk)])[H1.length]? = some ⟨0, tyG, 1, [I n, v]⟩ by simp) [⟨0, 2, 1, set.map I⟩]
  have own1 : OwnS H2 (Btw (H1.length + 1) (H1.length + 2)) H2.length (.nm (H1 ++ [(⟨0, tyG, 1, [I n, v]⟩ : Blk)]).length 0 0 set.length) set := .inl ⟨_, 0, 2, rfl, ⟨by simp, by simp⟩, by rw [hH2]; simp, by rw [hH2]; simp⟩
  replace pw := get_appB2 (get_appB2 pw [(⟨0, tyG, 1, [I n, v]⟩ : Blk)]) [⟨0, 2, 1, set.map I⟩]
  replace own := (own.append [(⟨0, tyG, 1, [I n, v]⟩ : Blk)]).append [⟨0, 2, 1, set.map I⟩]
  have hl2' : H2.length = H1.length + 2 := by rw [hH2]; simp
  rw [← hH2] at pw px own
  generalize (AV.nm (H1 ++ [(⟨0, tyG, 1, [I n, v]⟩ : Blk)]).length 0 0 set.length) = u1 at *
  clear hH2
  generalize hg : H1.length = g at *
  have pxl : acells H2 2 (.pc g 0 0) = some [I n, v] := pc_lds px (by simp)
  repeat (first | (with_reducible first | refine SW.seq ?_ | refine SW.block ?_ | refine SW.rowC ?_ | refine SW.skip ?_ | refine SW.exit ?_ | intro _ | refine And.intro (by omega) ?_) | simp (config := { maxSteps := 1000000 }) (disch := (first | omega | (simp only [go_sem]; try omega))) only [go_sem, Nat.reduceAdd, Nat.reduceEqDiff, Nat.reduceLeDiff, Nat.reduceMul, Nat.reduceLT, reduceIte, Int.reduceToNat, w64_id, cast_succ, pc_alive px, pxl, own.cell1B.1, own.cell1B.2])
  refine (hi.lend (.cons (froz_agg2 (froz_I' _) (own.froz (fun r _ => Nat.zero_le _))) (.cons (own1.froz (fun r _ => Nat.zero_le _)) .nil))).mono ?_
  rintro r H3 ⟨ext2, gu, t, hH3, rfl, hu, ht⟩
  replace pw := get_appB2 pw ext2
  replace px := get_appB2 px ext2
  replace own := own.append ext2
  replace own1 := own1.appendV ext2
  replace hu : OwnS H3 (Btw H2.length H3.length) t gu zs := hu
  have hl3 : H2.length ≤ H3.length := by rw [hH3]; simp
  rw [← hH3] at pw px own own1
  clear hH3 pxl
  have pxl : acells H3 2 (.pc g 0 0) = some [I n, v] := pc_lds px (by simp)
  repeat (first | (with_reducible first | refine SW.seq ?_ | refine SW.block ?_ | refine SW.rowC ?_ | refine SW.skip ?_ | refine SW.exit ?_ | intro _ | refine And.intro (by omega) ?_) | simp (config := { maxSteps := 1000000 }) (disch := (first | omega | (simp only [go_sem]; try omega))) only [go_sem, Nat.reduceAdd, Nat.reduceEqDiff, Nat.reduceLeDiff, Nat.reduceMul, Nat.reduceLT, reduceIte, Int.reduceToNat, w64_id, cast_succ])
  refine ACalls.fn (eqInt64S_ok _ gu (ilS zs) zs zs hu.rd (rd_ilS _ _)) ?_
  rw [show decide (zs = zs) = true by simp]
  repeat (first | (with_reducible first | refine SW.seq ?_ | refine SW.block ?_ | refine SW.rowC ?_ | refine SW.skip ?_ | refine SW.exit ?_ | intro _ | refine And.intro (by omega) ?_) | simp (config := { maxSteps := 1000000 }) (disch := (first | omega | (simp only [go_sem]; try omega))) only [go_sem, Nat.reduceAdd, Nat.reduceEqDiff, Nat.reduceLeDiff, Nat.reduceMul, Nat.reduceLT, reduceIte, Int.reduceToNat, w64_id, cast_succ])
  refine SW.condF rfl ?_
  have pal : acells H3 2 (.pc H.length 0 0) = some [I n, ilSS els] := pc_lds pw (by simp)
  repeat (first | (with_reducible first | refine SW.seq ?_ | refine SW.block ?_ | refine SW.rowC ?_ | refine SW.skip ?_ | refine SW.exit ?_ | refine PFn.use (t1) ?_ | refine PFn.useq (t1) ?_ | intro _ | refine And.intro (by omega) ?_) | simp (config := { maxSteps := 1000000 }) (disch := (first | omega | (simp only [go_sem]; try omega))) only [go_sem, Nat.reduceAdd, Nat.reduceEqDiff, Nat.reduceLeDiff, Nat.reduceMul, Nat.reduceLT, reduceIte, Int.reduceToNat, w64_id, cast_succ, pc_alive px, pc_alive pw, pxl, pal, own.cell1B.1, own.cell1B.2])
  refine QcallW.of (fun ext => eqGroup_ok _ n n v (ilSS els) els els own.cell1B.1 rfl (own.append ext).rd (rd_ilSS _ _)) ?_
  rw [show (decide (n = n) && decide (els = els)) = true by simp]
  repeat (first | (with_reducible first | refine SW.seq ?_ | refine SW.block ?_ | refine SW.rowC ?_ | refine SW.skip ?_ | refine SW.exit ?_ | intro _ | refine And.intro (by omega) ?_) | simp (config := { maxSteps := 1000000 }) (disch := (first | omega | (simp only [go_sem]; try omega))) only [go_sem, Nat.reduceAdd, Nat.reduceEqDiff, Nat.reduceLeDiff, Nat.reduceMul, Nat.reduceLT, reduceIte, Int.reduceToNat, w64_id, cast_succ])
  refine SW.condF rfl ?_
  repeat (first | (with_reducible first | refine SW.seq ?_ | refine SW.block ?_ | refine SW.rowC ?_ | refine SW.skip ?_ | refine SW.exit ?_ | refine PFn.use (t2) ?_ | refine PFn.useq (t2) ?_ | intro _ | refine And.intro (by omega) ?_) | simp (config := { maxSteps := 1000000 }) (disch := (first | omega | (simp only [go_sem]; try omega))) only [go_sem, Nat.reduceAdd, Nat.reduceEqDiff, Nat.reduceLeDiff, Nat.reduceMul, Nat.reduceLT, reduceIte, Int.reduceToNat, w64_id, cast_succ])
  refine ACalls.fn (eqInt64S_ok _ u1 (ilS set) set set own1.rd (rd_ilS _ _)) ?_
  rw [show decide (set = set) = true by simp]
  repeat (first | (with_reducible first | refine SW.seq ?_ | refine SW.block ?_ | refine SW.rowC ?_ | refine SW.skip ?_ | refine SW.exit ?_ | intro _ | refine And.intro (by omega) ?_) | simp (config := { maxSteps := 1000000 }) (disch := (first | omega | (simp only [go_sem]; try omega))) only [go_sem, Nat.reduceAdd, Nat.reduceEqDiff, Nat.reduceLeDiff, Nat.reduceMul, Nat.reduceLT, reduceIte, Int.reduceToNat, w64_id, cast_succ])
  refine SW.condF rfl ?_
  repeat (first | (with_reducible first | refine SW.seq ?_ | refine SW.block ?_ | refine SW.rowC ?_ | refine SW.skip ?_ | refine SW.exit ?_ | intro _ | refine And.intro (by omega) ?_) | simp (config := { maxSteps := 1000000 }) (disch := (first | omega | (simp only [go_sem]; try omega))) only [go_sem, Nat.reduceAdd, Nat.reduceEqDiff, Nat.reduceLeDiff, Nat.reduceMul, Nat.reduceLT, reduceIte, Int.reduceToNat, w64_id, cast_succ, pc_alive px, pxl, own.cell1B.1, own.cell1B.2])
  refine (markGroup_ok _ _ n 1 v els own.cell1B.1 own (by omega) (by omega)).mono ?_
  rintro r H4 ⟨rfl, -, m1, m2⟩
  have hlt3 := (List.getElem?_eq_some_iff.1 px).1
  replace pw := (m2 H.length (by unfold Btw; omega) (by omega)).trans pw
  replace hu := hu.same (H' := H4) (fun j b hj _ hb => by rw [m2 j (by unfold Btw at hj ⊢; omega) (by unfold Btw at hj; omega)]; exact hb)
  replace own1 := own1.same (H' := H4) (fun j b hj _ hb => by rw [m2 j (by unfold Btw at hj ⊢; omega) (List.getElem?_eq_some_iff.1 hb).1]; exact hb)
  clear own px pxl pal
  repeat (first | (with_reducible first | refine SW.seq ?_ | refine SW.block ?_ | refine SW.rowC ?_ | refine SW.skip ?_ | refine SW.exit ?_ | intro _ | refine And.intro (by omega) ?_) | simp (config := { maxSteps := 1000000 }) (disch := (first | omega | (simp only [go_sem]; try omega))) only [go_sem, Nat.reduceAdd, Nat.reduceEqDiff, Nat.reduceLeDiff, Nat.reduceMul, Nat.reduceLT, reduceIte, Int.reduceToNat, w64_id, cast_succ])
  refine (markS_ok _ _ _ _ _ (1 + total els) own1 (by omega) (by omega)).mono ?_
  rintro r H6 ⟨rfl, -, k1, k2⟩
  replace pw := (k2 H.length (by unfold Btw; omega)).trans pw
  replace hu := hu.same (H' := H6) (fun j b hj _ hb => by rw [k2 j (by unfold Btw at hj ⊢; omega)]; exact hb)
  clear own1
  have hneg1 : decide ((1 : Int) + total els + set.length < 0) = false := decide_eq_false (by omega)
  have hneg2 : decide ((1 : Int) + zs.length < 0) = false := decide_eq_false (by omega)
  repeat (first | (with_reducible first | refine SW.seq ?_ | refine SW.block ?_ | refine SW.rowC ?_ | refine SW.skip ?_ | refine SW.exit ?_ | intro _ | refine And.intro (by omega) ?_) | simp (config := { maxSteps := 1000000 }) (disch := (first | omega | (simp only [go_sem]; try omega))) only [go_sem, Nat.reduceAdd, Nat.reduceEqDiff, Nat.reduceLeDiff, Nat.reduceMul, Nat.reduceLT, reduceIte, Int.reduceToNat, w64_id, cast_succ, hneg1])
  refine ACalls.fn (eqInt64S_ok _ gu (ilS zs) zs zs hu.rd (rd_ilS _ _)) ?_
  rw [show decide (zs = zs) = true by simp]
  repeat (first | (with_reducible first | refine SW.seq ?_ | refine SW.block ?_ | refine SW.rowC ?_ | refine SW.skip ?_ | refine SW.exit ?_ | intro _ | refine And.intro (by omega) ?_) | simp (config := { maxSteps := 1000000 }) (disch := (first | omega | (simp only [go_sem]; try omega))) only [go_sem, Nat.reduceAdd, Nat.reduceEqDiff, Nat.reduceLeDiff, Nat.reduceMul, Nat.reduceLT, reduceIte, Int.reduceToNat, w64_id, cast_succ])
  refine SW.condF rfl ?_
  repeat (first | (with_reducible first | refine SW.seq ?_ | refine SW.block ?_ | refine SW.rowC ?_ | refine SW.skip ?_ | refine SW.exit ?_ | intro _ | refine And.intro (by omega) ?_) | simp (config := { maxSteps := 1000000 }) (disch := (first | omega | (simp only [go_sem]; try omega))) only [go_sem, Nat.reduceAdd, Nat.reduceEqDiff, Nat.reduceLeDiff, Nat.reduceMul, Nat.reduceLT, reduceIte, Int.reduceToNat, w64_id, cast_succ])
  refine (markS_ok _ _ _ _ _ 1 hu (by omega) (by omega)).mono ?_
  rintro r H8 ⟨rfl, hu8, q3, q4⟩
  replace pw := (q4 H.length (by unfold Btw; omega)).trans pw
  repeat (first | (with_reducible first | refine SW.seq ?_ | refine SW.block ?_ | refine SW.rowC ?_ | refine SW.skip ?_ | refine SW.exit ?_ | intro _ | refine And.intro (by omega) ?_) | simp (config := { maxSteps := 1000000 }) (disch := (first | omega | (simp only [go_sem]; try omega))) only [go_sem, Nat.reduceAdd, Nat.reduceEqDiff, Nat.reduceLeDiff, Nat.reduceMul, Nat.reduceLT, reduceIte, Int.reduceToNat, w64_id, cast_succ])
  refine ACalls.fn (heldInt64S_ok _ _ _ 1 hu8.rd (by omega) (by omega)) ?_
  repeat (first | (with_reducible first | refine SW.seq ?_ | refine SW.block ?_ | refine SW.rowC ?_ | refine SW.skip ?_ | refine SW.exit ?_ | intro _ | refine And.intro (by omega) ?_) | simp (config := { maxSteps := 1000000 }) (disch := (first | omega | (simp only [go_sem]; try omega))) only [go_sem, Nat.reduceAdd, Nat.reduceEqDiff, Nat.reduceLeDiff, Nat.reduceMul, Nat.reduceLT, reduceIte, Int.reduceToNat, w64_id, cast_succ, hneg2])
  refine SW.condF rfl ?_
  repeat (first | (with_reducible first | refine SW.seq ?_ | refine SW.block ?_ | refine SW.rowC ?_ | refine SW.skip ?_ | refine SW.exit ?_ | intro _ | refine And.intro (by omega) ?_) | simp (config := { maxSteps := 1000000 }) (disch := (first | omega | (simp only [go_sem]; try omega))) only [go_sem, Nat.reduceAdd, Nat.reduceEqDiff, Nat.reduceLeDiff, Nat.reduceMul, Nat.reduceLT, reduceIte, Int.reduceToNat, w64_id, cast_succ])
  refine SW.condF rfl ?_
  repeat (first | (with_reducible first | refine SW.seq ?_ | refine SW.block ?_ | refine SW.rowC ?_ | refine SW.skip ?_ | refine SW.exit ?_ | refine PFn.use (t1) ?_ | refine PFn.useq (t1) ?_ | refine PFn.use (t2) ?_ | refine PFn.useq (t2) ?_ | intro _ | refine And.intro (by omega) ?_) | simp (config := { maxSteps := 1000000 }) (disch := (first | omega | (simp only [go_sem]; try omega))) only [go_sem, Nat.reduceAdd, Nat.reduceEqDiff, Nat.reduceLeDiff, Nat.reduceMul, Nat.reduceLT, reduceIte, Int.reduceToNat, w64_id, cast_succ, pc_alive pw, show acells H8 2 (.pc H.length 0 0) = some [I n, ilSS els] from pc_lds pw (by simp)])
  refine (hi _).mono ?_
  rintro r H9 ⟨ext3, hw, t3, rfl, rfl, ho9, ht9⟩
  repeat (first | (with_reducible first | refine SW.seq ?_ | refine SW.block ?_ | refine SW.rowC ?_ | refine SW.skip ?_ | refine SW.exit ?_ | intro _ | refine And.intro (by omega) ?_) | simp (config := { maxSteps := 1000000 }) (disch := (first | omega | (simp only [go_sem]; try omega))) only [go_sem, Nat.reduceAdd, Nat.reduceEqDiff, Nat.reduceLeDiff, Nat.reduceMul, Nat.reduceLT, reduceIte, Int.reduceToNat, w64_id, cast_succ])
  refine ACalls.fn (eqInt64S_ok _ hw (ilS zs) zs zs ho9.rd (rd_ilS _ _)) ?_
  rw [show decide (zs = zs) = true by simp]
  repeat (first | (with_reducible first | refine SW.seq ?_ | refine SW.block ?_ | refine SW.rowC ?_ | refine SW.skip ?_ | refine SW.exit ?_ | intro _ | refine And.intro (by omega) ?_) | simp (config := { maxSteps := 1000000 }) (disch := (first | omega | (simp only [go_sem]; try omega))) only [go_sem, Nat.reduceAdd, Nat.reduceEqDiff, Nat.reduceLeDiff, Nat.reduceMul, Nat.reduceLT, reduceIte, Int.reduceToNat, w64_id, cast_succ])
  refine SW.condF rfl ?_
  repeat (first | (with_reducible first | refine SW.seq ?_ | refine SW.block ?_ | refine SW.rowC ?_ | refine SW.skip ?_ | refine SW.exit ?_ | intro _ | refine And.intro (by omega) ?_) | simp (config := { maxSteps := 1000000 }) (disch := (first | omega | (simp only [go_sem]; try omega))) only [go_sem, Nat.reduceAdd, Nat.reduceEqDiff, Nat.reduceLeDiff, Nat.reduceMul, Nat.reduceLT, reduceIte, Int.reduceToNat, w64_id, cast_succ])
  refine ACalls.fn (heldInt64S_ok _ _ _ 1 (hu8.rd.append _) (by omega) (by omega)) ?_
  repeat (first | (with_reducible first | refine SW.seq ?_ | refine SW.block ?_ | refine SW.rowC ?_ | refine SW.skip ?_ | refine SW.exit ?_ | intro _ | refine And.intro (by omega) ?_) | simp (config := { maxSteps := 1000000 }) (disch := (first | omega | (simp only [go_sem]; try omega))) only [go_sem, Nat.reduceAdd, Nat.reduceEqDiff, Nat.reduceLeDiff, Nat.reduceMul, Nat.reduceLT, reduceIte, Int.reduceToNat, w64_id, cast_succ, hneg2])
  refine SW.condF rfl ?_
  repeat (first | (with_reducible first | refine SW.seq ?_ | refine SW.block ?_ | refine SW.rowC ?_ | refine SW.skip ?_ | refine SW.exit ?_ | intro _ | refine And.intro (by omega) ?_) | simp (config := { maxSteps := 1000000 }) (disch := (first | omega | (simp only [go_sem]; try omega))) only [go_sem, Nat.reduceAdd, Nat.reduceEqDiff, Nat.reduceLeDiff, Nat.reduceMul, Nat.reduceLT, reduceIte, Int.reduceToNat, w64_id, cast_succ])
  refine SW.condF rfl ?_
  repeat (first | (with_reducible first | refine SW.seq ?_ | refine SW.block ?_ | refine SW.rowC ?_ | refine SW.skip ?_ | refine SW.exit ?_ | intro _ | refine And.intro (by omega) ?_) | simp (config := { maxSteps := 1000000 }) (disch := (first | omega | (simp only [go_sem]; try omega))) only [go_sem, Nat.reduceAdd, Nat.reduceEqDiff, Nat.reduceLeDiff, Nat.reduceMul, Nat.reduceLT, reduceIte, Int.reduceToNat, w64_id, cast_succ])
  refine SW.ret ?_; (try simp only [go_sem]); (first | refine FunPost.one ?_ | refine FunPost.two ?_ | refine FunPost.three ?_); (try simp (config := { maxSteps := 1000000 }) (disch := (first | omega | (simp only [go_sem]; try omega))) only [go_sem, Nat.reduceAdd, Nat.reduceEqDiff, Nat.reduceLeDiff, Nat.reduceMul, Nat.reduceLT, reduceIte, Int.reduceToNat, w64_id, cast_succ])
  exact GR.of rfl
end Go.Proofs.Ytkifdjjnbplghaa
