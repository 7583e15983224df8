/- The first completion of a partial square. -/
import Derived.Test.YtkpohapopokahaaProg
import Derived.KernelRfl
import Derived.Test.YtkpohapopokahaaK34
import Derived.Test.YtkpohapopokahaaM2
set_option linter.unusedSimpArgs false
set_option linter.unusedVariables false
set_option maxHeartbeats 4000000
set_option maxRecDepth 100000
namespace Go.Proofs.Ytkpohapopokahaa
open Go.Av

/-! The abstract code of functions, printed by program and tied to the program by the kernel. -/
/-- loop.example/g00920/laws.FnExactCompletePartial -/
abbrev f_laws_FnExactCompletePartial : Nat := 8
def c_laws_FnExactCompletePartial : SC :=
 .seq (.reg [
     ⟨(some 4), .mv (.const (.bool false)), none⟩] [0, 1])
 (.seq (.reg [
     ⟨(some 5), .mv (.const (.int .i64 1048576)), none⟩] [0, 1, 5])
 (.seq (.reg [
     ⟨(some 16), .mv (.tmp 0), none⟩,
     ⟨(some 17), .mv (.tmp 5), none⟩,
     ⟨(some 18), .call 26 [(.tmp 16), (.tmp 17)], none⟩,
     ⟨(some 5), .mv (.tmp 18), none⟩] [0, 1, 5])
 (.seq (.seq (.reg [
     ⟨(some 19), .mv (.tmp 5), none⟩,
     ⟨(some 20), .bin .lss (.tmp 19) (.const (.int .i64 0)), none⟩] [0, 1, 20])
 (.cond (.tmp 20)
  (.seq (.reg [
      ⟨(some 4), .mv (.const (.bool true)), none⟩] [4])
  (.ret))
  (.skip)))
 (.seq (.reg [
     ⟨(some 22), .mv (.tmp 0), none⟩,
     ⟨(some 23), .call 28 [(.tmp 22)], none⟩,
     ⟨(some 24), .mv (.tmp 1), none⟩,
     ⟨(some 25), .call 40 [(.tmp 23), (.tmp 24)], none⟩,
     ⟨(some 21), .mv (.tmp 25), none⟩,
     ⟨(some 26), .ext (.tmp 21) 0, none⟩,
     ⟨(some 27), .ext (.tmp 21) 1, none⟩,
     ⟨(some 6), .mv (.tmp 26), none⟩,
     ⟨(some 7), .mv (.tmp 27), none⟩] [0, 1, 6, 7])
 (.seq (.reg [
     ⟨(some 28), .mv (.tmp 0), none⟩,
     ⟨(some 29), .call 28 [(.tmp 28)], none⟩,
     ⟨(some 8), .mv (.tmp 29), none⟩] [0, 1, 6, 7, 8])
 (.seq (.reg [
     ⟨(some 31), .mv (.tmp 8), none⟩,
     ⟨(some 32), .mv (.tmp 1), none⟩,
     ⟨(some 33), .call 41 [(.tmp 31), (.tmp 32)], none⟩,
     ⟨(some 30), .mv (.tmp 33), none⟩,
     ⟨(some 34), .ext (.tmp 30) 0, none⟩,
     ⟨(some 35), .ext (.tmp 30) 1, none⟩,
     ⟨(some 9), .mv (.tmp 34), none⟩,
     ⟨(some 10), .mv (.tmp 35), none⟩] [0, 1, 6, 7, 8, 9, 10])
 (.seq (.seq (.reg [
     ⟨(some 36), .mv (.tmp 9), none⟩,
     ⟨(some 37), .mv (.tmp 6), none⟩,
     ⟨(some 38), .call 30 [(.tmp 36), (.tmp 37)], none⟩,
     ⟨(some 39), .un .not (.tmp 38), none⟩,
     ⟨(some 40), .mv (.tmp 39), none⟩,
     ⟨(some 41), .mv (.tmp 10), (some (40, false))⟩,
     ⟨(some 42), .mv (.tmp 7), (some (40, false))⟩,
     ⟨(some 43), .bin .neq (.tmp 41) (.tmp 42), (some (40, false))⟩,
     ⟨(some 44), .pick (.tmp 40) (.const (.bool true)) (.tmp 43), none⟩] [0, 1, 6, 7, 8, 9, 10, 44])
 (.cond (.tmp 44)
  (.seq (.reg [
      ⟨(some 4), .mv (.const (.bool false)), none⟩] [4])
  (.ret))
  (.skip)))
 (.seq (.seq (.reg [
     ⟨(some 45), .mv (.tmp 8), none⟩,
     ⟨(some 46), .mv (.tmp 0), none⟩,
     ⟨(some 47), .call 28 [(.tmp 46)], none⟩,
     ⟨(some 48), .call 30 [(.tmp 45), (.tmp 47)], none⟩,
     ⟨(some 49), .un .not (.tmp 48), none⟩] [0, 1, 6, 7, 8, 9, 10, 49])
 (.cond (.tmp 49)
  (.seq (.reg [
      ⟨(some 4), .mv (.const (.bool false)), none⟩] [4])
  (.ret))
  (.skip)))
 (.seq (.reg [
     ⟨(some 11), .mv (.const (.int .i64 1)), none⟩] [0, 1, 6, 7, 8, 9, 10, 11])
 (.seq (.reg [
     ⟨(some 50), .mv (.tmp 8), none⟩,
     ⟨(some 51), .mv (.tmp 11), none⟩,
     ⟨(some 52), .call 42 [(.tmp 50), (.tmp 51)], none⟩,
     ⟨(some 11), .mv (.tmp 52), none⟩] [0, 1, 6, 7, 9, 10, 11])
 (.seq (.seq (.reg [
     ⟨(some 53), .mv (.tmp 11), none⟩,
     ⟨(some 54), .bin .lss (.tmp 53) (.const (.int .i64 0)), none⟩,
     ⟨(some 55), .mv (.tmp 54), none⟩,
     ⟨(some 56), .mv (.tmp 9), (some (55, false))⟩,
     ⟨(some 57), .mv (.tmp 6), (some (55, false))⟩,
     ⟨(some 58), .call 30 [(.tmp 56), (.tmp 57)], (some (55, false))⟩,
     ⟨(some 59), .un .not (.tmp 58), (some (55, false))⟩,
     ⟨(some 60), .pick (.tmp 55) (.const (.bool true)) (.tmp 59), none⟩,
     ⟨(some 61), .mv (.tmp 60), none⟩,
     ⟨(some 62), .mv (.tmp 10), (some (61, false))⟩,
     ⟨(some 63), .mv (.tmp 7), (some (61, false))⟩,
     ⟨(some 64), .bin .neq (.tmp 62) (.tmp 63), (some (61, false))⟩,
     ⟨(some 65), .pick (.tmp 61) (.const (.bool true)) (.tmp 64), none⟩] [0, 1, 6, 7, 9, 65])
 (.cond (.tmp 65)
  (.seq (.reg [
      ⟨(some 4), .mv (.const (.bool false)), none⟩] [4])
  (.ret))
  (.skip)))
 (.seq (.reg [
     ⟨(some 12), .mv (.const (.int .i64 1)), none⟩] [0, 1, 6, 7, 9, 12])
 (.seq (.reg [
     ⟨(some 66), .mv (.tmp 9), none⟩,
     ⟨(some 67), .mv (.tmp 12), none⟩,
     ⟨(some 68), .call 42 [(.tmp 66), (.tmp 67)], none⟩,
     ⟨(some 12), .mv (.tmp 68), none⟩] [0, 1, 6, 7, 9, 12])
 (.seq (.reg [
     ⟨(some 13), .mv (.const (.int .i64 1)), none⟩] [0, 1, 6, 7, 9, 12, 13])
 (.seq (.reg [
     ⟨(some 69), .mv (.tmp 9), none⟩,
     ⟨(some 70), .mv (.tmp 13), none⟩,
     ⟨(some 71), .call 43 [(.tmp 69), (.tmp 70)], none⟩,
     ⟨(some 13), .mv (.tmp 71), none⟩] [0, 1, 6, 7, 9, 12, 13])
 (.seq (.seq (.reg [
     ⟨(some 72), .mv (.tmp 13), none⟩,
     ⟨(some 73), .bin .lss (.tmp 72) (.const (.int .i64 0)), none⟩] [0, 1, 6, 7, 9, 12, 13, 73])
 (.cond (.tmp 73)
  (.seq (.reg [
      ⟨(some 4), .mv (.const (.bool false)), none⟩] [4])
  (.ret))
  (.skip)))
 (.seq (.seq (.reg [
     ⟨(some 74), .mv (.tmp 13), none⟩,
     ⟨(some 75), .mv (.tmp 12), none⟩,
     ⟨(some 76), .bin .neq (.tmp 74) (.tmp 75), none⟩] [0, 1, 6, 7, 9, 12, 76])
 (.cond (.tmp 76)
  (.seq (.reg [
      ⟨(some 4), .mv (.const (.bool false)), none⟩] [4])
  (.ret))
  (.skip)))
 (.seq (.reg [
     ⟨(some 78), .mv (.tmp 0), none⟩,
     ⟨(some 79), .call 28 [(.tmp 78)], none⟩,
     ⟨(some 80), .mv (.tmp 1), none⟩,
     ⟨(some 81), .call 41 [(.tmp 79), (.tmp 80)], none⟩,
     ⟨(some 77), .mv (.tmp 81), none⟩,
     ⟨(some 82), .ext (.tmp 77) 0, none⟩,
     ⟨(some 83), .ext (.tmp 77) 1, none⟩,
     ⟨(some 14), .mv (.tmp 82), none⟩,
     ⟨(some 15), .mv (.tmp 83), none⟩] [6, 7, 9, 12, 14, 15])
 (.seq (.seq (.reg [
     ⟨(some 84), .mv (.tmp 14), none⟩,
     ⟨(some 85), .mv (.tmp 6), none⟩,
     ⟨(some 86), .call 30 [(.tmp 84), (.tmp 85)], none⟩,
     ⟨(some 87), .un .not (.tmp 86), none⟩,
     ⟨(some 88), .mv (.tmp 87), none⟩,
     ⟨(some 89), .mv (.tmp 15), (some (88, false))⟩,
     ⟨(some 90), .mv (.tmp 7), (some (88, false))⟩,
     ⟨(some 91), .bin .neq (.tmp 89) (.tmp 90), (some (88, false))⟩,
     ⟨(some 92), .pick (.tmp 88) (.const (.bool true)) (.tmp 91), none⟩] [9, 12, 92])
 (.cond (.tmp 92)
  (.seq (.reg [
      ⟨(some 4), .mv (.const (.bool false)), none⟩] [4])
  (.ret))
  (.skip)))
 (.seq (.reg [
     ⟨(some 13), .mv (.const (.int .i64 1)), none⟩] [9, 12, 13])
 (.seq (.reg [
     ⟨(some 93), .mv (.tmp 9), none⟩,
     ⟨(some 94), .mv (.tmp 13), none⟩,
     ⟨(some 95), .call 43 [(.tmp 93), (.tmp 94)], none⟩,
     ⟨(some 13), .mv (.tmp 95), none⟩] [12, 13])
 (.seq (.seq (.reg [
     ⟨(some 96), .mv (.tmp 13), none⟩,
     ⟨(some 97), .bin .lss (.tmp 96) (.const (.int .i64 0)), none⟩] [12, 13, 97])
 (.cond (.tmp 97)
  (.seq (.reg [
      ⟨(some 4), .mv (.const (.bool false)), none⟩] [4])
  (.ret))
  (.skip)))
 (.seq (.seq (.reg [
     ⟨(some 98), .mv (.tmp 13), none⟩,
     ⟨(some 99), .mv (.tmp 12), none⟩,
     ⟨(some 100), .bin .neq (.tmp 98) (.tmp 99), none⟩] [100])
 (.cond (.tmp 100)
  (.seq (.reg [
      ⟨(some 4), .mv (.const (.bool false)), none⟩] [4])
  (.ret))
  (.skip)))
 (.seq (.reg [
     ⟨(some 4), .mv (.const (.bool true)), none⟩] [4])
 (.ret)))))))))))))))))))))))))
theorem s_laws_FnExactCompletePartial : stripF Try.prog 8 [[0, 1], [0, 1, 5], [0, 1, 5], [0, 1, 20], [4], [0, 1, 6, 7], [0, 1, 6, 7, 8], [0, 1, 6, 7, 8, 9, 10], [0, 1, 6, 7, 8, 9, 10, 44], [4], [0, 1, 6, 7, 8, 9, 10, 49], [4], [0, 1, 6, 7, 8, 9, 10, 11], [0, 1, 6, 7, 9, 10, 11], [0, 1, 6, 7, 9, 65], [4], [0, 1, 6, 7, 9, 12], [0, 1, 6, 7, 9, 12], [0, 1, 6, 7, 9, 12, 13], [0, 1, 6, 7, 9, 12, 13], [0, 1, 6, 7, 9, 12, 13, 73], [4], [0, 1, 6, 7, 9, 12, 76], [4], [6, 7, 9, 12, 14, 15], [9, 12, 92], [4], [9, 12, 13], [12, 13], [12, 13, 97], [4], [100], [4], [4]] = some (c_laws_FnExactCompletePartial, [.tmp 4], 101) := by kernel_rfl

/-- loop.example/g00920/spec.CompletePartial -/
abbrev f_spec_CompletePartial : Nat := 40
def c_spec_CompletePartial : SC :=
 .seq (.reg [
     ⟨(some 4), .mv (.const (.slice none 0 0)), none⟩,
     ⟨(some 5), .mv (.const (.int .i64 0)), none⟩] [0, 1])
 (.seq (.seq (.reg [
     ⟨(some 7), .mv (.tmp 0), none⟩,
     ⟨(some 8), .call 71 [(.tmp 7)], none⟩,
     ⟨(some 9), .un .not (.tmp 8), none⟩] [0, 1, 9])
 (.cond (.tmp 9)
  (.seq (.reg [
      ⟨(some 4), .mv (.const (.slice none 0 0)), none⟩,
      ⟨(some 5), .mv (.const (.int .i64 1)), none⟩] [4, 5])
  (.ret))
  (.skip)))
 (.seq (.seq (.reg [
     ⟨(some 10), .mv (.tmp 1), none⟩,
     ⟨(some 11), .call 63 [(.tmp 10)], none⟩,
     ⟨(some 12), .un .not (.tmp 11), none⟩] [0, 1, 12])
 (.cond (.tmp 12)
  (.seq (.reg [
      ⟨(some 4), .mv (.const (.slice none 0 0)), none⟩,
      ⟨(some 5), .mv (.const (.int .i64 2)), none⟩] [4, 5])
  (.ret))
  (.skip)))
 (.seq (.reg [
     ⟨(some 13), .mv (.tmp 0), none⟩,
     ⟨(some 14), .mv (.tmp 1), none⟩,
     ⟨(some 15), .call 88 [(.tmp 13), (.const (.int .i64 1)), (.tmp 14)], none⟩,
     ⟨(some 6), .mv (.tmp 15), none⟩] [6])
 (.seq (.seq (.reg [
     ⟨(some 16), .mv (.tmp 6), none⟩,
     ⟨(some 17), .nilc (.tmp 16), none⟩,
     ⟨(some 18), .faddr 2 (.tmp 17), none⟩,
     ⟨(some 19), .load 1 false (.tmp 18), none⟩,
     ⟨(some 20), .bin .gtr (.tmp 19) (.const (.int .i64 0)), none⟩] [6, 20])
 (.cond (.tmp 20)
  (.seq (.reg [
      ⟨(some 21), .mv (.tmp 6), none⟩,
      ⟨(some 22), .nilc (.tmp 21), none⟩,
      ⟨(some 23), .faddr 1 (.tmp 22), none⟩,
      ⟨(some 24), .load 1 false (.tmp 23), none⟩,
      ⟨(some 4), .mv (.tmp 24), none⟩,
      ⟨(some 5), .mv (.const (.int .i64 0)), none⟩] [4, 5])
  (.ret))
  (.skip)))
 (.seq (.seq (.reg [
     ⟨(some 25), .mv (.tmp 6), none⟩,
     ⟨(some 26), .nilc (.tmp 25), none⟩,
     ⟨(some 27), .faddr 6 (.tmp 26), none⟩,
     ⟨(some 28), .load 1 false (.tmp 27), none⟩] [28])
 (.cond (.tmp 28)
  (.seq (.reg [
      ⟨(some 4), .mv (.const (.slice none 0 0)), none⟩,
      ⟨(some 5), .mv (.const (.int .i64 5)), none⟩] [4, 5])
  (.ret))
  (.skip)))
 (.seq (.reg [
     ⟨(some 4), .mv (.const (.slice none 0 0)), none⟩,
     ⟨(some 5), .mv (.const (.int .i64 3)), none⟩] [4, 5])
 (.ret)))))))
theorem s_spec_CompletePartial : stripF Try.prog 40 [[0, 1], [0, 1, 9], [4, 5], [0, 1, 12], [4, 5], [6], [6, 20], [4, 5], [28], [4, 5], [4, 5]] = some (c_spec_CompletePartial, [.tmp 4, .tmp 5], 29) := by kernel_rfl

/-- loop.example/g00920/impl.CompletePartial -/
abbrev f_impl_CompletePartial : Nat := 41
def c_impl_CompletePartial : SC :=
 .seq (.reg [
     ⟨(some 4), .mv (.const (.slice none 0 0)), none⟩,
     ⟨(some 5), .mv (.const (.int .i64 0)), none⟩] [0, 1])
 (.seq (.seq (.reg [
     ⟨(some 7), .mv (.tmp 0), none⟩,
     ⟨(some 8), .call 73 [(.tmp 7)], none⟩,
     ⟨(some 9), .un .not (.tmp 8), none⟩] [0, 1, 9])
 (.cond (.tmp 9)
  (.seq (.reg [
      ⟨(some 4), .mv (.const (.slice none 0 0)), none⟩,
      ⟨(some 5), .mv (.const (.int .i64 1)), none⟩] [4, 5])
  (.ret))
  (.skip)))
 (.seq (.seq (.reg [
     ⟨(some 10), .mv (.tmp 1), none⟩,
     ⟨(some 11), .call 66 [(.tmp 10)], none⟩,
     ⟨(some 12), .un .not (.tmp 11), none⟩] [0, 1, 12])
 (.cond (.tmp 12)
  (.seq (.reg [
      ⟨(some 4), .mv (.const (.slice none 0 0)), none⟩,
      ⟨(some 5), .mv (.const (.int .i64 2)), none⟩] [4, 5])
  (.ret))
  (.skip)))
 (.seq (.reg [
     ⟨(some 13), .mv (.tmp 0), none⟩,
     ⟨(some 14), .mv (.tmp 1), none⟩,
     ⟨(some 15), .call 74 [(.tmp 13), (.const (.int .i64 1)), (.tmp 14)], none⟩,
     ⟨(some 6), .mv (.tmp 15), none⟩] [6])
 (.block 0 (.seq (.reg [
      ⟨(some 21), .mv (.tmp 6), none⟩,
      ⟨(some 22), .nilc (.tmp 21), none⟩,
      ⟨(some 23), .faddr 0 (.tmp 22), none⟩,
      ⟨(some 24), .faddr 1 (.tmp 23), none⟩,
      ⟨(some 25), .load 1 false (.tmp 24), none⟩,
      ⟨(some 20), .mv (.tmp 25), none⟩] [6, 20])
  (.cond (.tmp 20)
   (.seq (.reg [
       ⟨(some 4), .mv (.const (.slice none 0 0)), none⟩,
       ⟨(some 5), .mv (.const (.int .i64 5)), none⟩] [4, 5])
   (.ret))
   (.seq (.reg [
       ⟨(some 27), .mv (.tmp 6), none⟩,
       ⟨(some 28), .nilc (.tmp 27), none⟩,
       ⟨(some 29), .faddr 5 (.tmp 28), none⟩,
       ⟨(some 30), .load 1 false (.tmp 29), none⟩,
       ⟨(some 31), .bin .eql (.tmp 30) (.const (.int .i64 0)), none⟩,
       ⟨(some 26), .mv (.tmp 31), none⟩] [6, 26])
   (.cond (.tmp 26)
    (.seq (.reg [
        ⟨(some 4), .mv (.const (.slice none 0 0)), none⟩,
        ⟨(some 5), .mv (.const (.int .i64 3)), none⟩] [4, 5])
    (.ret))
    (.seq (.reg [
        ⟨(some 16), .mv (.tmp 6), none⟩,
        ⟨(some 17), .nilc (.tmp 16), none⟩,
        ⟨(some 18), .faddr 6 (.tmp 17), none⟩,
        ⟨(some 19), .load 1 false (.tmp 18), none⟩,
        ⟨(some 4), .mv (.tmp 19), none⟩,
        ⟨(some 5), .mv (.const (.int .i64 0)), none⟩] [4, 5])
    (.ret))))))))))
theorem s_impl_CompletePartial : stripF Try.prog 41 [[0, 1], [0, 1, 9], [4, 5], [0, 1, 12], [4, 5], [6], [6, 20], [4, 5], [6, 26], [4, 5], [4, 5]] = some (c_impl_CompletePartial, [.tmp 4, .tmp 5], 32) := by kernel_rfl


theorem sq_own {Hb ext : List Blk} {v w b : Nat} {xss : List (List Int)} (hb : b ≤ Hb.length) : OwnSS (Hb ++ (sqB v w Hb.length xss ++ ext)) (Btw b (Hb ++ (sqB v w Hb.length xss ++ ext)).length) (.nm Hb.length v 0 xss.length) xss := by
  have hlen : (Hb ++ (sqB v w Hb.length xss ++ ext)).length = Hb.length + (xss.length + 1 + ext.length) := by simp [sqB_length]
  refine .inl ⟨Hb.length, v, _, _, rfl, ⟨hb, by rw [hlen]; omega⟩, sq_get0, nmsV_length _ _ _, ?_, ?_⟩
  · intro j c xs hc hx
    have hl := (List.getElem?_eq_some_iff.1 hx).1
    rw [sq_cell hl] at hc
    cases hc
    have e : xss.getD j [] = xs := by rw [List.getD_eq_getElem?_getD, hx]; rfl
    have := sq_get (Hb := Hb) (v := v) (w := w) (ext := ext) hl
    rw [e] at this ⊢
    exact .inl ⟨Hb.length + 1 + j, w, _, rfl, ⟨by omega, by rw [hlen]; omega⟩, by omega, this⟩
  · intro i j r v1 o1 l1 v2 o2 l2 hij h1 h2
    have hi : i < xss.length := by have := (List.getElem?_eq_some_iff.1 h1).1; rwa [nmsV_length] at this
    have hj : j < xss.length := by have := (List.getElem?_eq_some_iff.1 h2).1; rwa [nmsV_length] at this
    rw [sq_cell hi] at h1
    rw [sq_cell hj] at h2
    simp only [Option.some.injEq, AV.nm.injEq] at h1 h2
    omega
theorem GR.ren0 {H0 ext : List Blk} {R : AV → List Blk → Prop} {r r' : AV} (hf : Ren (H0 ++ ext) H0.length [] r r') (h : R r' H0) : GR H0 R r (H0 ++ ext) := by
  refine GR.ren (js := []) (H2 := []) ⟨rfl, fun p q j h => by simp at h, fun p j nb h => by simp at h, fun p nb h => by simp at h⟩ hf ?_
  rw [List.append_nil]; exact h
def cpV (p : List (List Int)) (b : Int) : List (List Int) × Int :=
  if !partB p then ([], 1) else if !(decide (1 ≤ b) && decide (b ≤ 20000)) then ([], 2) else
    if (outS p.length 1 p b.toNat).spent then ([], 5) else match (outS p.length 1 p b.toNat).first with
      | none => ([], 3)
      | some f => (f, 0)
theorem implComplete_fss (p : List (List Int)) (b : Int) : FSS Try.prog f_impl_CompletePartial [ilSS p, I b] (cpV p b).1 (cpV p b).2 := by
  intro H
  have hv := ValidPartial_fn p
  refine ACalls.introB s_impl_CompletePartial (by simp) ?_; intro hB hA; unfold c_impl_CompletePartial; simp (config := { maxSteps := 1000000 }) (disch := (first | omega | (simp only [go_sem]; try omega))) only [go_sem, Nat.reduceAdd, Nat.reduceEqDiff, Nat.reduceLeDiff, Nat.reduceMul, Nat.reduceLT, reduceIte, Int.reduceToNat, w64_id, cast_succ]
  repeat (first | (with_reducible first | refine SW.seq ?_ | refine SW.block ?_ | refine SW.rowC ?_ | refine SW.skip ?_ | refine SW.exit ?_ | refine PFn.use (hv) ?_ | refine PFn.useq (hv) ?_ | intro _ | refine And.intro (by omega) ?_) | simp (config := { maxSteps := 1000000 }) (disch := (first | omega | (simp only [go_sem]; try omega))) only [go_sem, Nat.reduceAdd, Nat.reduceEqDiff, Nat.reduceLeDiff, Nat.reduceMul, Nat.reduceLT, reduceIte, Int.reduceToNat, w64_id, cast_succ])
  (first | refine SW.condD rfl (fun h => ?_) (fun h => ?_) | refine SW.condN rfl (fun h => ?_) (fun h => ?_) | refine SW.condNB rfl (fun h => ?_) (fun h => ?_) | refine SW.condB rfl (fun h => ?_) (fun h => ?_))
  · rw [cpV, h]
    repeat (first | (with_reducible first | refine SW.seq ?_ | refine SW.block ?_ | refine SW.rowC ?_ | refine SW.skip ?_ | refine SW.exit ?_ | intro _ | refine And.intro (by omega) ?_) | simp (config := { maxSteps := 1000000 }) (disch := (first | omega | (simp only [go_sem]; try omega))) only [go_sem, Nat.reduceAdd, Nat.reduceEqDiff, Nat.reduceLeDiff, Nat.reduceMul, Nat.reduceLT, reduceIte, Int.reduceToNat, w64_id, cast_succ])
    refine SW.ret ?_; (try simp only [go_sem]); (first | refine FunPost.one ?_ | refine FunPost.two ?_ | refine FunPost.three ?_); (try simp (config := { maxSteps := 1000000 }) (disch := (first | omega | (simp only [go_sem]; try omega))) only [go_sem, Nat.reduceAdd, Nat.reduceEqDiff, Nat.reduceLeDiff, Nat.reduceMul, Nat.reduceLT, reduceIte, Int.reduceToNat, w64_id, cast_succ])
    exact GR.of nilFSS0
  have hf := partB_facts h
  rw [cpV, h]
  repeat (first | (with_reducible first | refine SW.seq ?_ | refine SW.block ?_ | refine SW.rowC ?_ | refine SW.skip ?_ | refine SW.exit ?_ | refine PFn.use (isBudget_fn _) ?_ | refine PFn.useq (isBudget_fn _) ?_ | intro _ | refine And.intro (by omega) ?_) | simp (config := { maxSteps := 1000000 }) (disch := (first | omega | (simp only [go_sem]; try omega))) only [go_sem, Nat.reduceAdd, Nat.reduceEqDiff, Nat.reduceLeDiff, Nat.reduceMul, Nat.reduceLT, reduceIte, Int.reduceToNat, w64_id, cast_succ])
  (first | refine SW.condD rfl (fun h1 => ?_) (fun h1 => ?_) | refine SW.condN rfl (fun h1 => ?_) (fun h1 => ?_) | refine SW.condNB rfl (fun h1 => ?_) (fun h1 => ?_) | refine SW.condB rfl (fun h1 => ?_) (fun h1 => ?_))
  · rw [h1]
    repeat (first | (with_reducible first | refine SW.seq ?_ | refine SW.block ?_ | refine SW.rowC ?_ | refine SW.skip ?_ | refine SW.exit ?_ | intro _ | refine And.intro (by omega) ?_) | simp (config := { maxSteps := 1000000 }) (disch := (first | omega | (simp only [go_sem]; try omega))) only [go_sem, Nat.reduceAdd, Nat.reduceEqDiff, Nat.reduceLeDiff, Nat.reduceMul, Nat.reduceLT, reduceIte, Int.reduceToNat, w64_id, cast_succ])
    refine SW.ret ?_; (try simp only [go_sem]); (first | refine FunPost.one ?_ | refine FunPost.two ?_ | refine FunPost.three ?_); (try simp (config := { maxSteps := 1000000 }) (disch := (first | omega | (simp only [go_sem]; try omega))) only [go_sem, Nat.reduceAdd, Nat.reduceEqDiff, Nat.reduceLeDiff, Nat.reduceMul, Nat.reduceLT, reduceIte, Int.reduceToNat, w64_id, cast_succ])
    exact GR.of nilFSS0
  rw [h1]
  simp only [Bool.and_eq_true, decide_eq_true_eq] at h1
  obtain ⟨b, rfl⟩ := Int.eq_ofNat_of_zero_le (show 0 ≤ b by omega)
  have hgood := outS_good p.length 1 p b (Nat.le_refl _)
  have hfirst := outS_first p.length 1 p b ⟨rfl, hf.2.2⟩
  repeat (first | (with_reducible first | refine SW.seq ?_ | refine SW.block ?_ | refine SW.rowC ?_ | refine SW.skip ?_ | refine SW.exit ?_ | intro _ | refine And.intro (by omega) ?_) | simp (config := { maxSteps := 1000000 }) (disch := (first | omega | (simp only [go_sem]; try omega))) only [go_sem, Nat.reduceAdd, Nat.reduceEqDiff, Nat.reduceLeDiff, Nat.reduceMul, Nat.reduceLT, reduceIte, Int.reduceToNat, w64_id, cast_succ])
  refine (completions_ok _ p 1 b ⟨hf.1, hf.2.1⟩ hf.2.2 (by omega) (by omega)).mono ?_
  rintro r H1 ⟨rfl, rfl⟩
  have hQ := sqB_length p.length 1 H.length p
  have hg1 := fun (b : Blk) (r : List Blk) => getAt hQ b r
  generalize outS p.length 1 p b = S at *
  obtain ⟨l2, sp2, ct2, fi2⟩ := S
  have e1 : hpC H p.length 1 (empT p p.length (p.length * p.length)) p ⟨l2, sp2, ct2, fi2⟩ = H ++ (sqB p.length 1 H.length p ++ ⟨0, tyCo, 1, [I l2, Bv sp2, .nm H.length p.length 0 p.length, ilS (natL (empT p p.length (p.length * p.length))), I 1, I ct2, fAV p.length H.length fi2]⟩ :: fB p.length H.length fi2) := rfl
  rw [e1]
  cases sp2
  · cases fi2 with
    | none =>
      have h0 : ct2 = 0 := by
        rcases Nat.eq_zero_or_pos ct2 with h2 | h2
        · exact h2
        · have := hgood.2.2.2 h2; simp at this
      subst h0
      repeat (first | (with_reducible first | refine SW.seq ?_ | refine SW.block ?_ | refine SW.rowC ?_ | refine SW.skip ?_ | refine SW.exit ?_ | intro _ | refine And.intro (by omega) ?_) | simp (config := { maxSteps := 1000000 }) (disch := (first | omega | (simp only [go_sem]; try omega))) only [go_sem, Nat.reduceAdd, Nat.reduceEqDiff, Nat.reduceLeDiff, Nat.reduceMul, Nat.reduceLT, reduceIte, Int.reduceToNat, w64_id, cast_succ, hg1])
      refine SW.condF rfl ?_
      repeat (first | (with_reducible first | refine SW.seq ?_ | refine SW.block ?_ | refine SW.rowC ?_ | refine SW.skip ?_ | refine SW.exit ?_ | intro _ | refine And.intro (by omega) ?_) | simp (config := { maxSteps := 1000000 }) (disch := (first | omega | (simp only [go_sem]; try omega))) only [go_sem, Nat.reduceAdd, Nat.reduceEqDiff, Nat.reduceLeDiff, Nat.reduceMul, Nat.reduceLT, reduceIte, Int.reduceToNat, w64_id, cast_succ, hg1])
      refine SW.condT rfl ?_
      repeat (first | (with_reducible first | refine SW.seq ?_ | refine SW.block ?_ | refine SW.rowC ?_ | refine SW.skip ?_ | refine SW.exit ?_ | intro _ | refine And.intro (by omega) ?_) | simp (config := { maxSteps := 1000000 }) (disch := (first | omega | (simp only [go_sem]; try omega))) only [go_sem, Nat.reduceAdd, Nat.reduceEqDiff, Nat.reduceLeDiff, Nat.reduceMul, Nat.reduceLT, reduceIte, Int.reduceToNat, w64_id, cast_succ])
      refine SW.ret ?_; (try simp only [go_sem]); (first | refine FunPost.one ?_ | refine FunPost.two ?_ | refine FunPost.three ?_); (try simp (config := { maxSteps := 1000000 }) (disch := (first | omega | (simp only [go_sem]; try omega))) only [go_sem, Nat.reduceAdd, Nat.reduceEqDiff, Nat.reduceLeDiff, Nat.reduceMul, Nat.reduceLT, reduceIte, Int.reduceToNat, w64_id, cast_succ])
      exact GR.of (nilFSS (ext := _))
    | some f =>
      have h0 : ¬ (ct2 : Int) = 0 := by have : 0 < ct2 := hgood.2.2.1 rfl; omega
      have hff := hfirst f rfl
      repeat (first | (with_reducible first | refine SW.seq ?_ | refine SW.block ?_ | refine SW.rowC ?_ | refine SW.skip ?_ | refine SW.exit ?_ | intro _ | refine And.intro (by omega) ?_) | simp (config := { maxSteps := 1000000 }) (disch := (first | omega | (simp only [go_sem]; try omega))) only [go_sem, Nat.reduceAdd, Nat.reduceEqDiff, Nat.reduceLeDiff, Nat.reduceMul, Nat.reduceLT, reduceIte, Int.reduceToNat, w64_id, cast_succ, hg1])
      refine SW.condF rfl ?_
      repeat (first | (with_reducible first | refine SW.seq ?_ | refine SW.block ?_ | refine SW.rowC ?_ | refine SW.skip ?_ | refine SW.exit ?_ | intro _ | refine And.intro (by omega) ?_) | simp (config := { maxSteps := 1000000 }) (disch := (first | omega | (simp only [go_sem]; try omega))) only [go_sem, Nat.reduceAdd, Nat.reduceEqDiff, Nat.reduceLeDiff, Nat.reduceMul, Nat.reduceLT, reduceIte, Int.reduceToNat, w64_id, cast_succ, hg1, h0])
      refine SW.condF rfl ?_
      have hfa : fAV p.length H.length (some f) = .nm (H.length + (p.length + 2)) p.length 0 p.length := rfl
      repeat (first | (with_reducible first | refine SW.seq ?_ | refine SW.block ?_ | refine SW.rowC ?_ | refine SW.skip ?_ | refine SW.exit ?_ | intro _ | refine And.intro (by omega) ?_) | simp (config := { maxSteps := 1000000 }) (disch := (first | omega | (simp only [go_sem]; try omega))) only [go_sem, Nat.reduceAdd, Nat.reduceEqDiff, Nat.reduceLeDiff, Nat.reduceMul, Nat.reduceLT, reduceIte, Int.reduceToNat, w64_id, cast_succ, hg1, hfa])
      refine SW.ret ?_; (try simp only [go_sem]); (first | refine FunPost.one ?_ | refine FunPost.two ?_ | refine FunPost.three ?_); (try simp (config := { maxSteps := 1000000 }) (disch := (first | omega | (simp only [go_sem]; try omega))) only [go_sem, Nat.reduceAdd, Nat.reduceEqDiff, Nat.reduceLeDiff, Nat.reduceMul, Nat.reduceLT, reduceIte, Int.reduceToNat, w64_id, cast_succ])
      refine GR.of ⟨_, _, rfl, rfl, ?_⟩
      have hHb : (H ++ (sqB p.length 1 H.length p ++ [(⟨0, tyCo, 1, [I l2, Bv false, .nm H.length p.length 0 p.length, ilS (natL (empT p p.length (p.length * p.length))), I 1, I ct2, .nm (H.length + (p.length + 2)) p.length 0 p.length]⟩ : Blk)])).length = H.length + (p.length + 2) := by
        simp [hQ]
      have := sq_own (b := H.length) (Hb := H ++ (sqB p.length 1 H.length p ++ [(⟨0, tyCo, 1, [I l2, Bv false, .nm H.length p.length 0 p.length, ilS (natL (empT p p.length (p.length * p.length))), I 1, I ct2, .nm (H.length + (p.length + 2)) p.length 0 p.length]⟩ : Blk)])) (v := p.length) (w := 1) (xss := f) (ext := []) (by rw [hHb]; omega)
      rw [hHb, hff.1] at this
      have hfb : fB p.length H.length (some f) = sqB p.length 1 (H.length + (p.length + 2)) f := rfl
      rw [hfb]
      simp only [List.append_assoc, List.append_nil, List.singleton_append] at this
      exact this
  · repeat (first | (with_reducible first | refine SW.seq ?_ | refine SW.block ?_ | refine SW.rowC ?_ | refine SW.skip ?_ | refine SW.exit ?_ | intro _ | refine And.intro (by omega) ?_) | simp (config := { maxSteps := 1000000 }) (disch := (first | omega | (simp only [go_sem]; try omega))) only [go_sem, Nat.reduceAdd, Nat.reduceEqDiff, Nat.reduceLeDiff, Nat.reduceMul, Nat.reduceLT, reduceIte, Int.reduceToNat, w64_id, cast_succ, hg1])
    refine SW.condT rfl ?_
    repeat (first | (with_reducible first | refine SW.seq ?_ | refine SW.block ?_ | refine SW.rowC ?_ | refine SW.skip ?_ | refine SW.exit ?_ | intro _ | refine And.intro (by omega) ?_) | simp (config := { maxSteps := 1000000 }) (disch := (first | omega | (simp only [go_sem]; try omega))) only [go_sem, Nat.reduceAdd, Nat.reduceEqDiff, Nat.reduceLeDiff, Nat.reduceMul, Nat.reduceLT, reduceIte, Int.reduceToNat, w64_id, cast_succ])
    refine SW.ret ?_; (try simp only [go_sem]); (first | refine FunPost.one ?_ | refine FunPost.two ?_ | refine FunPost.three ?_); (try simp (config := { maxSteps := 1000000 }) (disch := (first | omega | (simp only [go_sem]; try omega))) only [go_sem, Nat.reduceAdd, Nat.reduceEqDiff, Nat.reduceLeDiff, Nat.reduceMul, Nat.reduceLT, reduceIte, Int.reduceToNat, w64_id, cast_succ])
    exact GR.of (nilFSS (ext := _))
theorem specComplete_fn (p : List (List Int)) (b : Int) : PFn Try.prog f_spec_CompletePartial [ilSS p, I b] (.tup [ilSS (cpV p b).1, I (cpV p b).2]) := by
  intro H
  have hv := l09Ok_fn p
  refine ACalls.introB s_spec_CompletePartial (by simp) ?_; intro hB hA; unfold c_spec_CompletePartial; simp (config := { maxSteps := 1000000 }) (disch := (first | omega | (simp only [go_sem]; try omega))) only [go_sem, Nat.reduceAdd, Nat.reduceEqDiff, Nat.reduceLeDiff, Nat.reduceMul, Nat.reduceLT, reduceIte, Int.reduceToNat, w64_id, cast_succ]
  repeat (first | (with_reducible first | refine SW.seq ?_ | refine SW.block ?_ | refine SW.rowC ?_ | refine SW.skip ?_ | refine SW.exit ?_ | refine PFn.use (hv) ?_ | refine PFn.useq (hv) ?_ | intro _ | refine And.intro (by omega) ?_) | simp (config := { maxSteps := 1000000 }) (disch := (first | omega | (simp only [go_sem]; try omega))) only [go_sem, Nat.reduceAdd, Nat.reduceEqDiff, Nat.reduceLeDiff, Nat.reduceMul, Nat.reduceLT, reduceIte, Int.reduceToNat, w64_id, cast_succ])
  (first | refine SW.condD rfl (fun h => ?_) (fun h => ?_) | refine SW.condN rfl (fun h => ?_) (fun h => ?_) | refine SW.condNB rfl (fun h => ?_) (fun h => ?_) | refine SW.condB rfl (fun h => ?_) (fun h => ?_))
  · rw [cpV, h]
    repeat (first | (with_reducible first | refine SW.seq ?_ | refine SW.block ?_ | refine SW.rowC ?_ | refine SW.skip ?_ | refine SW.exit ?_ | intro _ | refine And.intro (by omega) ?_) | simp (config := { maxSteps := 1000000 }) (disch := (first | omega | (simp only [go_sem]; try omega))) only [go_sem, Nat.reduceAdd, Nat.reduceEqDiff, Nat.reduceLeDiff, Nat.reduceMul, Nat.reduceLT, reduceIte, Int.reduceToNat, w64_id, cast_succ])
    refine SW.ret ?_; (try simp only [go_sem]); (first | refine FunPost.one ?_ | refine FunPost.two ?_ | refine FunPost.three ?_); (try simp (config := { maxSteps := 1000000 }) (disch := (first | omega | (simp only [go_sem]; try omega))) only [go_sem, Nat.reduceAdd, Nat.reduceEqDiff, Nat.reduceLeDiff, Nat.reduceMul, Nat.reduceLT, reduceIte, Int.reduceToNat, w64_id, cast_succ])
    exact GR.froz0 (froz_tup2 .nil (froz_I' _)) ⟨rfl, rfl⟩
  have hf := partB_facts h
  rw [cpV, h]
  repeat (first | (with_reducible first | refine SW.seq ?_ | refine SW.block ?_ | refine SW.rowC ?_ | refine SW.skip ?_ | refine SW.exit ?_ | refine PFn.use (l09Budget_fn _) ?_ | refine PFn.useq (l09Budget_fn _) ?_ | intro _ | refine And.intro (by omega) ?_) | simp (config := { maxSteps := 1000000 }) (disch := (first | omega | (simp only [go_sem]; try omega))) only [go_sem, Nat.reduceAdd, Nat.reduceEqDiff, Nat.reduceLeDiff, Nat.reduceMul, Nat.reduceLT, reduceIte, Int.reduceToNat, w64_id, cast_succ])
  (first | refine SW.condD rfl (fun h1 => ?_) (fun h1 => ?_) | refine SW.condN rfl (fun h1 => ?_) (fun h1 => ?_) | refine SW.condNB rfl (fun h1 => ?_) (fun h1 => ?_) | refine SW.condB rfl (fun h1 => ?_) (fun h1 => ?_))
  · rw [h1]
    repeat (first | (with_reducible first | refine SW.seq ?_ | refine SW.block ?_ | refine SW.rowC ?_ | refine SW.skip ?_ | refine SW.exit ?_ | intro _ | refine And.intro (by omega) ?_) | simp (config := { maxSteps := 1000000 }) (disch := (first | omega | (simp only [go_sem]; try omega))) only [go_sem, Nat.reduceAdd, Nat.reduceEqDiff, Nat.reduceLeDiff, Nat.reduceMul, Nat.reduceLT, reduceIte, Int.reduceToNat, w64_id, cast_succ])
    refine SW.ret ?_; (try simp only [go_sem]); (first | refine FunPost.one ?_ | refine FunPost.two ?_ | refine FunPost.three ?_); (try simp (config := { maxSteps := 1000000 }) (disch := (first | omega | (simp only [go_sem]; try omega))) only [go_sem, Nat.reduceAdd, Nat.reduceEqDiff, Nat.reduceLeDiff, Nat.reduceMul, Nat.reduceLT, reduceIte, Int.reduceToNat, w64_id, cast_succ])
    exact GR.froz0 (froz_tup2 .nil (froz_I' _)) ⟨rfl, rfl⟩
  rw [h1]
  simp only [Bool.and_eq_true, decide_eq_true_eq] at h1
  obtain ⟨b, rfl⟩ := Int.eq_ofNat_of_zero_le (show 0 ≤ b by omega)
  have hgood := outS_good p.length 1 p b (Nat.le_refl _)
  have hfirst := outS_first p.length 1 p b ⟨rfl, hf.2.2⟩
  repeat (first | (with_reducible first | refine SW.seq ?_ | refine SW.block ?_ | refine SW.rowC ?_ | refine SW.skip ?_ | refine SW.exit ?_ | intro _ | refine And.intro (by omega) ?_) | simp (config := { maxSteps := 1000000 }) (disch := (first | omega | (simp only [go_sem]; try omega))) only [go_sem, Nat.reduceAdd, Nat.reduceEqDiff, Nat.reduceLeDiff, Nat.reduceMul, Nat.reduceLT, reduceIte, Int.reduceToNat, w64_id, cast_succ])
  refine (l09Search_ok _ p 1 b h (by omega) (by omega)).mono ?_
  rintro r H1 ⟨fl, rfl, rfl, hrel⟩
  have hQ := sqB_length p.length 1 H.length p
  have hg1 := fun (b : Blk) (r : List Blk) => getAt hQ b r
  generalize outS p.length 1 p b = S at *
  obtain ⟨l2, sp2, ct2, fi2⟩ := S
  have e1 : hpF H p.length 1 b p ⟨l2, sp2, ct2, fi2⟩ fl = H ++ (sqB p.length 1 H.length p ++ ⟨0, tyF, 1, [.nm H.length p.length 0 p.length, fAV p.length H.length fi2, I ct2, I 1, I b, I ((b - l2 : Nat) : Int), Bv fl]⟩ :: fB p.length H.length fi2) := rfl
  rw [e1]
  simp only at hrel
  cases fi2 with
  | none =>
    have h0 : ct2 = 0 := by
      rcases Nat.eq_zero_or_pos ct2 with h2 | h2
      · exact h2
      · have := hgood.2.2.2 h2; simp at this
    subst h0
    have hfl : fl = sp2 := by
      rcases hrel with h | h
      · exact h
      · cases h
    subst hfl
    repeat (first | (with_reducible first | refine SW.seq ?_ | refine SW.block ?_ | refine SW.rowC ?_ | refine SW.skip ?_ | refine SW.exit ?_ | intro _ | refine And.intro (by omega) ?_) | simp (config := { maxSteps := 1000000 }) (disch := (first | omega | (simp only [go_sem]; try omega))) only [go_sem, Nat.reduceAdd, Nat.reduceEqDiff, Nat.reduceLeDiff, Nat.reduceMul, Nat.reduceLT, reduceIte, Int.reduceToNat, w64_id, cast_succ, hg1])
    refine SW.condF rfl ?_
    cases fl
    · repeat (first | (with_reducible first | refine SW.seq ?_ | refine SW.block ?_ | refine SW.rowC ?_ | refine SW.skip ?_ | refine SW.exit ?_ | intro _ | refine And.intro (by omega) ?_) | simp (config := { maxSteps := 1000000 }) (disch := (first | omega | (simp only [go_sem]; try omega))) only [go_sem, Nat.reduceAdd, Nat.reduceEqDiff, Nat.reduceLeDiff, Nat.reduceMul, Nat.reduceLT, reduceIte, Int.reduceToNat, w64_id, cast_succ, hg1])
      refine SW.condF rfl ?_
      repeat (first | (with_reducible first | refine SW.seq ?_ | refine SW.block ?_ | refine SW.rowC ?_ | refine SW.skip ?_ | refine SW.exit ?_ | intro _ | refine And.intro (by omega) ?_) | simp (config := { maxSteps := 1000000 }) (disch := (first | omega | (simp only [go_sem]; try omega))) only [go_sem, Nat.reduceAdd, Nat.reduceEqDiff, Nat.reduceLeDiff, Nat.reduceMul, Nat.reduceLT, reduceIte, Int.reduceToNat, w64_id, cast_succ])
      refine SW.ret ?_; (try simp only [go_sem]); (first | refine FunPost.one ?_ | refine FunPost.two ?_ | refine FunPost.three ?_); (try simp (config := { maxSteps := 1000000 }) (disch := (first | omega | (simp only [go_sem]; try omega))) only [go_sem, Nat.reduceAdd, Nat.reduceEqDiff, Nat.reduceLeDiff, Nat.reduceMul, Nat.reduceLT, reduceIte, Int.reduceToNat, w64_id, cast_succ])
      exact GR.froz (froz_tup2 .nil (froz_I' _)) ⟨rfl, rfl⟩
    · repeat (first | (with_reducible first | refine SW.seq ?_ | refine SW.block ?_ | refine SW.rowC ?_ | refine SW.skip ?_ | refine SW.exit ?_ | intro _ | refine And.intro (by omega) ?_) | simp (config := { maxSteps := 1000000 }) (disch := (first | omega | (simp only [go_sem]; try omega))) only [go_sem, Nat.reduceAdd, Nat.reduceEqDiff, Nat.reduceLeDiff, Nat.reduceMul, Nat.reduceLT, reduceIte, Int.reduceToNat, w64_id, cast_succ, hg1])
      refine SW.condT rfl ?_
      repeat (first | (with_reducible first | refine SW.seq ?_ | refine SW.block ?_ | refine SW.rowC ?_ | refine SW.skip ?_ | refine SW.exit ?_ | intro _ | refine And.intro (by omega) ?_) | simp (config := { maxSteps := 1000000 }) (disch := (first | omega | (simp only [go_sem]; try omega))) only [go_sem, Nat.reduceAdd, Nat.reduceEqDiff, Nat.reduceLeDiff, Nat.reduceMul, Nat.reduceLT, reduceIte, Int.reduceToNat, w64_id, cast_succ])
      refine SW.ret ?_; (try simp only [go_sem]); (first | refine FunPost.one ?_ | refine FunPost.two ?_ | refine FunPost.three ?_); (try simp (config := { maxSteps := 1000000 }) (disch := (first | omega | (simp only [go_sem]; try omega))) only [go_sem, Nat.reduceAdd, Nat.reduceEqDiff, Nat.reduceLeDiff, Nat.reduceMul, Nat.reduceLT, reduceIte, Int.reduceToNat, w64_id, cast_succ])
      exact GR.froz (froz_tup2 .nil (froz_I' _)) ⟨rfl, rfl⟩
  | some f =>
    have h0 : 0 < ct2 := hgood.2.2.1 rfl
    have h0I : (0 : Int) < ct2 := by omega
    have hsp : sp2 = false := by
      cases sp2 with
      | false => rfl
      | true => have : ct2 < 1 := hgood.2.1 rfl; omega
    subst hsp
    have hff := hfirst f rfl
    have hfa : fAV p.length H.length (some f) = .nm (H.length + (p.length + 2)) p.length 0 p.length := rfl
    repeat (first | (with_reducible first | refine SW.seq ?_ | refine SW.block ?_ | refine SW.rowC ?_ | refine SW.skip ?_ | refine SW.exit ?_ | intro _ | refine And.intro (by omega) ?_) | simp (config := { maxSteps := 1000000 }) (disch := (first | omega | (simp only [go_sem]; try omega))) only [go_sem, Nat.reduceAdd, Nat.reduceEqDiff, Nat.reduceLeDiff, Nat.reduceMul, Nat.reduceLT, reduceIte, Int.reduceToNat, w64_id, cast_succ, hg1, h0I])
    refine SW.condT rfl ?_
    repeat (first | (with_reducible first | refine SW.seq ?_ | refine SW.block ?_ | refine SW.rowC ?_ | refine SW.skip ?_ | refine SW.exit ?_ | intro _ | refine And.intro (by omega) ?_) | simp (config := { maxSteps := 1000000 }) (disch := (first | omega | (simp only [go_sem]; try omega))) only [go_sem, Nat.reduceAdd, Nat.reduceEqDiff, Nat.reduceLeDiff, Nat.reduceMul, Nat.reduceLT, reduceIte, Int.reduceToNat, w64_id, cast_succ, hg1, hfa])
    refine SW.ret ?_; (try simp only [go_sem]); (first | refine FunPost.one ?_ | refine FunPost.two ?_ | refine FunPost.three ?_); (try simp (config := { maxSteps := 1000000 }) (disch := (first | omega | (simp only [go_sem]; try omega))) only [go_sem, Nat.reduceAdd, Nat.reduceEqDiff, Nat.reduceLeDiff, Nat.reduceMul, Nat.reduceLT, reduceIte, Int.reduceToNat, w64_id, cast_succ])
    have hHb : (H ++ (sqB p.length 1 H.length p ++ [(⟨0, tyF, 1, [.nm H.length p.length 0 p.length, .nm (H.length + (p.length + 2)) p.length 0 p.length, I ct2, I 1, I b, I ((b - l2 : Nat) : Int), Bv fl]⟩ : Blk)])).length = H.length + (p.length + 2) := by
      simp [hQ]
    have := ren_sq (Hb := H ++ (sqB p.length 1 H.length p ++ [(⟨0, tyF, 1, [.nm H.length p.length 0 p.length, .nm (H.length + (p.length + 2)) p.length 0 p.length, I ct2, I 1, I b, I ((b - l2 : Nat) : Int), Bv fl]⟩ : Blk)])) (k := H.length) (v := p.length) (w := 1) (js := []) (xss := f) (ext := []) (by rw [hHb]; omega) (by simp)
    rw [hHb, hff.1] at this
    simp only [List.append_assoc, List.append_nil, List.singleton_append] at this
    have hfb : fB p.length H.length (some f) = sqB p.length 1 (H.length + (p.length + 2)) f := rfl
    rw [hfb]
    refine GR.ren0 (.tup _ [ilSS f, I 0] rfl ?_) ⟨rfl, rfl⟩
    intro j c c' g1 g2
    match j with
    | 0 => simp at g1 g2; subst g1; subst g2; exact this
    | 1 => simp at g1 g2; subst g1; subst g2; exact ren_I _
    | j + 2 => simp at g1

theorem totalU {m : Nat} : ∀ {xss : List (List Int)}, (∀ x ∈ xss, x.length ≤ m) → total xss ≤ xss.length * m
  | [], _ => by simp [total]
  | x :: r, h => by
    have h1 := h x (by simp)
    have h2 := totalU (fun y hy => h y (by simp [hy]) : ∀ y ∈ r, y.length ≤ m)
    rw [total_cons, List.length_cons, Nat.succ_mul]; omega
theorem cpV_total (p : List (List Int)) (b : Int) : total (cpV p b).1 ≤ 1073741824 := by
  unfold cpV
  split
  · simp [total]
  · rename_i h
    have hf := partB_facts (by simpa using h)
    split
    · simp [total]
    · split
      · simp [total]
      · have hfirst := outS_first p.length 1 p b.toNat ⟨rfl, hf.2.2⟩
        split
        · simp [total]
        · rename_i f hff
          have h2 := hfirst f hff
          have h3 := totalU (m := 10) (fun x hx => by have := h2.2 x hx; omega : ∀ x ∈ f, x.length ≤ 10)
          show total f ≤ _
          omega

theorem lawCompletePartial_ok (H : List Blk) (xss : List (List Int)) (b : Int) (hx : ∀ xs ∈ xss, ∀ x ∈ xs, (Lit.int .i64 x).wf = true) : ACalls Try.prog f_laws_FnExactCompletePartial [ilSS xss, I b] H (fun r _ => r = Bv true) := by
  have hs := specComplete_fn xss b 
  have hi := implComplete_fss xss b 
  have hlen := cpV_total xss b
  generalize (cpV xss b).1 = zss at *
  generalize (cpV xss b).2 = code at *
  refine ACalls.introB s_laws_FnExactCompletePartial (by simp) ?_; intro hB hA; unfold c_laws_FnExactCompletePartial; simp (config := { maxSteps := 1000000 }) (disch := (first | omega | (simp only [go_sem]; try omega))) only [go_sem, Nat.reduceAdd, Nat.reduceEqDiff, Nat.reduceLeDiff, Nat.reduceMul, Nat.reduceLT, reduceIte, Int.reduceToNat, w64_id, cast_succ]
  repeat (first | (with_reducible first | refine SW.seq ?_ | refine SW.block ?_ | refine SW.rowC ?_ | refine SW.skip ?_ | refine SW.exit ?_ | intro _ | refine And.intro (by omega) ?_) | simp (config := { maxSteps := 1000000 }) (disch := (first | omega | (simp only [go_sem]; try omega))) only [go_sem, Nat.reduceAdd, Nat.reduceEqDiff, Nat.reduceLeDiff, Nat.reduceMul, Nat.reduceLT, reduceIte, Int.reduceToNat, w64_id, cast_succ])
  refine (szInt64SS_ok _ _ xss _ (rd_ilSS _ _) (by omega) (by omega)).mono ?_
  rintro r H' ⟨⟨z, rfl, g1, g2, g3⟩, rfl⟩
  repeat (first | (with_reducible first | refine SW.seq ?_ | refine SW.block ?_ | refine SW.rowC ?_ | refine SW.skip ?_ | refine SW.exit ?_ | intro _ | refine And.intro (by omega) ?_) | simp (config := { maxSteps := 1000000 }) (disch := (first | omega | (simp only [go_sem]; try omega))) only [go_sem, Nat.reduceAdd, Nat.reduceEqDiff, Nat.reduceLeDiff, Nat.reduceMul, Nat.reduceLT, reduceIte, Int.reduceToNat, w64_id, cast_succ])
  (first | refine SW.condD rfl (fun h2 => ?_) (fun h2 => ?_) | refine SW.condN rfl (fun h2 => ?_) (fun h2 => ?_) | refine SW.condNB rfl (fun h2 => ?_) (fun h2 => ?_) | refine SW.condB rfl (fun h2 => ?_) (fun h2 => ?_))
  · repeat (first | (with_reducible first | refine SW.seq ?_ | refine SW.block ?_ | refine SW.rowC ?_ | refine SW.skip ?_ | refine SW.exit ?_ | intro _ | refine And.intro (by omega) ?_) | simp (config := { maxSteps := 1000000 }) (disch := (first | omega | (simp only [go_sem]; try omega))) only [go_sem, Nat.reduceAdd, Nat.reduceEqDiff, Nat.reduceLeDiff, Nat.reduceMul, Nat.reduceLT, reduceIte, Int.reduceToNat, w64_id, cast_succ])
    refine SW.ret ?_; (try simp only [go_sem]); (first | refine FunPost.one ?_ | refine FunPost.two ?_ | refine FunPost.three ?_); (try simp (config := { maxSteps := 1000000 }) (disch := (first | omega | (simp only [go_sem]; try omega))) only [go_sem, Nat.reduceAdd, Nat.reduceEqDiff, Nat.reduceLeDiff, Nat.reduceMul, Nat.reduceLT, reduceIte, Int.reduceToNat, w64_id, cast_succ])
    exact GR.of rfl
  have hsx := small_rows (by omega) (g3 (by omega)) (by omega)
  have t1 := toInt64SS_fn xss hsx.1 hsx.2
  have htot : total xss ≤ 1073741824 := by have := g3 (by omega); omega
  repeat (first | (with_reducible first | refine SW.seq ?_ | refine SW.block ?_ | refine SW.rowC ?_ | refine SW.skip ?_ | refine SW.exit ?_ | intro _ | refine And.intro (by omega) ?_) | simp (config := { maxSteps := 1000000 }) (disch := (first | omega | (simp only [go_sem]; try omega))) only [go_sem, Nat.reduceAdd, Nat.reduceEqDiff, Nat.reduceLeDiff, Nat.reduceMul, Nat.reduceLT, reduceIte, Int.reduceToNat, w64_id, cast_succ])
  refine ACalls.fn (t1 _) ?_
  repeat (first | (with_reducible first | refine SW.seq ?_ | refine SW.block ?_ | refine SW.rowC ?_ | refine SW.skip ?_ | refine SW.exit ?_ | refine PFn.use (hs) ?_ | refine PFn.useq (hs) ?_ | intro _ | refine And.intro (by omega) ?_) | simp (config := { maxSteps := 1000000 }) (disch := (first | omega | (simp only [go_sem]; try omega))) only [go_sem, Nat.reduceAdd, Nat.reduceEqDiff, Nat.reduceLeDiff, Nat.reduceMul, Nat.reduceLT, reduceIte, Int.reduceToNat, w64_id, cast_succ])
  refine (toInt64SS_ok _ _ xss (rd_ilSS _ _) hsx.1 hsx.2).mono ?_
  rintro r H1 ⟨rfl, hH1⟩
  have own := fss_own (H := H') xss
  rw [← hH1] at own
  have hlt : H'.length ≤ H1.length := by rw [hH1]; simp
  clear hH1
  generalize (AV.nm H'.length 0 0 xss.length) = v0 at *
  repeat (first | (with_reducible first | refine SW.seq ?_ | refine SW.block ?_ | refine SW.rowC ?_ | refine SW.skip ?_ | refine SW.exit ?_ | intro _ | refine And.intro (by omega) ?_) | simp (config := { maxSteps := 1000000 }) (disch := (first | omega | (simp only [go_sem]; try omega))) only [go_sem, Nat.reduceAdd, Nat.reduceEqDiff, Nat.reduceLeDiff, Nat.reduceMul, Nat.reduceLT, reduceIte, Int.reduceToNat, w64_id, cast_succ, own.oneU.1, own.oneU.2])
  refine (hi.lend (.cons (own.froz (fun r _ => Nat.zero_le _)) (.cons (froz_I' _) .nil))).mono ?_
  rintro r H3 ⟨ext2, u, hH3, rfl, ho⟩
  replace own := own.append ext2
  rw [← hH3] at own
  have hl3 : H1.length ≤ H3.length := by rw [hH3]; simp
  clear hH3
  repeat (first | (with_reducible first | refine SW.seq ?_ | refine SW.block ?_ | refine SW.rowC ?_ | refine SW.skip ?_ | refine SW.exit ?_ | intro _ | refine And.intro (by omega) ?_) | simp (config := { maxSteps := 1000000 }) (disch := (first | omega | (simp only [go_sem]; try omega))) only [go_sem, Nat.reduceAdd, Nat.reduceEqDiff, Nat.reduceLeDiff, Nat.reduceMul, Nat.reduceLT, reduceIte, Int.reduceToNat, w64_id, cast_succ])
  refine ACalls.fn (eqInt64SS_ok _ _ _ _ _ ho.rd (rd_ilSS _ _)) ?_
  repeat (first | (with_reducible first | refine SW.seq ?_ | refine SW.block ?_ | refine SW.rowC ?_ | refine SW.skip ?_ | refine SW.exit ?_ | intro _ | refine And.intro (by omega) ?_) | simp (config := { maxSteps := 1000000 }) (disch := (first | omega | (simp only [go_sem]; try omega))) only [go_sem, Nat.reduceAdd, Nat.reduceEqDiff, Nat.reduceLeDiff, Nat.reduceMul, Nat.reduceLT, reduceIte, Int.reduceToNat, w64_id, cast_succ])
  refine SW.condF rfl ?_
  repeat (first | (with_reducible first | refine SW.seq ?_ | refine SW.block ?_ | refine SW.rowC ?_ | refine SW.skip ?_ | refine SW.exit ?_ | intro _ | refine And.intro (by omega) ?_) | simp (config := { maxSteps := 1000000 }) (disch := (first | omega | (simp only [go_sem]; try omega))) only [go_sem, Nat.reduceAdd, Nat.reduceEqDiff, Nat.reduceLeDiff, Nat.reduceMul, Nat.reduceLT, reduceIte, Int.reduceToNat, w64_id, cast_succ])
  refine ACalls.fn (t1 _) ?_
  repeat (first | (with_reducible first | refine SW.seq ?_ | refine SW.block ?_ | refine SW.rowC ?_ | refine SW.skip ?_ | refine SW.exit ?_ | intro _ | refine And.intro (by omega) ?_) | simp (config := { maxSteps := 1000000 }) (disch := (first | omega | (simp only [go_sem]; try omega))) only [go_sem, Nat.reduceAdd, Nat.reduceEqDiff, Nat.reduceLeDiff, Nat.reduceMul, Nat.reduceLT, reduceIte, Int.reduceToNat, w64_id, cast_succ])
  refine ACalls.fn (eqInt64SS_ok _ _ _ xss xss own.rd (rd_ilSS _ _)) ?_
  rw [show decide (xss = xss) = true by simp]
  repeat (first | (with_reducible first | refine SW.seq ?_ | refine SW.block ?_ | refine SW.rowC ?_ | refine SW.skip ?_ | refine SW.exit ?_ | intro _ | refine And.intro (by omega) ?_) | simp (config := { maxSteps := 1000000 }) (disch := (first | omega | (simp only [go_sem]; try omega))) only [go_sem, Nat.reduceAdd, Nat.reduceEqDiff, Nat.reduceLeDiff, Nat.reduceMul, Nat.reduceLT, reduceIte, Int.reduceToNat, w64_id, cast_succ])
  refine SW.condF rfl ?_
  repeat (first | (with_reducible first | refine SW.seq ?_ | refine SW.block ?_ | refine SW.rowC ?_ | refine SW.skip ?_ | refine SW.exit ?_ | intro _ | refine And.intro (by omega) ?_) | simp (config := { maxSteps := 1000000 }) (disch := (first | omega | (simp only [go_sem]; try omega))) only [go_sem, Nat.reduceAdd, Nat.reduceEqDiff, Nat.reduceLeDiff, Nat.reduceMul, Nat.reduceLT, reduceIte, Int.reduceToNat, w64_id, cast_succ])
  refine (markInt64SS_ok _ _ _ xss 1 own (by omega) (by omega)).mono ?_
  rintro r H4 ⟨rfl, -, m0, m2⟩
  replace ho := ho.same (H' := H4) (fun j b hj hb => by rw [m2 j (by unfold Btw at hj ⊢; omega)]; exact hb)
  have hneg1 : decide ((1 : Int) + total xss < 0) = false := decide_eq_false (by omega)
  have hneg2 : decide ((1 : Int) + total zss < 0) = false := decide_eq_false (by omega)
  repeat (first | (with_reducible first | refine SW.seq ?_ | refine SW.block ?_ | refine SW.rowC ?_ | refine SW.skip ?_ | refine SW.exit ?_ | intro _ | refine And.intro (by omega) ?_) | simp (config := { maxSteps := 1000000 }) (disch := (first | omega | (simp only [go_sem]; try omega))) only [go_sem, Nat.reduceAdd, Nat.reduceEqDiff, Nat.reduceLeDiff, Nat.reduceMul, Nat.reduceLT, reduceIte, Int.reduceToNat, w64_id, cast_succ, hneg1])
  refine ACalls.fn (eqInt64SS_ok _ _ _ _ _ ho.rd (rd_ilSS _ _)) ?_
  repeat (first | (with_reducible first | refine SW.seq ?_ | refine SW.block ?_ | refine SW.rowC ?_ | refine SW.skip ?_ | refine SW.exit ?_ | intro _ | refine And.intro (by omega) ?_) | simp (config := { maxSteps := 1000000 }) (disch := (first | omega | (simp only [go_sem]; try omega))) only [go_sem, Nat.reduceAdd, Nat.reduceEqDiff, Nat.reduceLeDiff, Nat.reduceMul, Nat.reduceLT, reduceIte, Int.reduceToNat, w64_id, cast_succ])
  refine SW.condF rfl ?_
  repeat (first | (with_reducible first | refine SW.seq ?_ | refine SW.block ?_ | refine SW.rowC ?_ | refine SW.skip ?_ | refine SW.exit ?_ | intro _ | refine And.intro (by omega) ?_) | simp (config := { maxSteps := 1000000 }) (disch := (first | omega | (simp only [go_sem]; try omega))) only [go_sem, Nat.reduceAdd, Nat.reduceEqDiff, Nat.reduceLeDiff, Nat.reduceMul, Nat.reduceLT, reduceIte, Int.reduceToNat, w64_id, cast_succ])
  refine (markInt64SS_ok _ _ _ zss 1 ho (by omega) (by omega)).mono ?_
  rintro r H5 ⟨rfl, ho5, n1, n2⟩
  repeat (first | (with_reducible first | refine SW.seq ?_ | refine SW.block ?_ | refine SW.rowC ?_ | refine SW.skip ?_ | refine SW.exit ?_ | intro _ | refine And.intro (by omega) ?_) | simp (config := { maxSteps := 1000000 }) (disch := (first | omega | (simp only [go_sem]; try omega))) only [go_sem, Nat.reduceAdd, Nat.reduceEqDiff, Nat.reduceLeDiff, Nat.reduceMul, Nat.reduceLT, reduceIte, Int.reduceToNat, w64_id, cast_succ])
  refine ACalls.fn (heldInt64SS_ok _ _ zss 1 ho5.rd (by omega) (by omega)) ?_
  repeat (first | (with_reducible first | refine SW.seq ?_ | refine SW.block ?_ | refine SW.rowC ?_ | refine SW.skip ?_ | refine SW.exit ?_ | intro _ | refine And.intro (by omega) ?_) | simp (config := { maxSteps := 1000000 }) (disch := (first | omega | (simp only [go_sem]; try omega))) only [go_sem, Nat.reduceAdd, Nat.reduceEqDiff, Nat.reduceLeDiff, Nat.reduceMul, Nat.reduceLT, reduceIte, Int.reduceToNat, w64_id, cast_succ, hneg2])
  refine SW.condF rfl ?_
  repeat (first | (with_reducible first | refine SW.seq ?_ | refine SW.block ?_ | refine SW.rowC ?_ | refine SW.skip ?_ | refine SW.exit ?_ | intro _ | refine And.intro (by omega) ?_) | simp (config := { maxSteps := 1000000 }) (disch := (first | omega | (simp only [go_sem]; try omega))) only [go_sem, Nat.reduceAdd, Nat.reduceEqDiff, Nat.reduceLeDiff, Nat.reduceMul, Nat.reduceLT, reduceIte, Int.reduceToNat, w64_id, cast_succ])
  refine SW.condF rfl ?_
  repeat (first | (with_reducible first | refine SW.seq ?_ | refine SW.block ?_ | refine SW.rowC ?_ | refine SW.skip ?_ | refine SW.exit ?_ | intro _ | refine And.intro (by omega) ?_) | simp (config := { maxSteps := 1000000 }) (disch := (first | omega | (simp only [go_sem]; try omega))) only [go_sem, Nat.reduceAdd, Nat.reduceEqDiff, Nat.reduceLeDiff, Nat.reduceMul, Nat.reduceLT, reduceIte, Int.reduceToNat, w64_id, cast_succ])
  refine ACalls.fn (t1 _) ?_
  repeat (first | (with_reducible first | refine SW.seq ?_ | refine SW.block ?_ | refine SW.rowC ?_ | refine SW.skip ?_ | refine SW.exit ?_ | intro _ | refine And.intro (by omega) ?_) | simp (config := { maxSteps := 1000000 }) (disch := (first | omega | (simp only [go_sem]; try omega))) only [go_sem, Nat.reduceAdd, Nat.reduceEqDiff, Nat.reduceLeDiff, Nat.reduceMul, Nat.reduceLT, reduceIte, Int.reduceToNat, w64_id, cast_succ])
  refine (hi _).mono ?_
  rintro r H6 ⟨ext3, u3, rfl, rfl, ho6⟩
  repeat (first | (with_reducible first | refine SW.seq ?_ | refine SW.block ?_ | refine SW.rowC ?_ | refine SW.skip ?_ | refine SW.exit ?_ | intro _ | refine And.intro (by omega) ?_) | simp (config := { maxSteps := 1000000 }) (disch := (first | omega | (simp only [go_sem]; try omega))) only [go_sem, Nat.reduceAdd, Nat.reduceEqDiff, Nat.reduceLeDiff, Nat.reduceMul, Nat.reduceLT, reduceIte, Int.reduceToNat, w64_id, cast_succ])
  refine ACalls.fn (eqInt64SS_ok _ _ _ _ _ ho6.rd (rd_ilSS _ _)) ?_
  repeat (first | (with_reducible first | refine SW.seq ?_ | refine SW.block ?_ | refine SW.rowC ?_ | refine SW.skip ?_ | refine SW.exit ?_ | intro _ | refine And.intro (by omega) ?_) | simp (config := { maxSteps := 1000000 }) (disch := (first | omega | (simp only [go_sem]; try omega))) only [go_sem, Nat.reduceAdd, Nat.reduceEqDiff, Nat.reduceLeDiff, Nat.reduceMul, Nat.reduceLT, reduceIte, Int.reduceToNat, w64_id, cast_succ])
  refine SW.condF rfl ?_
  repeat (first | (with_reducible first | refine SW.seq ?_ | refine SW.block ?_ | refine SW.rowC ?_ | refine SW.skip ?_ | refine SW.exit ?_ | intro _ | refine And.intro (by omega) ?_) | simp (config := { maxSteps := 1000000 }) (disch := (first | omega | (simp only [go_sem]; try omega))) only [go_sem, Nat.reduceAdd, Nat.reduceEqDiff, Nat.reduceLeDiff, Nat.reduceMul, Nat.reduceLT, reduceIte, Int.reduceToNat, w64_id, cast_succ])
  refine ACalls.fn (heldInt64SS_ok _ _ zss 1 (ho5.append _).rd (by omega) (by omega)) ?_
  repeat (first | (with_reducible first | refine SW.seq ?_ | refine SW.block ?_ | refine SW.rowC ?_ | refine SW.skip ?_ | refine SW.exit ?_ | intro _ | refine And.intro (by omega) ?_) | simp (config := { maxSteps := 1000000 }) (disch := (first | omega | (simp only [go_sem]; try omega))) only [go_sem, Nat.reduceAdd, Nat.reduceEqDiff, Nat.reduceLeDiff, Nat.reduceMul, Nat.reduceLT, reduceIte, Int.reduceToNat, w64_id, cast_succ, hneg2])
  refine SW.condF rfl ?_
  repeat (first | (with_reducible first | refine SW.seq ?_ | refine SW.block ?_ | refine SW.rowC ?_ | refine SW.skip ?_ | refine SW.exit ?_ | intro _ | refine And.intro (by omega) ?_) | simp (config := { maxSteps := 1000000 }) (disch := (first | omega | (simp only [go_sem]; try omega))) only [go_sem, Nat.reduceAdd, Nat.reduceEqDiff, Nat.reduceLeDiff, Nat.reduceMul, Nat.reduceLT, reduceIte, Int.reduceToNat, w64_id, cast_succ])
  refine SW.condF rfl ?_
  repeat (first | (with_reducible first | refine SW.seq ?_ | refine SW.block ?_ | refine SW.rowC ?_ | refine SW.skip ?_ | refine SW.exit ?_ | intro _ | refine And.intro (by omega) ?_) | simp (config := { maxSteps := 1000000 }) (disch := (first | omega | (simp only [go_sem]; try omega))) only [go_sem, Nat.reduceAdd, Nat.reduceEqDiff, Nat.reduceLeDiff, Nat.reduceMul, Nat.reduceLT, reduceIte, Int.reduceToNat, w64_id, cast_succ])
  refine SW.ret ?_; (try simp only [go_sem]); (first | refine FunPost.one ?_ | refine FunPost.two ?_ | refine FunPost.three ?_); (try simp (config := { maxSteps := 1000000 }) (disch := (first | omega | (simp only [go_sem]; try omega))) only [go_sem, Nat.reduceAdd, Nat.reduceEqDiff, Nat.reduceLeDiff, Nat.reduceMul, Nat.reduceLT, reduceIte, Int.reduceToNat, w64_id, cast_succ])
  exact GR.of rfl


end Go.Proofs.Ytkpohapopokahaa
