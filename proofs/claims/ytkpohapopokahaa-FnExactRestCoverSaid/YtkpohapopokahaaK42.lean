/- What is left of a cover: the law. -/
import Derived.Test.YtkpohapopokahaaProg
import Derived.KernelRfl
import Derived.Test.YtkpohapopokahaaK41
set_option linter.unusedSimpArgs false
set_option linter.unusedVariables false
set_option maxHeartbeats 4000000
set_option maxRecDepth 100000
namespace Go.Proofs.Ytkpohapopokahaa
open Go.Av

/-! The abstract code of functions, printed by program and tied to the program by the kernel. -/
/-- loop.example/g00920/laws.FnExactRestCover -/
abbrev f_laws_FnExactRestCover : Nat := 7
def c_laws_FnExactRestCover : SC :=
 .seq (.reg [
     ⟨(some 2), .box 24 (.tmp 0), none⟩,
     ⟨(some 4), .mv (.const (.bool false)), none⟩] [1, 2])
 (.seq (.seq (.reg [
     ⟨(some 20), .mv (.tmp 1), none⟩,
     ⟨(some 21), .len (.tmp 20), none⟩,
     ⟨(some 22), .bin .gtr (.tmp 21) (.const (.int .i64 1048576)), none⟩] [1, 2, 22])
 (.cond (.tmp 22)
  (.seq (.reg [
      ⟨(some 4), .mv (.const (.bool true)), none⟩] [4])
  (.ret))
  (.skip)))
 (.seq (.reg [
     ⟨(some 5), .mv (.const (.int .i64 1048576)), none⟩] [1, 2, 5])
 (.seq (.reg [
     ⟨(some 23), .load 2 true (.tmp 2), none⟩,
     ⟨(some 24), .mv (.tmp 5), none⟩,
     ⟨(some 25), .call 15 [(.tmp 23), (.tmp 24)], none⟩,
     ⟨(some 5), .mv (.tmp 25), none⟩] [1, 2, 5])
 (.seq (.seq (.reg [
     ⟨(some 26), .mv (.tmp 5), none⟩,
     ⟨(some 27), .bin .lss (.tmp 26) (.const (.int .i64 0)), none⟩] [1, 2, 27])
 (.cond (.tmp 27)
  (.seq (.reg [
      ⟨(some 4), .mv (.const (.bool true)), none⟩] [4])
  (.ret))
  (.skip)))
 (.seq (.reg [
     ⟨(some 29), .load 2 true (.tmp 2), none⟩,
     ⟨(some 30), .call 17 [(.tmp 29)], none⟩,
     ⟨(some 31), .mv (.tmp 1), none⟩,
     ⟨(some 32), .call 37 [(.tmp 31)], none⟩,
     ⟨(some 33), .call 36 [(.tmp 30), (.tmp 32)], none⟩,
     ⟨(some 28), .mv (.tmp 33), none⟩,
     ⟨(some 34), .ext (.tmp 28) 0, none⟩,
     ⟨(some 35), .ext (.tmp 28) 1, none⟩,
     ⟨(some 36), .ext (.tmp 28) 2, none⟩,
     ⟨(some 6), .alloc 29 [(.int .i64 0), (.slice none 0 0)], none⟩,
     ⟨none, .store 2 (.tmp 6) (.tmp 34), none⟩,
     ⟨(some 7), .mv (.tmp 35), none⟩,
     ⟨(some 8), .mv (.tmp 36), none⟩] [1, 2, 6, 7, 8])
 (.seq (.reg [
     ⟨(some 37), .load 2 true (.tmp 2), none⟩,
     ⟨(some 38), .call 17 [(.tmp 37)], none⟩,
     ⟨(some 9), .alloc 29 [(.int .i64 0), (.slice none 0 0)], none⟩,
     ⟨none, .store 2 (.tmp 9) (.tmp 38), none⟩] [1, 2, 6, 7, 8, 9])
 (.seq (.reg [
     ⟨(some 39), .mv (.tmp 1), none⟩,
     ⟨(some 40), .call 37 [(.tmp 39)], none⟩,
     ⟨(some 10), .mv (.tmp 40), none⟩] [1, 2, 6, 7, 8, 9, 10])
 (.seq (.reg [
     ⟨(some 42), .load 2 true (.tmp 9), none⟩,
     ⟨(some 43), .mv (.tmp 10), none⟩,
     ⟨(some 44), .call 38 [(.tmp 42), (.tmp 43)], none⟩,
     ⟨(some 41), .mv (.tmp 44), none⟩,
     ⟨(some 45), .ext (.tmp 41) 0, none⟩,
     ⟨(some 46), .ext (.tmp 41) 1, none⟩,
     ⟨(some 47), .ext (.tmp 41) 2, none⟩,
     ⟨(some 11), .alloc 29 [(.int .i64 0), (.slice none 0 0)], none⟩,
     ⟨none, .store 2 (.tmp 11) (.tmp 45), none⟩,
     ⟨(some 12), .mv (.tmp 46), none⟩,
     ⟨(some 13), .mv (.tmp 47), none⟩] [1, 2, 6, 7, 8, 9, 10, 11, 12, 13])
 (.seq (.seq (.reg [
     ⟨(some 48), .load 2 true (.tmp 11), none⟩,
     ⟨(some 49), .load 2 true (.tmp 6), none⟩,
     ⟨(some 50), .call 20 [(.tmp 48), (.tmp 49)], none⟩,
     ⟨(some 51), .un .not (.tmp 50), none⟩,
     ⟨(some 52), .mv (.tmp 51), none⟩,
     ⟨(some 53), .mv (.tmp 12), (some (52, false))⟩,
     ⟨(some 54), .mv (.tmp 7), (some (52, false))⟩,
     ⟨(some 55), .call 19 [(.tmp 53), (.tmp 54)], (some (52, false))⟩,
     ⟨(some 56), .un .not (.tmp 55), (some (52, false))⟩,
     ⟨(some 57), .pick (.tmp 52) (.const (.bool true)) (.tmp 56), none⟩,
     ⟨(some 58), .mv (.tmp 57), none⟩,
     ⟨(some 59), .mv (.tmp 13), (some (58, false))⟩,
     ⟨(some 60), .mv (.tmp 8), (some (58, false))⟩,
     ⟨(some 61), .bin .neq (.tmp 59) (.tmp 60), (some (58, false))⟩,
     ⟨(some 62), .pick (.tmp 58) (.const (.bool true)) (.tmp 61), none⟩] [1, 2, 6, 7, 8, 9, 10, 11, 12, 13, 62])
 (.cond (.tmp 62)
  (.seq (.reg [
      ⟨(some 4), .mv (.const (.bool false)), none⟩] [4])
  (.ret))
  (.skip)))
 (.seq (.seq (.reg [
     ⟨(some 63), .load 2 true (.tmp 9), none⟩,
     ⟨(some 64), .load 2 true (.tmp 2), none⟩,
     ⟨(some 65), .qcall 17 [(.tmp 64)], none⟩,
     ⟨(some 66), .qcall 20 [(.tmp 63), (.tmp 65)], none⟩,
     ⟨(some 67), .un .not (.tmp 66), none⟩] [1, 2, 6, 7, 8, 9, 10, 11, 12, 13, 67])
 (.cond (.tmp 67)
  (.seq (.reg [
      ⟨(some 4), .mv (.const (.bool false)), none⟩] [4])
  (.ret))
  (.skip)))
 (.seq (.seq (.reg [
     ⟨(some 68), .mv (.tmp 10), none⟩,
     ⟨(some 69), .mv (.tmp 1), none⟩,
     ⟨(some 70), .call 37 [(.tmp 69)], none⟩,
     ⟨(some 71), .call 19 [(.tmp 68), (.tmp 70)], none⟩,
     ⟨(some 72), .un .not (.tmp 71), none⟩] [1, 2, 6, 7, 8, 9, 10, 11, 12, 13, 72])
 (.cond (.tmp 72)
  (.seq (.reg [
      ⟨(some 4), .mv (.const (.bool false)), none⟩] [4])
  (.ret))
  (.skip)))
 (.seq (.reg [
     ⟨(some 14), .mv (.const (.int .i64 1)), none⟩] [1, 2, 6, 7, 8, 9, 10, 11, 12, 13, 14])
 (.seq (.reg [
     ⟨(some 73), .load 2 true (.tmp 9), none⟩,
     ⟨(some 74), .mv (.tmp 14), none⟩,
     ⟨(some 75), .call 21 [(.tmp 73), (.tmp 74)], none⟩,
     ⟨(some 14), .mv (.tmp 75), none⟩] [1, 2, 6, 7, 8, 10, 11, 12, 13, 14])
 (.seq (.reg [
     ⟨(some 76), .mv (.tmp 10), none⟩,
     ⟨(some 77), .mv (.tmp 14), none⟩,
     ⟨(some 78), .call 22 [(.tmp 76), (.tmp 77)], none⟩,
     ⟨(some 14), .mv (.tmp 78), none⟩] [1, 2, 6, 7, 8, 11, 12, 13, 14])
 (.seq (.seq (.reg [
     ⟨(some 79), .mv (.tmp 14), none⟩,
     ⟨(some 80), .bin .lss (.tmp 79) (.const (.int .i64 0)), none⟩,
     ⟨(some 81), .mv (.tmp 80), none⟩,
     ⟨(some 82), .load 2 true (.tmp 11), (some (81, false))⟩,
     ⟨(some 83), .load 2 true (.tmp 6), (some (81, false))⟩,
     ⟨(some 84), .call 20 [(.tmp 82), (.tmp 83)], (some (81, false))⟩,
     ⟨(some 85), .un .not (.tmp 84), (some (81, false))⟩,
     ⟨(some 86), .pick (.tmp 81) (.const (.bool true)) (.tmp 85), none⟩,
     ⟨(some 87), .mv (.tmp 86), none⟩,
     ⟨(some 88), .mv (.tmp 12), (some (87, false))⟩,
     ⟨(some 89), .mv (.tmp 7), (some (87, false))⟩,
     ⟨(some 90), .call 19 [(.tmp 88), (.tmp 89)], (some (87, false))⟩,
     ⟨(some 91), .un .not (.tmp 90), (some (87, false))⟩,
     ⟨(some 92), .pick (.tmp 87) (.const (.bool true)) (.tmp 91), none⟩,
     ⟨(some 93), .mv (.tmp 92), none⟩,
     ⟨(some 94), .mv (.tmp 13), (some (93, false))⟩,
     ⟨(some 95), .mv (.tmp 8), (some (93, false))⟩,
     ⟨(some 96), .bin .neq (.tmp 94) (.tmp 95), (some (93, false))⟩,
     ⟨(some 97), .pick (.tmp 93) (.const (.bool true)) (.tmp 96), none⟩] [1, 2, 6, 7, 8, 11, 12, 97])
 (.cond (.tmp 97)
  (.seq (.reg [
      ⟨(some 4), .mv (.const (.bool false)), none⟩] [4])
  (.ret))
  (.skip)))
 (.seq (.reg [
     ⟨(some 15), .mv (.const (.int .i64 1)), none⟩] [1, 2, 6, 7, 8, 11, 12, 15])
 (.seq (.reg [
     ⟨(some 98), .load 2 true (.tmp 11), none⟩,
     ⟨(some 99), .mv (.tmp 15), none⟩,
     ⟨(some 100), .call 21 [(.tmp 98), (.tmp 99)], none⟩,
     ⟨(some 15), .mv (.tmp 100), none⟩] [1, 2, 6, 7, 8, 11, 12, 15])
 (.seq (.reg [
     ⟨(some 101), .mv (.tmp 12), none⟩,
     ⟨(some 102), .mv (.tmp 15), none⟩,
     ⟨(some 103), .call 22 [(.tmp 101), (.tmp 102)], none⟩,
     ⟨(some 15), .mv (.tmp 103), none⟩] [1, 2, 6, 7, 8, 11, 12, 15])
 (.seq (.reg [
     ⟨(some 16), .mv (.const (.int .i64 1)), none⟩] [1, 2, 6, 7, 8, 11, 12, 15, 16])
 (.seq (.reg [
     ⟨(some 104), .load 2 true (.tmp 11), none⟩,
     ⟨(some 105), .mv (.tmp 16), none⟩,
     ⟨(some 106), .call 39 [(.tmp 104), (.tmp 105)], none⟩,
     ⟨(some 16), .mv (.tmp 106), none⟩] [1, 2, 6, 7, 8, 11, 12, 15, 16])
 (.seq (.seq (.reg [
     ⟨(some 107), .mv (.tmp 16), none⟩,
     ⟨(some 108), .bin .lss (.tmp 107) (.const (.int .i64 0)), none⟩] [1, 2, 6, 7, 8, 11, 12, 15, 16, 108])
 (.cond (.tmp 108)
  (.seq (.reg [
      ⟨(some 4), .mv (.const (.bool false)), none⟩] [4])
  (.ret))
  (.skip)))
 (.seq (.reg [
     ⟨(some 109), .mv (.tmp 12), none⟩,
     ⟨(some 110), .mv (.tmp 16), none⟩,
     ⟨(some 111), .call 23 [(.tmp 109), (.tmp 110)], none⟩,
     ⟨(some 16), .mv (.tmp 111), none⟩] [1, 2, 6, 7, 8, 11, 12, 15, 16])
 (.seq (.seq (.reg [
     ⟨(some 112), .mv (.tmp 16), none⟩,
     ⟨(some 113), .bin .lss (.tmp 112) (.const (.int .i64 0)), none⟩] [1, 2, 6, 7, 8, 11, 12, 15, 16, 113])
 (.cond (.tmp 113)
  (.seq (.reg [
      ⟨(some 4), .mv (.const (.bool false)), none⟩] [4])
  (.ret))
  (.skip)))
 (.seq (.seq (.reg [
     ⟨(some 114), .mv (.tmp 16), none⟩,
     ⟨(some 115), .mv (.tmp 15), none⟩,
     ⟨(some 116), .bin .neq (.tmp 114) (.tmp 115), none⟩] [1, 2, 6, 7, 8, 11, 12, 15, 116])
 (.cond (.tmp 116)
  (.seq (.reg [
      ⟨(some 4), .mv (.const (.bool false)), none⟩] [4])
  (.ret))
  (.skip)))
 (.seq (.reg [
     ⟨(some 118), .load 2 true (.tmp 2), none⟩,
     ⟨(some 119), .call 17 [(.tmp 118)], none⟩,
     ⟨(some 120), .mv (.tmp 1), none⟩,
     ⟨(some 121), .call 37 [(.tmp 120)], none⟩,
     ⟨(some 122), .call 38 [(.tmp 119), (.tmp 121)], none⟩,
     ⟨(some 117), .mv (.tmp 122), none⟩,
     ⟨(some 123), .ext (.tmp 117) 0, none⟩,
     ⟨(some 124), .ext (.tmp 117) 1, none⟩,
     ⟨(some 125), .ext (.tmp 117) 2, none⟩,
     ⟨(some 17), .alloc 29 [(.int .i64 0), (.slice none 0 0)], none⟩,
     ⟨none, .store 2 (.tmp 17) (.tmp 123), none⟩,
     ⟨(some 18), .mv (.tmp 124), none⟩,
     ⟨(some 19), .mv (.tmp 125), none⟩] [6, 7, 8, 11, 12, 15, 17, 18, 19])
 (.seq (.seq (.reg [
     ⟨(some 126), .load 2 true (.tmp 17), none⟩,
     ⟨(some 127), .load 2 true (.tmp 6), none⟩,
     ⟨(some 128), .call 20 [(.tmp 126), (.tmp 127)], none⟩,
     ⟨(some 129), .un .not (.tmp 128), none⟩,
     ⟨(some 130), .mv (.tmp 129), none⟩,
     ⟨(some 131), .mv (.tmp 18), (some (130, false))⟩,
     ⟨(some 132), .mv (.tmp 7), (some (130, false))⟩,
     ⟨(some 133), .call 19 [(.tmp 131), (.tmp 132)], (some (130, false))⟩,
     ⟨(some 134), .un .not (.tmp 133), (some (130, false))⟩,
     ⟨(some 135), .pick (.tmp 130) (.const (.bool true)) (.tmp 134), none⟩,
     ⟨(some 136), .mv (.tmp 135), none⟩,
     ⟨(some 137), .mv (.tmp 19), (some (136, false))⟩,
     ⟨(some 138), .mv (.tmp 8), (some (136, false))⟩,
     ⟨(some 139), .bin .neq (.tmp 137) (.tmp 138), (some (136, false))⟩,
     ⟨(some 140), .pick (.tmp 136) (.const (.bool true)) (.tmp 139), none⟩] [11, 12, 15, 140])
 (.cond (.tmp 140)
  (.seq (.reg [
      ⟨(some 4), .mv (.const (.bool false)), none⟩] [4])
  (.ret))
  (.skip)))
 (.seq (.reg [
     ⟨(some 16), .mv (.const (.int .i64 1)), none⟩] [11, 12, 15, 16])
 (.seq (.reg [
     ⟨(some 141), .load 2 true (.tmp 11), none⟩,
     ⟨(some 142), .mv (.tmp 16), none⟩,
     ⟨(some 143), .call 39 [(.tmp 141), (.tmp 142)], none⟩,
     ⟨(some 16), .mv (.tmp 143), none⟩] [12, 15, 16])
 (.seq (.seq (.reg [
     ⟨(some 144), .mv (.tmp 16), none⟩,
     ⟨(some 145), .bin .lss (.tmp 144) (.const (.int .i64 0)), none⟩] [12, 15, 16, 145])
 (.cond (.tmp 145)
  (.seq (.reg [
      ⟨(some 4), .mv (.const (.bool false)), none⟩] [4])
  (.ret))
  (.skip)))
 (.seq (.reg [
     ⟨(some 146), .mv (.tmp 12), none⟩,
     ⟨(some 147), .mv (.tmp 16), none⟩,
     ⟨(some 148), .call 23 [(.tmp 146), (.tmp 147)], none⟩,
     ⟨(some 16), .mv (.tmp 148), none⟩] [15, 16])
 (.seq (.seq (.reg [
     ⟨(some 149), .mv (.tmp 16), none⟩,
     ⟨(some 150), .bin .lss (.tmp 149) (.const (.int .i64 0)), none⟩] [15, 16, 150])
 (.cond (.tmp 150)
  (.seq (.reg [
      ⟨(some 4), .mv (.const (.bool false)), none⟩] [4])
  (.ret))
  (.skip)))
 (.seq (.seq (.reg [
     ⟨(some 151), .mv (.tmp 16), none⟩,
     ⟨(some 152), .mv (.tmp 15), none⟩,
     ⟨(some 153), .bin .neq (.tmp 151) (.tmp 152), none⟩] [153])
 (.cond (.tmp 153)
  (.seq (.reg [
      ⟨(some 4), .mv (.const (.bool false)), none⟩] [4])
  (.ret))
  (.skip)))
 (.seq (.reg [
     ⟨(some 4), .mv (.const (.bool true)), none⟩] [4])
 (.ret))))))))))))))))))))))))))))))))))
theorem s_laws_FnExactRestCover : stripF Try.prog 7 [[1, 2], [1, 2, 22], [4], [1, 2, 5], [1, 2, 5], [1, 2, 27], [4], [1, 2, 6, 7, 8], [1, 2, 6, 7, 8, 9], [1, 2, 6, 7, 8, 9, 10], [1, 2, 6, 7, 8, 9, 10, 11, 12, 13], [1, 2, 6, 7, 8, 9, 10, 11, 12, 13, 62], [4], [1, 2, 6, 7, 8, 9, 10, 11, 12, 13, 67], [4], [1, 2, 6, 7, 8, 9, 10, 11, 12, 13, 72], [4], [1, 2, 6, 7, 8, 9, 10, 11, 12, 13, 14], [1, 2, 6, 7, 8, 10, 11, 12, 13, 14], [1, 2, 6, 7, 8, 11, 12, 13, 14], [1, 2, 6, 7, 8, 11, 12, 97], [4], [1, 2, 6, 7, 8, 11, 12, 15], [1, 2, 6, 7, 8, 11, 12, 15], [1, 2, 6, 7, 8, 11, 12, 15], [1, 2, 6, 7, 8, 11, 12, 15, 16], [1, 2, 6, 7, 8, 11, 12, 15, 16], [1, 2, 6, 7, 8, 11, 12, 15, 16, 108], [4], [1, 2, 6, 7, 8, 11, 12, 15, 16], [1, 2, 6, 7, 8, 11, 12, 15, 16, 113], [4], [1, 2, 6, 7, 8, 11, 12, 15, 116], [4], [6, 7, 8, 11, 12, 15, 17, 18, 19], [11, 12, 15, 140], [4], [11, 12, 15, 16], [12, 15, 16], [12, 15, 16, 145], [4], [15, 16], [15, 16, 150], [4], [153], [4], [4]] = some (c_laws_FnExactRestCover, [.tmp 4], 154) := by kernel_rfl


theorem implRest_lend {H : List Blk} {args : List AV} (n : Int) (xss : List (List Int)) (cols : List Int) (hx : ∀ xs ∈ xss, ∀ x ∈ xs, (Lit.int .i64 x).wf = true) (hc : ∀ x ∈ cols, (Lit.int .i64 x).wf = true) (hl : xss.length ≤ 1073741824) (hf : Frozs H args [.agg [I n, ilSS xss], ilS cols]) :
    ACalls Try.prog f_impl_RestCover args H (RcR H (rcV n xss cols)) := by
  refine ((implRest_ok [] n xss cols hx hc hl).lend hf ?_).mono ?_
  · rintro r H0 ⟨ext, v, u, q, rfl, rfl, _, _, ho, hu⟩
    refine .tup _ (fun c hc => ?_)
    simp only [List.mem_cons, List.not_mem_nil, or_false] at hc
    rcases hc with rfl | rfl | rfl
    · refine .agg _ (fun c hc => ?_)
      simp only [List.mem_cons, List.not_mem_nil, or_false] at hc
      rcases hc with rfl | rfl
      · exact .I _
      · exact ho.ov
    · exact hu.ov
    · exact .I _
  · rintro r H' ⟨r0, H0, ⟨ext, v, u, q, rfl, rfl, h1, h2, ho, hu⟩, rfl, rfl⟩
    refine ⟨_, sh H.length v, sh H.length u, H.length + q, rfl, ?_, by omega, ?_, ho.sh (H := H) (N' := Btw (H.length + q) (H ++ _).length) (fun i hi => ?_), ?_⟩
    · simp [sh_tup, sh_agg, sh_In]
    · simp at h2 ⊢; omega
    · unfold Btw at hi ⊢
      simp at hi ⊢; omega
    · have := hu.sh (H := H) (N' := Btw H.length (H.length + q)) (fun i hi => by unfold Btw at hi ⊢; simp at hi ⊢; omega)
      simpa using this

theorem rcV_len (n : Int) (xss : List (List Int)) (cols : List Int) : (rcV n xss cols).2.1.length ≤ xss.length := by
  unfold rcV
  split
  · simp
  · split
    · simp
    · split
      · simp
      · exact keptI_len _ _
theorem optsI_total (xss : List (List Int)) (E : List Int) : total (optsI xss E) ≤ total xss := by
  induction xss with
  | nil => simp [optsI, total]
  | cons x xss ih =>
    have e : optsI (x :: xss) E = (if (!x.any fun y => E.contains y) = true then [x.map fun x => (cntL E x.toNat : Int)] else []) ++ optsI xss E := by
      unfold optsI
      rw [List.filter_cons]
      split <;> simp
    rw [e]
    split
    · simp [total] at ih ⊢; omega
    · simp [total] at ih ⊢; omega
theorem rcV_total (n : Int) (xss : List (List Int)) (cols : List Int) : total (rcV n xss cols).1.2 ≤ total xss := by
  unfold rcV
  split
  · simp [total]
  · split
    · simp [total]
    · split
      · simp [total]
      · exact optsI_total _ _

theorem OwnS.appendS {H : List Blk} {N : Nat → Prop} {t : Nat} {c : AV} {xs : List Int} (h : OwnS H N t c xs) (ext : List Blk) : OwnS (H ++ ext) N t c xs :=
  h.same (fun j b _ _ hb => by rw [List.getElem?_append_left (List.getElem?_eq_some_iff.1 hb).1]; exact hb)

theorem lawRestCover_ok (H : List Blk) (n : Int) (xss : List (List Int)) (cols : List Int) (hx : ∀ xs ∈ xss, ∀ x ∈ xs, (Lit.int .i64 x).wf = true) (hc : ∀ x ∈ cols, (Lit.int .i64 x).wf = true) : ACalls Try.prog f_laws_FnExactRestCover [.agg [I n, ilSS xss], ilS cols] H (fun r _ => r = Bv true) := by
  have hs := specRest_fn n xss cols hx hc
  have hi := fun H hl => implRest_ok H n xss cols hx hc hl
  have hi2 := fun H args hl hf => implRest_lend (H := H) (args := args) n xss cols hx hc hl hf
  have hlen := rcV_len n xss cols
  have htotV := rcV_total n xss cols
  generalize rcV n xss cols = V at *
  obtain ⟨⟨a, ys⟩, zs, code⟩ := V
  simp only at hs hlen htotV
  refine ACalls.introB s_laws_FnExactRestCover (by simp) ?_; intro hB hA; unfold c_laws_FnExactRestCover; simp (config := { maxSteps := 1000000 }) (disch := (first | omega | (simp only [go_sem]; try omega))) only [go_sem, Nat.reduceAdd, Nat.reduceEqDiff, Nat.reduceLeDiff, Nat.reduceMul, Nat.reduceLT, reduceIte, Int.reduceToNat, w64_id, cast_succ]
  repeat (first | (with_reducible first | refine SW.seq ?_ | refine SW.block ?_ | refine SW.rowC ?_ | refine SW.skip ?_ | refine SW.exit ?_ | intro _ | refine And.intro (by omega) ?_) | simp (config := { maxSteps := 1000000 }) (disch := (first | omega | (simp only [go_sem]; try omega))) only [go_sem, Nat.reduceAdd, Nat.reduceEqDiff, Nat.reduceLeDiff, Nat.reduceMul, Nat.reduceLT, reduceIte, Int.reduceToNat, w64_id, cast_succ])
  (first | refine SW.condD rfl (fun h => ?_) (fun h => ?_) | refine SW.condN rfl (fun h => ?_) (fun h => ?_) | refine SW.condNB rfl (fun h => ?_) (fun h => ?_) | refine SW.condB rfl (fun h => ?_) (fun h => ?_))
  · repeat (first | (with_reducible first | refine SW.seq ?_ | refine SW.block ?_ | refine SW.rowC ?_ | refine SW.skip ?_ | refine SW.exit ?_ | intro _ | refine And.intro (by omega) ?_) | simp (config := { maxSteps := 1000000 }) (disch := (first | omega | (simp only [go_sem]; try omega))) only [go_sem, Nat.reduceAdd, Nat.reduceEqDiff, Nat.reduceLeDiff, Nat.reduceMul, Nat.reduceLT, reduceIte, Int.reduceToNat, w64_id, cast_succ])
    refine SW.ret ?_; (try simp only [go_sem]); (first | refine FunPost.one ?_ | refine FunPost.two ?_ | refine FunPost.three ?_); (try simp (config := { maxSteps := 1000000 }) (disch := (first | omega | (simp only [go_sem]; try omega))) only [go_sem, Nat.reduceAdd, Nat.reduceEqDiff, Nat.reduceLeDiff, Nat.reduceMul, Nat.reduceLT, reduceIte, Int.reduceToNat, w64_id, cast_succ])
    exact GR.of rfl
  repeat (first | (with_reducible first | refine SW.seq ?_ | refine SW.block ?_ | refine SW.rowC ?_ | refine SW.skip ?_ | refine SW.exit ?_ | intro _ | refine And.intro (by omega) ?_) | simp (config := { maxSteps := 1000000 }) (disch := (first | omega | (simp only [go_sem]; try omega))) only [go_sem, Nat.reduceAdd, Nat.reduceEqDiff, Nat.reduceLeDiff, Nat.reduceMul, Nat.reduceLT, reduceIte, Int.reduceToNat, w64_id, cast_succ])
  refine (szCover_ok _ n _ xss _ rfl (rd_ilSS _ _) (by omega) (by omega)).mono ?_
  rintro r H' ⟨⟨z, rfl, g1, g2, g3⟩, rfl⟩
  repeat (first | (with_reducible first | refine SW.seq ?_ | refine SW.block ?_ | refine SW.rowC ?_ | refine SW.skip ?_ | refine SW.exit ?_ | intro _ | refine And.intro (by omega) ?_) | simp (config := { maxSteps := 1000000 }) (disch := (first | omega | (simp only [go_sem]; try omega))) only [go_sem, Nat.reduceAdd, Nat.reduceEqDiff, Nat.reduceLeDiff, Nat.reduceMul, Nat.reduceLT, reduceIte, Int.reduceToNat, w64_id, cast_succ])
  (first | refine SW.condD rfl (fun h2 => ?_) (fun h2 => ?_) | refine SW.condN rfl (fun h2 => ?_) (fun h2 => ?_) | refine SW.condNB rfl (fun h2 => ?_) (fun h2 => ?_) | refine SW.condB rfl (fun h2 => ?_) (fun h2 => ?_))
  · repeat (first | (with_reducible first | refine SW.seq ?_ | refine SW.block ?_ | refine SW.rowC ?_ | refine SW.skip ?_ | refine SW.exit ?_ | intro _ | refine And.intro (by omega) ?_) | simp (config := { maxSteps := 1000000 }) (disch := (first | omega | (simp only [go_sem]; try omega))) only [go_sem, Nat.reduceAdd, Nat.reduceEqDiff, Nat.reduceLeDiff, Nat.reduceMul, Nat.reduceLT, reduceIte, Int.reduceToNat, w64_id, cast_succ])
    refine SW.ret ?_; (try simp only [go_sem]); (first | refine FunPost.one ?_ | refine FunPost.two ?_ | refine FunPost.three ?_); (try simp (config := { maxSteps := 1000000 }) (disch := (first | omega | (simp only [go_sem]; try omega))) only [go_sem, Nat.reduceAdd, Nat.reduceEqDiff, Nat.reduceLeDiff, Nat.reduceMul, Nat.reduceLT, reduceIte, Int.reduceToNat, w64_id, cast_succ])
    exact GR.of rfl
  have hsx := small_rows (by omega) (g3 (by omega)) (by omega)
  have t1 := toCover_fn n xss hsx.1 hsx.2
  have t2 := toInt64S_fn cols (by omega)
  have htot : total xss ≤ 1073741824 := by have := g3 (by omega); omega
  replace hi := fun H => hi H hsx.1
  replace hi2 := fun H args => hi2 H args hsx.1
  repeat (first | (with_reducible first | refine SW.seq ?_ | refine SW.block ?_ | refine SW.rowC ?_ | refine SW.skip ?_ | refine SW.exit ?_ | intro _ | refine And.intro (by omega) ?_) | simp (config := { maxSteps := 1000000 }) (disch := (first | omega | (simp only [go_sem]; try omega))) only [go_sem, Nat.reduceAdd, Nat.reduceEqDiff, Nat.reduceLeDiff, Nat.reduceMul, Nat.reduceLT, reduceIte, Int.reduceToNat, w64_id, cast_succ])
  refine ACalls.fn (t1 _) ?_
  repeat (first | (with_reducible first | refine SW.seq ?_ | refine SW.block ?_ | refine SW.rowC ?_ | refine SW.skip ?_ | refine SW.exit ?_ | refine PFn.use (t2) ?_ | refine PFn.useq (t2) ?_ | refine PFn.use (hs) ?_ | refine PFn.useq (hs) ?_ | intro _ | refine And.intro (by omega) ?_) | simp (config := { maxSteps := 1000000 }) (disch := (first | omega | (simp only [go_sem]; try omega))) only [go_sem, Nat.reduceAdd, Nat.reduceEqDiff, Nat.reduceLeDiff, Nat.reduceMul, Nat.reduceLT, reduceIte, Int.reduceToNat, w64_id, cast_succ])
  refine (toCover_ok _ n _ xss rfl (rd_ilSS _ _) hsx.1 hsx.2).mono ?_
  rintro r H1 ⟨ext, v, hH1, rfl, own⟩
  have e0 : (H ++ [(⟨0, 24, 1, [I n, ilSS xss]⟩ : Blk), ⟨0, tyCov, 1, [I a, ilSS ys]⟩])[H.length]? = some ⟨0, 24, 1, [I n, ilSS xss]⟩ := by simp
  have e1 : (H ++ [(⟨0, 24, 1, [I n, ilSS xss]⟩ : Blk), ⟨0, tyCov, 1, [I a, ilSS ys]⟩])[H.length + 1]? = some ⟨0, tyCov, 1, [I a, ilSS ys]⟩ := by simp
  have pa := get_appB2 e0 ext
  have pw := get_appB2 e1 ext
  rw [← hH1] at pa pw
  have hb : (H ++ [(⟨0, 24, 1, [I n, ilSS xss]⟩ : Blk), ⟨0, tyCov, 1, [I a, ilSS ys]⟩]).length = H.length + 2 := by simp
  rw [hb] at own
  have hlt : H.length + 1 < H1.length := (List.getElem?_eq_some_iff.1 pw).1
  clear hH1 hb e0 e1
  repeat (first | (with_reducible first | refine SW.seq ?_ | refine SW.block ?_ | refine SW.rowC ?_ | refine SW.skip ?_ | refine SW.exit ?_ | intro _ | refine And.intro (by omega) ?_) | simp (config := { maxSteps := 1000000 }) (disch := (first | omega | (simp only [go_sem]; try omega))) only [go_sem, Nat.reduceAdd, Nat.reduceEqDiff, Nat.reduceLeDiff, Nat.reduceMul, Nat.reduceLT, reduceIte, Int.reduceToNat, w64_id, cast_succ, own.one.1, own.one.2])
  refine (toInt64S_ok _ _ cols (rd_ilS _ _) (by omega)).mono ?_
  rintro r H2 ⟨rfl, hH2⟩
  have px := get_appB2 (show (H1 ++ [(⟨0, tyCov, 1, [I n, v]⟩ : Blk)])[H1.length]? = some ⟨0, tyCov, 1, [I n, v]⟩ by simp) [⟨0, 2, 1, cols.map I⟩]
  have own1 : OwnS H2 (Btw (H1.length + 1) (H1.length + 2)) H2.length (.nm (H1 ++ [(⟨0, tyCov, 1, [I n, v]⟩ : Blk)]).length 0 0 cols.length) cols := .inl ⟨_, 0, 2, rfl, ⟨by simp, by simp⟩, by rw [hH2]; simp, by rw [hH2]; simp⟩
  replace pa := get_appB2 (get_appB2 pa [(⟨0, tyCov, 1, [I n, v]⟩ : Blk)]) [⟨0, 2, 1, cols.map I⟩]
  replace pw := get_appB2 (get_appB2 pw [(⟨0, tyCov, 1, [I n, v]⟩ : Blk)]) [⟨0, 2, 1, cols.map I⟩]
  replace own := (own.append [(⟨0, tyCov, 1, [I n, v]⟩ : Blk)]).append [⟨0, 2, 1, cols.map I⟩]
  have hl2 : H2.length = H1.length + 2 := by rw [hH2]; simp
  rw [← hH2] at pa pw px own
  generalize (AV.nm (H1 ++ [(⟨0, tyCov, 1, [I n, v]⟩ : Blk)]).length 0 0 cols.length) = u1 at *
  clear hH2
  generalize hg : H1.length = g at *
  have pxl : acells H2 2 (.pc g 0 0) = some [I n, v] := pc_lds px (by simp)
  repeat (first | (with_reducible first | refine SW.seq ?_ | refine SW.block ?_ | refine SW.rowC ?_ | refine SW.skip ?_ | refine SW.exit ?_ | intro _ | refine And.intro (by omega) ?_) | simp (config := { maxSteps := 1000000 }) (disch := (first | omega | (simp only [go_sem]; try omega))) only [go_sem, Nat.reduceAdd, Nat.reduceEqDiff, Nat.reduceLeDiff, Nat.reduceMul, Nat.reduceLT, reduceIte, Int.reduceToNat, w64_id, cast_succ, pc_alive px, pxl, own.one.1, own.one.2])
  refine (hi2 _ _ (.cons (froz_agg2 (froz_I' _) (own.froz (fun r _ => Nat.zero_le _))) (.cons (own1.froz (fun r _ => Nat.zero_le _)) .nil))).mono ?_
  rintro r H3 ⟨ext2, gv, gu, q, hH3, rfl, q1, q2, ho, hu⟩
  replace pa := get_appB2 pa ext2
  replace pw := get_appB2 pw ext2
  replace px := get_appB2 px ext2
  replace own := own.append ext2
  replace own1 := own1.appendS ext2
  replace ho : OwnSS H3 (Btw q H3.length) gv ys := ho
  replace hu : OwnS H3 (Btw H2.length q) H3.length gu zs := hu
  have hl3 : H2.length ≤ H3.length := by rw [hH3]; simp
  rw [← hH3] at pa pw px own own1
  clear hH3 pxl
  repeat (first | (with_reducible first | refine SW.seq ?_ | refine SW.block ?_ | refine SW.rowC ?_ | refine SW.skip ?_ | refine SW.exit ?_ | intro _ | refine And.intro (by omega) ?_) | simp (config := { maxSteps := 1000000 }) (disch := (first | omega | (simp only [go_sem]; try omega))) only [go_sem, Nat.reduceAdd, Nat.reduceEqDiff, Nat.reduceLeDiff, Nat.reduceMul, Nat.reduceLT, reduceIte, Int.reduceToNat, w64_id, cast_succ, ho.one.1, ho.one.2])
  have pg := (show (H3 ++ [(⟨0, tyCov, 1, [I a, gv]⟩ : Blk)])[H3.length]? = some ⟨0, tyCov, 1, [I a, gv]⟩ by simp)
  replace pa := get_appB2 pa [(⟨0, tyCov, 1, [I a, gv]⟩ : Blk)]
  replace pw := get_appB2 pw [(⟨0, tyCov, 1, [I a, gv]⟩ : Blk)]
  replace px := get_appB2 px [(⟨0, tyCov, 1, [I a, gv]⟩ : Blk)]
  replace own := own.append [(⟨0, tyCov, 1, [I a, gv]⟩ : Blk)]
  replace own1 := own1.appendS [(⟨0, tyCov, 1, [I a, gv]⟩ : Blk)]
  replace ho := ho.append [(⟨0, tyCov, 1, [I a, gv]⟩ : Blk)]
  replace hu := hu.appendS [(⟨0, tyCov, 1, [I a, gv]⟩ : Blk)]
  generalize hgg : H3.length = gg at *
  generalize H3 ++ [(⟨0, tyCov, 1, [I a, gv]⟩ : Blk)] = H4 at *
  have hgl : gg < H4.length := (List.getElem?_eq_some_iff.1 pg).1
  have pgl : acells H4 2 (.pc gg 0 0) = some [I a, gv] := pc_lds pg (by simp)
  have pwl : acells H4 2 (.pc (H.length + 1) 0 0) = some [I a, ilSS ys] := pc_lds pw (by simp)
  repeat (first | (with_reducible first | refine SW.seq ?_ | refine SW.block ?_ | refine SW.rowC ?_ | refine SW.skip ?_ | refine SW.exit ?_ | intro _ | refine And.intro (by omega) ?_) | simp (config := { maxSteps := 1000000 }) (disch := (first | omega | (simp only [go_sem]; try omega))) only [go_sem, Nat.reduceAdd, Nat.reduceEqDiff, Nat.reduceLeDiff, Nat.reduceMul, Nat.reduceLT, reduceIte, Int.reduceToNat, w64_id, cast_succ, pc_alive pw, pc_alive pg, pwl, pgl])
  refine ACalls.fn (eqCover_ok _ a a gv (ilSS ys) ys ys ho.one.1 rfl ho.rd (rd_ilSS _ _)) ?_
  rw [show (decide (a = a) && decide (ys = ys)) = true by simp]
  repeat (first | (with_reducible first | refine SW.seq ?_ | refine SW.block ?_ | refine SW.rowC ?_ | refine SW.skip ?_ | refine SW.exit ?_ | intro _ | refine And.intro (by omega) ?_) | simp (config := { maxSteps := 1000000 }) (disch := (first | omega | (simp only [go_sem]; try omega))) only [go_sem, Nat.reduceAdd, Nat.reduceEqDiff, Nat.reduceLeDiff, Nat.reduceMul, Nat.reduceLT, reduceIte, Int.reduceToNat, w64_id, cast_succ])
  refine ACalls.fn (eqInt64S_ok _ gu (ilS zs) zs zs hu.rd (rd_ilS _ _)) ?_
  rw [show decide (zs = zs) = true by simp]
  repeat (first | (with_reducible first | refine SW.seq ?_ | refine SW.block ?_ | refine SW.rowC ?_ | refine SW.skip ?_ | refine SW.exit ?_ | intro _ | refine And.intro (by omega) ?_) | simp (config := { maxSteps := 1000000 }) (disch := (first | omega | (simp only [go_sem]; try omega))) only [go_sem, Nat.reduceAdd, Nat.reduceEqDiff, Nat.reduceLeDiff, Nat.reduceMul, Nat.reduceLT, reduceIte, Int.reduceToNat, w64_id, cast_succ])
  refine SW.condF rfl ?_
  have pxl : acells H4 2 (.pc g 0 0) = some [I n, v] := pc_lds px (by simp)
  have pal : acells H4 2 (.pc H.length 0 0) = some [I n, ilSS xss] := pc_lds pa (by simp)
  repeat (first | (with_reducible first | refine SW.seq ?_ | refine SW.block ?_ | refine SW.rowC ?_ | refine SW.skip ?_ | refine SW.exit ?_ | refine PFn.use (t1) ?_ | refine PFn.useq (t1) ?_ | intro _ | refine And.intro (by omega) ?_) | simp (config := { maxSteps := 1000000 }) (disch := (first | omega | (simp only [go_sem]; try omega))) only [go_sem, Nat.reduceAdd, Nat.reduceEqDiff, Nat.reduceLeDiff, Nat.reduceMul, Nat.reduceLT, reduceIte, Int.reduceToNat, w64_id, cast_succ, pc_alive px, pc_alive pa, pxl, pal])
  refine QcallW.of (fun ext => eqCover_ok _ n n v (ilSS xss) xss xss own.one.1 rfl (own.append ext).rd (rd_ilSS _ _)) ?_
  rw [show (decide (n = n) && decide (xss = xss)) = true by simp]
  repeat (first | (with_reducible first | refine SW.seq ?_ | refine SW.block ?_ | refine SW.rowC ?_ | refine SW.skip ?_ | refine SW.exit ?_ | intro _ | refine And.intro (by omega) ?_) | simp (config := { maxSteps := 1000000 }) (disch := (first | omega | (simp only [go_sem]; try omega))) only [go_sem, Nat.reduceAdd, Nat.reduceEqDiff, Nat.reduceLeDiff, Nat.reduceMul, Nat.reduceLT, reduceIte, Int.reduceToNat, w64_id, cast_succ])
  refine SW.condF rfl ?_
  repeat (first | (with_reducible first | refine SW.seq ?_ | refine SW.block ?_ | refine SW.rowC ?_ | refine SW.skip ?_ | refine SW.exit ?_ | refine PFn.use (t2) ?_ | refine PFn.useq (t2) ?_ | intro _ | refine And.intro (by omega) ?_) | simp (config := { maxSteps := 1000000 }) (disch := (first | omega | (simp only [go_sem]; try omega))) only [go_sem, Nat.reduceAdd, Nat.reduceEqDiff, Nat.reduceLeDiff, Nat.reduceMul, Nat.reduceLT, reduceIte, Int.reduceToNat, w64_id, cast_succ])
  refine ACalls.fn (eqInt64S_ok _ u1 (ilS cols) cols cols own1.rd (rd_ilS _ _)) ?_
  rw [show decide (cols = cols) = true by simp]
  repeat (first | (with_reducible first | refine SW.seq ?_ | refine SW.block ?_ | refine SW.rowC ?_ | refine SW.skip ?_ | refine SW.exit ?_ | intro _ | refine And.intro (by omega) ?_) | simp (config := { maxSteps := 1000000 }) (disch := (first | omega | (simp only [go_sem]; try omega))) only [go_sem, Nat.reduceAdd, Nat.reduceEqDiff, Nat.reduceLeDiff, Nat.reduceMul, Nat.reduceLT, reduceIte, Int.reduceToNat, w64_id, cast_succ])
  refine SW.condF rfl ?_
  repeat (first | (with_reducible first | refine SW.seq ?_ | refine SW.block ?_ | refine SW.rowC ?_ | refine SW.skip ?_ | refine SW.exit ?_ | intro _ | refine And.intro (by omega) ?_) | simp (config := { maxSteps := 1000000 }) (disch := (first | omega | (simp only [go_sem]; try omega))) only [go_sem, Nat.reduceAdd, Nat.reduceEqDiff, Nat.reduceLeDiff, Nat.reduceMul, Nat.reduceLT, reduceIte, Int.reduceToNat, w64_id, cast_succ, pc_alive px, pxl, own.one.1, own.one.2])
  refine (markCover_ok _ _ n 1 v xss own.one.1 own (by omega) (by omega)).mono ?_
  rintro r H5 ⟨rfl, -, m1, m2⟩
  have hlt5 : ∀ j b, H4[j]? = some b → j < H4.length := fun j b h => (List.getElem?_eq_some_iff.1 h).1
  replace pw := (m2 (H.length + 1) (by unfold Btw; omega) (by omega)).trans pw
  replace pg := (m2 gg (by unfold Btw; omega) (by omega)).trans pg
  replace pa := (m2 H.length (by unfold Btw; omega) (by omega)).trans pa
  replace ho := ho.same (H' := H5) (fun j b hj hb => by rw [m2 j (by unfold Btw at hj ⊢; omega) (hlt5 j b hb)]; exact hb)
  replace hu := hu.same (H' := H5) (fun j b hj _ hb => by rw [m2 j (by unfold Btw at hj ⊢; omega) (hlt5 j b hb)]; exact hb)
  replace own1 := own1.same (H' := H5) (fun j b hj _ hb => by rw [m2 j (by unfold Btw at hj ⊢; omega) (hlt5 j b hb)]; exact hb)
  clear own px pxl pal pwl pgl
  repeat (first | (with_reducible first | refine SW.seq ?_ | refine SW.block ?_ | refine SW.rowC ?_ | refine SW.skip ?_ | refine SW.exit ?_ | intro _ | refine And.intro (by omega) ?_) | simp (config := { maxSteps := 1000000 }) (disch := (first | omega | (simp only [go_sem]; try omega))) only [go_sem, Nat.reduceAdd, Nat.reduceEqDiff, Nat.reduceLeDiff, Nat.reduceMul, Nat.reduceLT, reduceIte, Int.reduceToNat, w64_id, cast_succ])
  refine (markS_ok _ _ _ _ _ (1 + total xss) own1 (by omega) (by omega)).mono ?_
  rintro r H6 ⟨rfl, -, k1, k2⟩
  replace pw := (k2 (H.length + 1) (by unfold Btw; omega)).trans pw
  replace pg := (k2 gg (by unfold Btw; omega)).trans pg
  replace pa := (k2 H.length (by unfold Btw; omega)).trans pa
  replace ho := ho.same (H' := H6) (fun j b hj hb => by rw [k2 j (by unfold Btw at hj ⊢; omega)]; exact hb)
  replace hu := hu.same (H' := H6) (fun j b hj _ hb => by rw [k2 j (by unfold Btw at hj ⊢; omega)]; exact hb)
  clear own1
  have pgl : acells H6 2 (.pc gg 0 0) = some [I a, gv] := pc_lds pg (by simp)
  have pwl : acells H6 2 (.pc (H.length + 1) 0 0) = some [I a, ilSS ys] := pc_lds pw (by simp)
  have hneg1 : decide ((1 : Int) + total xss + cols.length < 0) = false := decide_eq_false (by omega)
  repeat (first | (with_reducible first | refine SW.seq ?_ | refine SW.block ?_ | refine SW.rowC ?_ | refine SW.skip ?_ | refine SW.exit ?_ | intro _ | refine And.intro (by omega) ?_) | simp (config := { maxSteps := 1000000 }) (disch := (first | omega | (simp only [go_sem]; try omega))) only [go_sem, Nat.reduceAdd, Nat.reduceEqDiff, Nat.reduceLeDiff, Nat.reduceMul, Nat.reduceLT, reduceIte, Int.reduceToNat, w64_id, cast_succ, hneg1, pc_alive pw, pc_alive pg, pwl, pgl])
  refine ACalls.fn (eqCover_ok _ a a gv (ilSS ys) ys ys ho.one.1 rfl ho.rd (rd_ilSS _ _)) ?_
  rw [show (decide (a = a) && decide (ys = ys)) = true by simp]
  repeat (first | (with_reducible first | refine SW.seq ?_ | refine SW.block ?_ | refine SW.rowC ?_ | refine SW.skip ?_ | refine SW.exit ?_ | intro _ | refine And.intro (by omega) ?_) | simp (config := { maxSteps := 1000000 }) (disch := (first | omega | (simp only [go_sem]; try omega))) only [go_sem, Nat.reduceAdd, Nat.reduceEqDiff, Nat.reduceLeDiff, Nat.reduceMul, Nat.reduceLT, reduceIte, Int.reduceToNat, w64_id, cast_succ])
  refine ACalls.fn (eqInt64S_ok _ gu (ilS zs) zs zs hu.rd (rd_ilS _ _)) ?_
  rw [show decide (zs = zs) = true by simp]
  repeat (first | (with_reducible first | refine SW.seq ?_ | refine SW.block ?_ | refine SW.rowC ?_ | refine SW.skip ?_ | refine SW.exit ?_ | intro _ | refine And.intro (by omega) ?_) | simp (config := { maxSteps := 1000000 }) (disch := (first | omega | (simp only [go_sem]; try omega))) only [go_sem, Nat.reduceAdd, Nat.reduceEqDiff, Nat.reduceLeDiff, Nat.reduceMul, Nat.reduceLT, reduceIte, Int.reduceToNat, w64_id, cast_succ])
  refine SW.condF rfl ?_
  repeat (first | (with_reducible first | refine SW.seq ?_ | refine SW.block ?_ | refine SW.rowC ?_ | refine SW.skip ?_ | refine SW.exit ?_ | intro _ | refine And.intro (by omega) ?_) | simp (config := { maxSteps := 1000000 }) (disch := (first | omega | (simp only [go_sem]; try omega))) only [go_sem, Nat.reduceAdd, Nat.reduceEqDiff, Nat.reduceLeDiff, Nat.reduceMul, Nat.reduceLT, reduceIte, Int.reduceToNat, w64_id, cast_succ, pc_alive pg, pgl, ho.one.1, ho.one.2])
  refine (markCover_ok _ _ a 1 gv ys ho.one.1 ho (by omega) (by omega)).mono ?_
  rintro r H7 ⟨rfl, ho7, p1, p2⟩
  have hlt7 : ∀ j b, H6[j]? = some b → j < H6.length := fun j b h => (List.getElem?_eq_some_iff.1 h).1
  replace pw := (p2 (H.length + 1) (by unfold Btw; omega) (hlt7 _ _ pw)).trans pw
  replace pg := (p2 gg (by unfold Btw; omega) (hlt7 _ _ pg)).trans pg
  replace pa := (p2 H.length (by unfold Btw; omega) (hlt7 _ _ pa)).trans pa
  replace hu := hu.same (H' := H7) (fun j b hj _ hb => by rw [p2 j (by unfold Btw at hj ⊢; omega) (hlt7 j b hb)]; exact hb)
  clear ho pgl pwl
  repeat (first | (with_reducible first | refine SW.seq ?_ | refine SW.block ?_ | refine SW.rowC ?_ | refine SW.skip ?_ | refine SW.exit ?_ | intro _ | refine And.intro (by omega) ?_) | simp (config := { maxSteps := 1000000 }) (disch := (first | omega | (simp only [go_sem]; try omega))) only [go_sem, Nat.reduceAdd, Nat.reduceEqDiff, Nat.reduceLeDiff, Nat.reduceMul, Nat.reduceLT, reduceIte, Int.reduceToNat, w64_id, cast_succ])
  refine (markS_ok _ _ _ _ _ (1 + total ys) hu (by omega) (by omega)).mono ?_
  rintro r H8 ⟨rfl, hu8, q3, q4⟩
  replace pw := (q4 (H.length + 1) (by unfold Btw; omega)).trans pw
  replace pg := (q4 gg (by unfold Btw; omega)).trans pg
  replace pa := (q4 H.length (by unfold Btw; omega)).trans pa
  replace ho7 := ho7.same (H' := H8) (fun j b hj hb => by rw [q4 j (by unfold Btw at hj ⊢; omega)]; exact hb)
  have pgl : acells H8 2 (.pc gg 0 0) = some [I a, gv] := pc_lds pg (by simp)
  repeat (first | (with_reducible first | refine SW.seq ?_ | refine SW.block ?_ | refine SW.rowC ?_ | refine SW.skip ?_ | refine SW.exit ?_ | intro _ | refine And.intro (by omega) ?_) | simp (config := { maxSteps := 1000000 }) (disch := (first | omega | (simp only [go_sem]; try omega))) only [go_sem, Nat.reduceAdd, Nat.reduceEqDiff, Nat.reduceLeDiff, Nat.reduceMul, Nat.reduceLT, reduceIte, Int.reduceToNat, w64_id, cast_succ, pc_alive pg, pgl, ho7.one.1, ho7.one.2])
  refine ACalls.fn (heldCover_ok _ a 1 gv ys ho7.one.1 ho7.rd (by omega) (by omega)) ?_
  have hneg2 : decide ((1 : Int) + total ys < 0) = false := decide_eq_false (by omega)
  have hneg3 : decide ((1 : Int) + total ys + zs.length < 0) = false := decide_eq_false (by omega)
  repeat (first | (with_reducible first | refine SW.seq ?_ | refine SW.block ?_ | refine SW.rowC ?_ | refine SW.skip ?_ | refine SW.exit ?_ | intro _ | refine And.intro (by omega) ?_) | simp (config := { maxSteps := 1000000 }) (disch := (first | omega | (simp only [go_sem]; try omega))) only [go_sem, Nat.reduceAdd, Nat.reduceEqDiff, Nat.reduceLeDiff, Nat.reduceMul, Nat.reduceLT, reduceIte, Int.reduceToNat, w64_id, cast_succ, hneg2])
  refine SW.condF rfl ?_
  repeat (first | (with_reducible first | refine SW.seq ?_ | refine SW.block ?_ | refine SW.rowC ?_ | refine SW.skip ?_ | refine SW.exit ?_ | intro _ | refine And.intro (by omega) ?_) | simp (config := { maxSteps := 1000000 }) (disch := (first | omega | (simp only [go_sem]; try omega))) only [go_sem, Nat.reduceAdd, Nat.reduceEqDiff, Nat.reduceLeDiff, Nat.reduceMul, Nat.reduceLT, reduceIte, Int.reduceToNat, w64_id, cast_succ])
  refine ACalls.fn (heldInt64S_ok _ _ _ (1 + total ys) hu8.rd (by omega) (by omega)) ?_
  repeat (first | (with_reducible first | refine SW.seq ?_ | refine SW.block ?_ | refine SW.rowC ?_ | refine SW.skip ?_ | refine SW.exit ?_ | intro _ | refine And.intro (by omega) ?_) | simp (config := { maxSteps := 1000000 }) (disch := (first | omega | (simp only [go_sem]; try omega))) only [go_sem, Nat.reduceAdd, Nat.reduceEqDiff, Nat.reduceLeDiff, Nat.reduceMul, Nat.reduceLT, reduceIte, Int.reduceToNat, w64_id, cast_succ, hneg3])
  refine SW.condF rfl ?_
  repeat (first | (with_reducible first | refine SW.seq ?_ | refine SW.block ?_ | refine SW.rowC ?_ | refine SW.skip ?_ | refine SW.exit ?_ | intro _ | refine And.intro (by omega) ?_) | simp (config := { maxSteps := 1000000 }) (disch := (first | omega | (simp only [go_sem]; try omega))) only [go_sem, Nat.reduceAdd, Nat.reduceEqDiff, Nat.reduceLeDiff, Nat.reduceMul, Nat.reduceLT, reduceIte, Int.reduceToNat, w64_id, cast_succ])
  refine SW.condF rfl ?_
  repeat (first | (with_reducible first | refine SW.seq ?_ | refine SW.block ?_ | refine SW.rowC ?_ | refine SW.skip ?_ | refine SW.exit ?_ | refine PFn.use (t1) ?_ | refine PFn.useq (t1) ?_ | refine PFn.use (t2) ?_ | refine PFn.useq (t2) ?_ | intro _ | refine And.intro (by omega) ?_) | simp (config := { maxSteps := 1000000 }) (disch := (first | omega | (simp only [go_sem]; try omega))) only [go_sem, Nat.reduceAdd, Nat.reduceEqDiff, Nat.reduceLeDiff, Nat.reduceMul, Nat.reduceLT, reduceIte, Int.reduceToNat, w64_id, cast_succ, pc_alive pa, show acells H8 2 (.pc H.length 0 0) = some [I n, ilSS xss] from pc_lds pa (by simp)])
  refine (hi _).mono ?_
  rintro r H9 ⟨ext3, hv, hw, q5, rfl, rfl, q6, q7, ho9, hu9⟩
  replace ho9 : OwnSS (H8 ++ ext3) (Btw q5 (H8 ++ ext3).length) hv ys := ho9
  replace hu9 : OwnS (H8 ++ ext3) (Btw H8.length q5) (H8 ++ ext3).length hw zs := hu9
  have e9 : H8 ++ (ext3 ++ [(⟨0, tyCov, 1, [I a, hv]⟩ : Blk)]) = H8 ++ ext3 ++ [(⟨0, tyCov, 1, [I a, hv]⟩ : Blk)] := by simp
  replace pw := get_appB2 (get_appB2 pw ext3) [(⟨0, tyCov, 1, [I a, hv]⟩ : Blk)]
  replace pg := get_appB2 (get_appB2 pg ext3) [(⟨0, tyCov, 1, [I a, hv]⟩ : Blk)]
  replace ho7 := (ho7.append ext3).append [(⟨0, tyCov, 1, [I a, hv]⟩ : Blk)]
  replace hu8 := (hu8.appendS ext3).appendS [(⟨0, tyCov, 1, [I a, hv]⟩ : Blk)]
  have ho10 := ho9.append [(⟨0, tyCov, 1, [I a, hv]⟩ : Blk)]
  have hu10 := hu9.appendS [(⟨0, tyCov, 1, [I a, hv]⟩ : Blk)]
  have ph : (H8 ++ ext3 ++ [(⟨0, tyCov, 1, [I a, hv]⟩ : Blk)])[H8.length + ext3.length]? = some ⟨0, tyCov, 1, [I a, hv]⟩ := by rw [List.getElem?_append_right (by simp)]; simp
  rw [← e9] at pw pg ho7 hu8 ho10 hu10 ph
  clear pgl e9
  repeat (first | (with_reducible first | refine SW.seq ?_ | refine SW.block ?_ | refine SW.rowC ?_ | refine SW.skip ?_ | refine SW.exit ?_ | intro _ | refine And.intro (by omega) ?_) | simp (config := { maxSteps := 1000000 }) (disch := (first | omega | (simp only [go_sem]; try omega))) only [go_sem, Nat.reduceAdd, Nat.reduceEqDiff, Nat.reduceLeDiff, Nat.reduceMul, Nat.reduceLT, reduceIte, Int.reduceToNat, w64_id, cast_succ, ho9.one.1, ho9.one.2])
  generalize H8 ++ (ext3 ++ [(⟨0, tyCov, 1, [I a, hv]⟩ : Blk)]) = H10 at *
  have pwl : acells H10 2 (.pc (H.length + 1) 0 0) = some [I a, ilSS ys] := pc_lds pw (by simp)
  have phl : acells H10 2 (.pc (H8.length + ext3.length) 0 0) = some [I a, hv] := pc_lds ph (by simp)
  have pgl : acells H10 2 (.pc gg 0 0) = some [I a, gv] := pc_lds pg (by simp)
  repeat (first | (with_reducible first | refine SW.seq ?_ | refine SW.block ?_ | refine SW.rowC ?_ | refine SW.skip ?_ | refine SW.exit ?_ | intro _ | refine And.intro (by omega) ?_) | simp (config := { maxSteps := 1000000 }) (disch := (first | omega | (simp only [go_sem]; try omega))) only [go_sem, Nat.reduceAdd, Nat.reduceEqDiff, Nat.reduceLeDiff, Nat.reduceMul, Nat.reduceLT, reduceIte, Int.reduceToNat, w64_id, cast_succ, pwl, phl, pc_alive pw, pc_alive ph])
  refine ACalls.fn (eqCover_ok _ a a hv (ilSS ys) ys ys ho10.one.1 rfl ho10.rd (rd_ilSS _ _)) ?_
  rw [show (decide (a = a) && decide (ys = ys)) = true by simp]
  repeat (first | (with_reducible first | refine SW.seq ?_ | refine SW.block ?_ | refine SW.rowC ?_ | refine SW.skip ?_ | refine SW.exit ?_ | intro _ | refine And.intro (by omega) ?_) | simp (config := { maxSteps := 1000000 }) (disch := (first | omega | (simp only [go_sem]; try omega))) only [go_sem, Nat.reduceAdd, Nat.reduceEqDiff, Nat.reduceLeDiff, Nat.reduceMul, Nat.reduceLT, reduceIte, Int.reduceToNat, w64_id, cast_succ])
  refine ACalls.fn (eqInt64S_ok _ hw (ilS zs) zs zs hu10.rd (rd_ilS _ _)) ?_
  rw [show decide (zs = zs) = true by simp]
  repeat (first | (with_reducible first | refine SW.seq ?_ | refine SW.block ?_ | refine SW.rowC ?_ | refine SW.skip ?_ | refine SW.exit ?_ | intro _ | refine And.intro (by omega) ?_) | simp (config := { maxSteps := 1000000 }) (disch := (first | omega | (simp only [go_sem]; try omega))) only [go_sem, Nat.reduceAdd, Nat.reduceEqDiff, Nat.reduceLeDiff, Nat.reduceMul, Nat.reduceLT, reduceIte, Int.reduceToNat, w64_id, cast_succ])
  refine SW.condF rfl ?_
  repeat (first | (with_reducible first | refine SW.seq ?_ | refine SW.block ?_ | refine SW.rowC ?_ | refine SW.skip ?_ | refine SW.exit ?_ | intro _ | refine And.intro (by omega) ?_) | simp (config := { maxSteps := 1000000 }) (disch := (first | omega | (simp only [go_sem]; try omega))) only [go_sem, Nat.reduceAdd, Nat.reduceEqDiff, Nat.reduceLeDiff, Nat.reduceMul, Nat.reduceLT, reduceIte, Int.reduceToNat, w64_id, cast_succ, pgl, pc_alive pg])
  refine ACalls.fn (heldCover_ok _ a 1 gv ys ho7.one.1 ho7.rd (by omega) (by omega)) ?_
  repeat (first | (with_reducible first | refine SW.seq ?_ | refine SW.block ?_ | refine SW.rowC ?_ | refine SW.skip ?_ | refine SW.exit ?_ | intro _ | refine And.intro (by omega) ?_) | simp (config := { maxSteps := 1000000 }) (disch := (first | omega | (simp only [go_sem]; try omega))) only [go_sem, Nat.reduceAdd, Nat.reduceEqDiff, Nat.reduceLeDiff, Nat.reduceMul, Nat.reduceLT, reduceIte, Int.reduceToNat, w64_id, cast_succ, hneg2])
  refine SW.condF rfl ?_
  repeat (first | (with_reducible first | refine SW.seq ?_ | refine SW.block ?_ | refine SW.rowC ?_ | refine SW.skip ?_ | refine SW.exit ?_ | intro _ | refine And.intro (by omega) ?_) | simp (config := { maxSteps := 1000000 }) (disch := (first | omega | (simp only [go_sem]; try omega))) only [go_sem, Nat.reduceAdd, Nat.reduceEqDiff, Nat.reduceLeDiff, Nat.reduceMul, Nat.reduceLT, reduceIte, Int.reduceToNat, w64_id, cast_succ])
  refine ACalls.fn (heldInt64S_ok _ _ _ (1 + total ys) hu8.rd (by omega) (by omega)) ?_
  repeat (first | (with_reducible first | refine SW.seq ?_ | refine SW.block ?_ | refine SW.rowC ?_ | refine SW.skip ?_ | refine SW.exit ?_ | intro _ | refine And.intro (by omega) ?_) | simp (config := { maxSteps := 1000000 }) (disch := (first | omega | (simp only [go_sem]; try omega))) only [go_sem, Nat.reduceAdd, Nat.reduceEqDiff, Nat.reduceLeDiff, Nat.reduceMul, Nat.reduceLT, reduceIte, Int.reduceToNat, w64_id, cast_succ, hneg3])
  refine SW.condF rfl ?_
  repeat (first | (with_reducible first | refine SW.seq ?_ | refine SW.block ?_ | refine SW.rowC ?_ | refine SW.skip ?_ | refine SW.exit ?_ | intro _ | refine And.intro (by omega) ?_) | simp (config := { maxSteps := 1000000 }) (disch := (first | omega | (simp only [go_sem]; try omega))) only [go_sem, Nat.reduceAdd, Nat.reduceEqDiff, Nat.reduceLeDiff, Nat.reduceMul, Nat.reduceLT, reduceIte, Int.reduceToNat, w64_id, cast_succ])
  refine SW.condF rfl ?_
  repeat (first | (with_reducible first | refine SW.seq ?_ | refine SW.block ?_ | refine SW.rowC ?_ | refine SW.skip ?_ | refine SW.exit ?_ | intro _ | refine And.intro (by omega) ?_) | simp (config := { maxSteps := 1000000 }) (disch := (first | omega | (simp only [go_sem]; try omega))) only [go_sem, Nat.reduceAdd, Nat.reduceEqDiff, Nat.reduceLeDiff, Nat.reduceMul, Nat.reduceLT, reduceIte, Int.reduceToNat, w64_id, cast_succ])
  refine SW.ret ?_; (try simp only [go_sem]); (first | refine FunPost.one ?_ | refine FunPost.two ?_ | refine FunPost.three ?_); (try simp (config := { maxSteps := 1000000 }) (disch := (first | omega | (simp only [go_sem]; try omega))) only [go_sem, Nat.reduceAdd, Nat.reduceEqDiff, Nat.reduceLeDiff, Nat.reduceMul, Nat.reduceLT, reduceIte, Int.reduceToNat, w64_id, cast_succ])
  exact GR.of rfl
end Go.Proofs.Ytkpohapopokahaa
