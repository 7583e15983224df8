/- Pairs that are not covered: the program, the reference. -/
import Derived.Test.YthogadbnddmkdaaProg
import Derived.KernelRfl
import Derived.Test.YthogadbnddmkdaazK16
import Derived.Test.YthogadbnddmkdaazL7
import Derived.Test.YthogadbnddmkdaazK1
set_option linter.unusedSimpArgs false
set_option linter.unusedVariables false
set_option maxHeartbeats 4000000
set_option maxRecDepth 100000
namespace Go.Proofs.Ythogadbnddmkdaa
open Go.Av
abbrev f_laws_eqArray : Nat := 13
def c_laws_eqArray : SC :=
 .seq (.reg [
     ⟨(some 2), .box 27 (.tmp 0), none⟩,
     ⟨(some 3), .box 27 (.tmp 1), none⟩,
     ⟨(some 4), .mv (.const (.bool false)), none⟩] [2, 3])
 (.seq (.seq (.reg [
     ⟨(some 5), .faddr 0 (.tmp 2), none⟩,
     ⟨(some 6), .load 1 false (.tmp 5), none⟩,
     ⟨(some 7), .faddr 0 (.tmp 3), none⟩,
     ⟨(some 8), .load 1 false (.tmp 7), none⟩,
     ⟨(some 9), .bin .neq (.tmp 6) (.tmp 8), none⟩] [2, 3, 9])
 (.cond (.tmp 9)
  (.seq (.reg [
      ⟨(some 4), .mv (.const (.bool false)), none⟩] [4])
  (.ret))
  (.skip)))
 (.seq (.seq (.reg [
     ⟨(some 10), .faddr 1 (.tmp 2), none⟩,
     ⟨(some 11), .load 1 false (.tmp 10), none⟩,
     ⟨(some 12), .faddr 1 (.tmp 3), none⟩,
     ⟨(some 13), .load 1 false (.tmp 12), none⟩,
     ⟨(some 14), .bin .neq (.tmp 11) (.tmp 13), none⟩] [2, 3, 14])
 (.cond (.tmp 14)
  (.seq (.reg [
      ⟨(some 4), .mv (.const (.bool false)), none⟩] [4])
  (.ret))
  (.skip)))
 (.seq (.seq (.reg [
     ⟨(some 15), .faddr 2 (.tmp 2), none⟩,
     ⟨(some 16), .load 1 false (.tmp 15), none⟩,
     ⟨(some 17), .faddr 2 (.tmp 3), none⟩,
     ⟨(some 18), .load 1 false (.tmp 17), none⟩,
     ⟨(some 19), .call 50 [(.tmp 16), (.tmp 18)], none⟩,
     ⟨(some 20), .un .not (.tmp 19), none⟩] [20])
 (.cond (.tmp 20)
  (.seq (.reg [
      ⟨(some 4), .mv (.const (.bool false)), none⟩] [4])
  (.ret))
  (.skip)))
 (.seq (.reg [
     ⟨(some 4), .mv (.const (.bool true)), none⟩] [4])
 (.ret)))))
theorem s_laws_eqArray : stripF Try.prog 13 [[2, 3], [2, 3, 9], [4], [2, 3, 14], [4], [20], [4], [4]] = some (c_laws_eqArray, [.tmp 4], 21) := by kernel_rfl
theorem mem_codes {l c : Nat} {row : List Int} {z : Int} : z ∈ codes l c row ↔ ∃ x y : Nat, x < y ∧ y < c ∧ z = atI l c x y (row.getD x 0) (row.getD y 0) := by
  unfold codes codesTo codeC
  constructor
  · intro h
    obtain ⟨x, hx, h⟩ := List.mem_flatMap.1 h
    obtain ⟨j, hj, rfl⟩ := List.mem_map.1 h
    rw [List.mem_range] at hx hj
    exact ⟨x, x + 1 + j, by omega, by omega, rfl⟩
  · rintro ⟨x, y, hxy, hy, rfl⟩
    refine List.mem_flatMap.2 ⟨x, List.mem_range.2 (by omega), List.mem_map.2 ⟨y - (x + 1), List.mem_range.2 (by omega), ?_⟩⟩
    rw [show x + 1 + (y - (x + 1)) = y by omega]
end Go.Proofs.Ythogadbnddmkdaa
