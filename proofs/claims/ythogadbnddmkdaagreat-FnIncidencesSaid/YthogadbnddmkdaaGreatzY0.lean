/- Lists of lists of lists, told by their content. -/
import Derived.Test.YthogadbnddmkdaaGreatzU1
import Derived.Test.YthogadbnddmkdaaGreatzL1
import Derived.Test.YthogadbnddmkdaaGreatzM2
set_option linter.unusedSimpArgs false
set_option linter.unusedVariables false
set_option maxHeartbeats 4000000
set_option maxRecDepth 100000
namespace Go.Proofs.YthogadbnddmkdaaGreat
open Go.Av
def il3 (xs : List (List (List Int))) : AV := .il xs.length (xs.map ilSS)
section
variable {H : List Blk} {i : Nat} {b : Nat}
@[go_sem] theorem aview_il3 (xs : List (List (List Int))) : aview H (il3 xs) = some (xs.length, xs.map ilSS) := rfl
@[go_sem] theorem get3 {xs : List (List (List Int))} (h : i < xs.length) : (xs.map ilSS)[i]? = some (ilSS (xs.getD i [])) := by simp [List.getElem?_eq_getElem h]
@[go_sem] theorem app3 (xs : List (List (List Int))) (v : List (List Int)) : xs.map ilSS ++ [ilSS v] = (xs ++ [v]).map ilSS := by simp
@[go_sem] theorem take3 (xs : List (List (List Int))) : (xs.map ilSS).take xs.length = xs.map ilSS := List.take_of_length_le (by simp)
@[go_sem] theorem cell1_il3 (xs : List (List (List Int))) : (il3 xs).cell1 = true := rfl
@[go_sem] theorem partsOf_il3 (xs : List (List (List Int))) : partsOf (il3 xs) = [il3 xs] := rfl
@[go_sem] theorem all31 (xs : List (List (List Int))) : (xs.map ilSS).all AV.cell1 = true := by rw [List.all_eq_true]; intro c hc; obtain ⟨x, _, rfl⟩ := List.mem_map.1 hc; rfl
theorem all_map3 (k : Nat) (xs : List (List (List Int))) : (∀ c ∈ xs.map ilSS, Bel k c) = True := eq_true (by intro c h; obtain ⟨x, _, rfl⟩ := List.mem_map.1 h; rw [Bel_ilSS]; trivial)
theorem Bel_il3 (k : Nat) (xs : List (List (List Int))) : Bel k (il3 xs) = True := eq_true (.il _ _ (by rw [all_map3]; trivial))
end
end Go.Proofs.YthogadbnddmkdaaGreat
