/- Counting packings within a budget. -/
import Derived.Test.YthogadbnddmkdaaGreatzK27
set_option linter.unusedSimpArgs false
set_option linter.unusedVariables false
set_option maxHeartbeats 4000000
set_option maxRecDepth 100000
namespace Go.Proofs.YthogadbnddmkdaaGreat
open Go.Av
def fitsC (s : Int) (B : List (List Int)) (x : List Int) : Bool := B.all fun b => !decide (s < (comm b x : Int))
def cl (s : Int) (B : List (List Int)) : List (List Int) → Nat → Nat → Option (Nat × Nat)
  | _, 0, left => some (1, left)
  | [], _ + 1, left => some (0, left)
  | x :: rest, r + 1, left =>
    if fitsC s B x = true then
      (if left = 0 then none else
        match cl s (B ++ [x]) rest r (left - 1) with
        | none => none
        | some (c, l) => match cl s B rest (r + 1) l with
          | none => none
          | some (d, l') => some (c + d, l'))
    else cl s B rest (r + 1) left
theorem cl_zero (s : Int) (B rest : List (List Int)) (left : Nat) : cl s B rest 0 left = some (1, left) := by cases rest <;> rfl
end Go.Proofs.YthogadbnddmkdaaGreat
