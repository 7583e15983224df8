/- Valid designs: the program, the reference. -/
import Derived.Test.YthogadbnddmkdaaGreatzU1
import Derived.Test.YthogadbnddmkdaaGreatzL1
import Derived.Test.YthogadbnddmkdaaGreatzK2
set_option linter.unusedSimpArgs false
set_option linter.unusedVariables false
set_option maxHeartbeats 4000000
set_option maxRecDepth 100000
namespace Go.Proofs.YthogadbnddmkdaaGreat
open Go.Av
theorem cmpL_neg : ∀ (xs ys : List Int), cmpL ys xs = - cmpL xs ys
  | [], [] => rfl
  | [], y :: ys => rfl
  | x :: xs, [] => rfl
  | x :: xs, y :: ys => by
    simp only [cmpL]
    by_cases h1 : x < y
    · have h2 : ¬ y < x := by omega
      simp [h1, h2]
    · by_cases h2 : y < x
      · simp [h1, h2]
      · simp only [h1, h2, if_false]; exact cmpL_neg xs ys
theorem slicesCompare_call : callable Tryz.prog f_slices_Compare_Lint64_int64 = true := by kernel_rfl
end Go.Proofs.YthogadbnddmkdaaGreat
