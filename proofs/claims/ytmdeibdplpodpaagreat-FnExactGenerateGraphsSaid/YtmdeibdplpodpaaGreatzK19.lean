/- Valid designs: the program, the reference. -/
import Derived.Test.YtmdeibdplpodpaaGreatzU1
import Derived.Test.YtmdeibdplpodpaaGreatzL1
import Derived.Test.YtmdeibdplpodpaaGreatzK1
import Derived.Test.YtmdeibdplpodpaaGreatzK2
set_option linter.unusedSimpArgs false
set_option linter.unusedVariables false
set_option maxHeartbeats 4000000
set_option maxRecDepth 100000
namespace Go.Proofs.YtmdeibdplpodpaaGreat
open Go.Av
theorem get_appU {H : List Blk} {p : Nat} {b : Blk} (h : H[p]? = some b) (ext : List Blk) : (H ++ ext)[p]? = some b := by
  rw [List.getElem?_append_left (List.getElem?_eq_some_iff.1 h).1]; exact h
theorem cmpL_neg : ∀ (xs ys : List Int), cmpL ys xs = - cmpL xs ys
  | [], [] => rfl
  | [], y :: ys => rfl
  | x :: xs, [] => rfl
  | x :: xs, y :: ys => by
    simp only [cmpL]
    by_cases h1 : x < y
    · have h2 : ¬ y < x := by omega
      simp [h1, h2]
    · by_cases h2 : y < x
      · simp [h1, h2]
      · simp only [h1, h2, if_false]; exact cmpL_neg xs ys
theorem slicesCompare_call : callable Tryz.prog f_slices_Compare_Lint64_int64 = true := by kernel_rfl
end Go.Proofs.YtmdeibdplpodpaaGreat
