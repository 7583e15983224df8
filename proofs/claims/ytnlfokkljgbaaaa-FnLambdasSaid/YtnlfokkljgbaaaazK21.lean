/- Pairs of points, counted by the program and by the reference. -/
import Derived.Test.YtnlfokkljgbaaaazK20
import Derived.Test.YtnlfokkljgbaaaazK18
set_option linter.unusedSimpArgs false
set_option linter.unusedVariables false
set_option maxHeartbeats 4000000
set_option maxRecDepth 100000
namespace Go.Proofs.Ytnlfokkljgbaaaa
open Go.Av
section
variable {v w k x y n : Nat} {xss : List (List Int)} {row : List Int}
end
abbrev tyD : Nat := 26
theorem designB_facts {v : Int} {xss : List (List Int)} (h : designB v xss = true) : 1 ≤ v ∧ v ≤ 32 ∧ xss.length ≤ 128 ∧ ∀ s ∈ xss, asc 0 (v - 1) s = true := by
  simp only [designB, Bool.and_eq_true, decide_eq_true_eq, List.all_eq_true] at h
  refine ⟨h.1.1.1.1, h.1.1.1.2, h.1.2, fun s hs => ?_⟩
  have := h.1.1.2 s hs
  simp only [blkB, Bool.and_eq_true] at this
  exact this.2
end Go.Proofs.Ytnlfokkljgbaaaa
