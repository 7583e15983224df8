/- Division of numbers that are not negative. -/
import Derived.Test.YthogadbnddmkdaazK1
set_option linter.unusedSimpArgs false
set_option linter.unusedVariables false
set_option maxHeartbeats 4000000
set_option maxRecDepth 100000
namespace Go.Proofs.Ythogadbnddmkdaa
theorem tdivN {a b : Nat} : (a : Int).tdiv (b : Int) = ((a / b : Nat) : Int) := by rw [Int.tdiv_eq_ediv_of_nonneg (by omega)]; simp
end Go.Proofs.Ythogadbnddmkdaa
