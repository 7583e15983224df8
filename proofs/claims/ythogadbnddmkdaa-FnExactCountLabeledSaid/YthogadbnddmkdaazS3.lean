/- Sorted lists: one order, one sorted list. -/
import Derived.Test.YthogadbnddmkdaazU1
import Derived.Test.YthogadbnddmkdaazL7
import Derived.Test.YthogadbnddmkdaazK1
import Derived.Test.YthogadbnddmkdaazK7
import Derived.Test.YthogadbnddmkdaazK3
import Derived.Test.YthogadbnddmkdaazAvA
import Derived.Test.YthogadbnddmkdaazAvC
import Derived.Test.YthogadbnddmkdaazL3
set_option linter.unusedSimpArgs false
set_option linter.unusedVariables false
set_option maxHeartbeats 4000000
set_option maxRecDepth 100000
namespace Go.Sort
end Go.Sort
namespace Go.Proofs.Ythogadbnddmkdaa
open Go.Av Go.Sort
section
variable {A : Type} {cf : A → A → Int}
def Asc (cf : A → A → Int) (l : List A) : Prop := l.Pairwise fun a b => cf a b < 0
end
theorem cmpL_eq0 : ∀ (xs ys : List Int), cmpL xs ys = 0 ↔ xs = ys
  | [], [] => by simp [cmpL]
  | [], _ :: _ => by simp [cmpL]
  | _ :: _, [] => by simp [cmpL]
  | x :: a, y :: b => by
    unfold cmpL
    split
    · rename_i h; simp; intro h2; omega
    · split
      · rename_i h; simp; intro h2; omega
      · have : x = y := by omega
        subst this
        rw [cmpL_eq0 a b]; simp
end Go.Proofs.Ythogadbnddmkdaa
