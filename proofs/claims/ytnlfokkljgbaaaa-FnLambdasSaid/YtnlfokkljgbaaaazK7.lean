/- Exact covers: what is covered; IsCover; OptionsWith. -/
import Derived.Test.YtnlfokkljgbaaaaProg
import Derived.KernelRfl
import Derived.Test.YtnlfokkljgbaaaazK2
set_option linter.unusedSimpArgs false
set_option linter.unusedVariables false
set_option maxHeartbeats 4000000
set_option maxRecDepth 100000
namespace Go.Proofs.Ytnlfokkljgbaaaa
open Go.Av
def itemsOf (xss : List (List Int)) (cols : List Int) : List Int := cols.flatMap fun k => xss.getD k.toNat []
theorem itemsOf_snoc (xss : List (List Int)) (pre : List Int) (k : Int) : itemsOf xss (pre ++ [k]) = itemsOf xss pre ++ xss.getD k.toNat [] := by simp [itemsOf]
def marks (n : Nat) (l : List Int) : List Bool := (List.range n).map fun (i : Nat) => l.contains (i : Int)
theorem marks_length (n : Nat) (l : List Int) : (marks n l).length = n := by simp [marks]
end Go.Proofs.Ytnlfokkljgbaaaa
