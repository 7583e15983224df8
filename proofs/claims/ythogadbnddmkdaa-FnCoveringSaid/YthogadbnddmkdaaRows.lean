/-
  No cell of these rows narrows 'for every input' (looked for: loops, veiled, ifaces, maps, wideKeys, modest, calm, conditions, laid).
  DERIVED. THE GIVEN ROWS OF THIS SEAT. 6 by the template 'for every input the law returns true; each argument reads behind the call as it read before'; 0 by the template 'total and deterministic' (their statements: YthogadbnddmkdaaTotals.lean).
  GIVEN WITH THE SEED: the statements are not yours to turn. If you find one false, say at which input.
  Laid BY PROGRAM, IN A SANDBOX (cutbox-rows.mjs): the forced cells as the released guide's own fill.sh prints them over the translation 49a824d820488624… (all of the seat's roots in one cut). By AI agents, Wed Nov 11 2026. No macro, syntax, notation, axiom, sorry.
-/
import Derived.Test.YthogadbnddmkdaaChecked
import GoSem.Claim
import GoSem.ClaimJoined
import GoSem.ClaimMapViews
import Derived.JoinedTies
import Derived.KernelRfl
namespace Go.Proofs.Ythogadbnddmkdaa
/- THE CELL 'sum', in the pinned program and in every row, IS THE sha256 OF THE DUMP (.gsa) THAT YthogadbnddmkdaaProg.lean LOADS. Nothing in Lean hashes anything: it is a label: what it is worth is what the hold of that sum in a sandbox is worth. -/
noncomputable def Try.pinned : Pinned := { name := "ythogadbnddmkdaa", sum := "49a824d820488624d16883032b5212f60975d5fce2f30cff83cd81652d95e298", checked := Try.checked }
namespace Rows
def none {H : Type} : Left H := { results := [], args := [] }

/-- 'laws.FnExactCountLabeled': WHATEVER THE INPUT: true; the input reads as it did. -/
def fnExactCountLabeledSpec : ChangeSpec := { name := "fnExactCountLabeled", fn := fun _ => fun
  | [d1, d2, d3, d4, d5] => { results := [.lit (.bool true)], args := [d1, d2, d3, d4, d5] }
  | _ => none }
def fnExactCountLabeledRow : OpenClaim := { program := "ythogadbnddmkdaa", sum := "49a824d820488624d16883032b5212f60975d5fce2f30cff83cd81652d95e298", func := "loop.example/g00920/laws.FnExactCountLabeled", spec := "fnExactCountLabeled", unfollowed := true, recurses := true, apart := false }
def FnExactCountLabeledSaid : Prop := fnExactCountLabeledRow.holds Try.pinned (OpenSpec.ofChange fnExactCountLabeledSpec)

/-- ITS FALSE NEIGHBOUR: 'it returns false'. Refute it at one input. -/
def fnExactCountLabeledWrong : ChangeSpec := { name := "fnExactCountLabeled", fn := fun _ => fun
  | [d1, d2, d3, d4, d5] => { results := [.lit (.bool false)], args := [d1, d2, d3, d4, d5] }
  | _ => none }
def FnExactCountLabeledWrongFalsely : Prop := fnExactCountLabeledRow.holds Try.pinned (OpenSpec.ofChange fnExactCountLabeledWrong)

/-- 'laws.FnExactCoverPairs': WHATEVER THE INPUT: true; the input reads as it did. -/
def fnExactCoverPairsSpec : ChangeSpec := { name := "fnExactCoverPairs", fn := fun _ => fun
  | [d1, d2] => { results := [.lit (.bool true)], args := [d1, d2] }
  | _ => none }
def fnExactCoverPairsRow : OpenClaim := { program := "ythogadbnddmkdaa", sum := "49a824d820488624d16883032b5212f60975d5fce2f30cff83cd81652d95e298", func := "loop.example/g00920/laws.FnExactCoverPairs", spec := "fnExactCoverPairs", apart := false }
def FnExactCoverPairsSaid : Prop := fnExactCoverPairsRow.holds Try.pinned (OpenSpec.ofChange fnExactCoverPairsSpec)

/-- ITS FALSE NEIGHBOUR: 'it returns false'. Refute it at one input. -/
def fnExactCoverPairsWrong : ChangeSpec := { name := "fnExactCoverPairs", fn := fun _ => fun
  | [d1, d2] => { results := [.lit (.bool false)], args := [d1, d2] }
  | _ => none }
def FnExactCoverPairsWrongFalsely : Prop := fnExactCoverPairsRow.holds Try.pinned (OpenSpec.ofChange fnExactCoverPairsWrong)

/-- 'laws.FnCovering': WHATEVER THE INPUT: true; the input reads as it did. -/
def fnCoveringSpec : ChangeSpec := { name := "fnCovering", fn := fun _ => fun
  | [d1, d2] => { results := [.lit (.bool true)], args := [d1, d2] }
  | _ => none }
def fnCoveringRow : OpenClaim := { program := "ythogadbnddmkdaa", sum := "49a824d820488624d16883032b5212f60975d5fce2f30cff83cd81652d95e298", func := "loop.example/g00920/laws.FnCovering", spec := "fnCovering", unfollowed := true, recurses := true, apart := false }
def FnCoveringSaid : Prop := fnCoveringRow.holds Try.pinned (OpenSpec.ofChange fnCoveringSpec)

/-- ITS FALSE NEIGHBOUR: 'it returns false'. Refute it at one input. -/
def fnCoveringWrong : ChangeSpec := { name := "fnCovering", fn := fun _ => fun
  | [d1, d2] => { results := [.lit (.bool false)], args := [d1, d2] }
  | _ => none }
def FnCoveringWrongFalsely : Prop := fnCoveringRow.holds Try.pinned (OpenSpec.ofChange fnCoveringWrong)

/-- 'laws.FnCritical': WHATEVER THE INPUT: true; the input reads as it did. -/
def fnCriticalSpec : ChangeSpec := { name := "fnCritical", fn := fun _ => fun
  | [d1, d2] => { results := [.lit (.bool true)], args := [d1, d2] }
  | _ => none }
def fnCriticalRow : OpenClaim := { program := "ythogadbnddmkdaa", sum := "49a824d820488624d16883032b5212f60975d5fce2f30cff83cd81652d95e298", func := "loop.example/g00920/laws.FnCritical", spec := "fnCritical", unfollowed := true, recurses := true, apart := false }
def FnCriticalSaid : Prop := fnCriticalRow.holds Try.pinned (OpenSpec.ofChange fnCriticalSpec)

/-- ITS FALSE NEIGHBOUR: 'it returns false'. Refute it at one input. -/
def fnCriticalWrong : ChangeSpec := { name := "fnCritical", fn := fun _ => fun
  | [d1, d2] => { results := [.lit (.bool false)], args := [d1, d2] }
  | _ => none }
def FnCriticalWrongFalsely : Prop := fnCriticalRow.holds Try.pinned (OpenSpec.ofChange fnCriticalWrong)

/-- 'laws.FnPropagate': WHATEVER THE INPUT: true; the input reads as it did. -/
def fnPropagateSpec : ChangeSpec := { name := "fnPropagate", fn := fun _ => fun
  | [d] => { results := [.lit (.bool true)], args := [d] }
  | _ => none }
def fnPropagateRow : OpenClaim := { program := "ythogadbnddmkdaa", sum := "49a824d820488624d16883032b5212f60975d5fce2f30cff83cd81652d95e298", func := "loop.example/g00920/laws.FnPropagate", spec := "fnPropagate", unfollowed := true, recurses := true, apart := false }
def FnPropagateSaid : Prop := fnPropagateRow.holds Try.pinned (OpenSpec.ofChange fnPropagateSpec)

/-- ITS FALSE NEIGHBOUR: 'it returns false'. Refute it at one input. -/
def fnPropagateWrong : ChangeSpec := { name := "fnPropagate", fn := fun _ => fun
  | [d] => { results := [.lit (.bool false)], args := [d] }
  | _ => none }
def FnPropagateWrongFalsely : Prop := fnPropagateRow.holds Try.pinned (OpenSpec.ofChange fnPropagateWrong)

/-- 'laws.FnLambdas': WHATEVER THE INPUT: true; the input reads as it did. -/
def fnLambdasSpec : ChangeSpec := { name := "fnLambdas", fn := fun _ => fun
  | [d] => { results := [.lit (.bool true)], args := [d] }
  | _ => none }
def fnLambdasRow : OpenClaim := { program := "ythogadbnddmkdaa", sum := "49a824d820488624d16883032b5212f60975d5fce2f30cff83cd81652d95e298", func := "loop.example/g00920/laws.FnLambdas", spec := "fnLambdas", unfollowed := true, recurses := true, apart := false }
def FnLambdasSaid : Prop := fnLambdasRow.holds Try.pinned (OpenSpec.ofChange fnLambdasSpec)

/-- ITS FALSE NEIGHBOUR: 'it returns false'. Refute it at one input. -/
def fnLambdasWrong : ChangeSpec := { name := "fnLambdas", fn := fun _ => fun
  | [d] => { results := [.lit (.bool false)], args := [d] }
  | _ => none }
def FnLambdasWrongFalsely : Prop := fnLambdasRow.holds Try.pinned (OpenSpec.ofChange fnLambdasWrong)

/- THE SECOND FORM. 'bulk': how many values and letters a reading holds, each counted each time it is reached (what is shared counts as often as it is met; a slice's spare places count too). A statement '..UptoSaid' is the law's where the arguments, and the package variables that the reading takes, are together of bulk at most 1048576: NARROWER than '..Said'. Prove '..Said' where nothing that the law and all that it calls make is longer than what came in: it says more and counts as full. Else prove '..UptoSaid'. A law counts once. -/
mutual
def uptoBulk {H : Type} : DataW H → Nat
  | .lit (.string bytes) => bytes.length + 1
  | .lit _ => 1
  | .nil => 1
  | .ptr d => uptoBulk d + 1
  | .slice elems spare => uptoBulkAll elems + uptoBulkAll spare + 1
  | .agg parts => uptoBulkAll parts + 1
  | .iface _ d => uptoBulk d + 1
  | .map entries => uptoBulkEntries entries + 1
  | .held _ => 1
def uptoBulkAll {H : Type} : List (DataW H) → Nat
  | [] => 0
  | d :: r => uptoBulk d + uptoBulkAll r
def uptoBulkEntries {H : Type} : List (Lit × DataW H) → Nat
  | [] => 0
  | x :: r => uptoBulkEntry x + uptoBulkEntries r
def uptoBulkEntry {H : Type} : Lit × DataW H → Nat
  | (.string bytes, d) => bytes.length + uptoBulk d + 1
  | (_, d) => uptoBulk d + 1
 end
def uptoSmall : (H : Type) → List (DataW H) → Bool := fun _ ds => decide (uptoBulkAll ds ≤ 1048576)
def OpenSpec.upto (s : _root_.Go.ChangeSpec) : _root_.Go.OpenSpec := { _root_.Go.OpenSpec.ofChange s with cond := some uptoSmall }

/-- 'laws.FnExactCountLabeled', WHERE WHAT IT READS IS OF BULK AT MOST 1048576: true; the input reads as it did. -/
def fnExactCountLabeledUptoRow : OpenClaim := { program := "ythogadbnddmkdaa", sum := "49a824d820488624d16883032b5212f60975d5fce2f30cff83cd81652d95e298", func := "loop.example/g00920/laws.FnExactCountLabeled", spec := "fnExactCountLabeled", unfollowed := true, recurses := true, apart := false, narrowed := true }
def FnExactCountLabeledUptoSaid : Prop := fnExactCountLabeledUptoRow.holds Try.pinned (OpenSpec.upto fnExactCountLabeledSpec)

/-- 'laws.FnExactCoverPairs', WHERE WHAT IT READS IS OF BULK AT MOST 1048576: true; the input reads as it did. -/
def fnExactCoverPairsUptoRow : OpenClaim := { program := "ythogadbnddmkdaa", sum := "49a824d820488624d16883032b5212f60975d5fce2f30cff83cd81652d95e298", func := "loop.example/g00920/laws.FnExactCoverPairs", spec := "fnExactCoverPairs", apart := false, narrowed := true }
def FnExactCoverPairsUptoSaid : Prop := fnExactCoverPairsUptoRow.holds Try.pinned (OpenSpec.upto fnExactCoverPairsSpec)

/-- 'laws.FnCovering', WHERE WHAT IT READS IS OF BULK AT MOST 1048576: true; the input reads as it did. -/
def fnCoveringUptoRow : OpenClaim := { program := "ythogadbnddmkdaa", sum := "49a824d820488624d16883032b5212f60975d5fce2f30cff83cd81652d95e298", func := "loop.example/g00920/laws.FnCovering", spec := "fnCovering", unfollowed := true, recurses := true, apart := false, narrowed := true }
def FnCoveringUptoSaid : Prop := fnCoveringUptoRow.holds Try.pinned (OpenSpec.upto fnCoveringSpec)

/-- 'laws.FnCritical', WHERE WHAT IT READS IS OF BULK AT MOST 1048576: true; the input reads as it did. -/
def fnCriticalUptoRow : OpenClaim := { program := "ythogadbnddmkdaa", sum := "49a824d820488624d16883032b5212f60975d5fce2f30cff83cd81652d95e298", func := "loop.example/g00920/laws.FnCritical", spec := "fnCritical", unfollowed := true, recurses := true, apart := false, narrowed := true }
def FnCriticalUptoSaid : Prop := fnCriticalUptoRow.holds Try.pinned (OpenSpec.upto fnCriticalSpec)

/-- 'laws.FnPropagate', WHERE WHAT IT READS IS OF BULK AT MOST 1048576: true; the input reads as it did. -/
def fnPropagateUptoRow : OpenClaim := { program := "ythogadbnddmkdaa", sum := "49a824d820488624d16883032b5212f60975d5fce2f30cff83cd81652d95e298", func := "loop.example/g00920/laws.FnPropagate", spec := "fnPropagate", unfollowed := true, recurses := true, apart := false, narrowed := true }
def FnPropagateUptoSaid : Prop := fnPropagateUptoRow.holds Try.pinned (OpenSpec.upto fnPropagateSpec)

/-- 'laws.FnLambdas', WHERE WHAT IT READS IS OF BULK AT MOST 1048576: true; the input reads as it did. -/
def fnLambdasUptoRow : OpenClaim := { program := "ythogadbnddmkdaa", sum := "49a824d820488624d16883032b5212f60975d5fce2f30cff83cd81652d95e298", func := "loop.example/g00920/laws.FnLambdas", spec := "fnLambdas", unfollowed := true, recurses := true, apart := false, narrowed := true }
def FnLambdasUptoSaid : Prop := fnLambdasUptoRow.holds Try.pinned (OpenSpec.upto fnLambdasSpec)

end Rows
end Go.Proofs.Ythogadbnddmkdaa
