/-
  No cell of these rows narrows 'for every input' (looked for: loops, veiled, ifaces, maps, wideKeys, modest, calm, conditions, laid).
  DERIVED. THE GIVEN ROWS OF THIS SEAT. 12 by the template 'for every input the law returns true; each argument reads behind the call as it read before'; 0 by the template 'total and deterministic' (their statements: YtkpohapopokahaaTotals.lean).
  GIVEN WITH THE SEED: the statements are not yours to turn. If you find one false, say at which input.
  Laid BY PROGRAM, IN A SANDBOX (cutbox-rows.mjs): the forced cells as the released guide's own fill.sh prints them over the translation 1ee8b2e5e07dd5a5… (all of the seat's roots in one cut). By AI agents, Wed Nov 11 2026. No macro, syntax, notation, axiom, sorry.
-/
import Derived.Test.YtkpohapopokahaaChecked
import GoSem.Claim
import GoSem.ClaimJoined
import GoSem.ClaimMapViews
import Derived.JoinedTies
import Derived.KernelRfl
namespace Go.Proofs.Ytkpohapopokahaa
/- THE CELL 'sum', in the pinned program and in every row, IS THE sha256 OF THE DUMP (.gsa) THAT YtkpohapopokahaaProg.lean LOADS. Nothing in Lean hashes anything: it is a label: what it is worth is what the hold of that sum in a sandbox is worth. -/
noncomputable def Try.pinned : Pinned := { name := "ytkpohapopokahaa", sum := "1ee8b2e5e07dd5a5351a804ce8ae549824ff5d9988762bfee942589e29a60835", checked := Try.checked }
namespace Rows
def none {H : Type} : Left H := { results := [], args := [] }

/-- 'laws.FnExactOptionsWith': WHATEVER THE INPUT: true; the input reads as it did. -/
def fnExactOptionsWithSpec : ChangeSpec := { name := "fnExactOptionsWith", fn := fun _ => fun
  | [d1, d2] => { results := [.lit (.bool true)], args := [d1, d2] }
  | _ => none }
def fnExactOptionsWithRow : OpenClaim := { program := "ytkpohapopokahaa", sum := "1ee8b2e5e07dd5a5351a804ce8ae549824ff5d9988762bfee942589e29a60835", func := "loop.example/g00920/laws.FnExactOptionsWith", spec := "fnExactOptionsWith", unfollowed := true, recurses := true, apart := false }
def FnExactOptionsWithSaid : Prop := fnExactOptionsWithRow.holds Try.pinned (OpenSpec.ofChange fnExactOptionsWithSpec)

/-- ITS FALSE NEIGHBOUR: 'it returns false'. Refute it at one input. -/
def fnExactOptionsWithWrong : ChangeSpec := { name := "fnExactOptionsWith", fn := fun _ => fun
  | [d1, d2] => { results := [.lit (.bool false)], args := [d1, d2] }
  | _ => none }
def FnExactOptionsWithWrongFalsely : Prop := fnExactOptionsWithRow.holds Try.pinned (OpenSpec.ofChange fnExactOptionsWithWrong)

/-- 'laws.FnExactCountLabeled': WHATEVER THE INPUT: true; the input reads as it did. -/
def fnExactCountLabeledSpec : ChangeSpec := { name := "fnExactCountLabeled", fn := fun _ => fun
  | [d1, d2, d3, d4, d5] => { results := [.lit (.bool true)], args := [d1, d2, d3, d4, d5] }
  | _ => none }
def fnExactCountLabeledRow : OpenClaim := { program := "ytkpohapopokahaa", sum := "1ee8b2e5e07dd5a5351a804ce8ae549824ff5d9988762bfee942589e29a60835", func := "loop.example/g00920/laws.FnExactCountLabeled", spec := "fnExactCountLabeled", unfollowed := true, recurses := true, apart := false }
def FnExactCountLabeledSaid : Prop := fnExactCountLabeledRow.holds Try.pinned (OpenSpec.ofChange fnExactCountLabeledSpec)

/-- ITS FALSE NEIGHBOUR: 'it returns false'. Refute it at one input. -/
def fnExactCountLabeledWrong : ChangeSpec := { name := "fnExactCountLabeled", fn := fun _ => fun
  | [d1, d2, d3, d4, d5] => { results := [.lit (.bool false)], args := [d1, d2, d3, d4, d5] }
  | _ => none }
def FnExactCountLabeledWrongFalsely : Prop := fnExactCountLabeledRow.holds Try.pinned (OpenSpec.ofChange fnExactCountLabeledWrong)

/-- 'laws.FnExactCountCompletions': WHATEVER THE INPUT: true; the input reads as it did. -/
def fnExactCountCompletionsSpec : ChangeSpec := { name := "fnExactCountCompletions", fn := fun _ => fun
  | [d1, d2, d3] => { results := [.lit (.bool true)], args := [d1, d2, d3] }
  | _ => none }
def fnExactCountCompletionsRow : OpenClaim := { program := "ytkpohapopokahaa", sum := "1ee8b2e5e07dd5a5351a804ce8ae549824ff5d9988762bfee942589e29a60835", func := "loop.example/g00920/laws.FnExactCountCompletions", spec := "fnExactCountCompletions", unfollowed := true, recurses := true, apart := false }
def FnExactCountCompletionsSaid : Prop := fnExactCountCompletionsRow.holds Try.pinned (OpenSpec.ofChange fnExactCountCompletionsSpec)

/-- ITS FALSE NEIGHBOUR: 'it returns false'. Refute it at one input. -/
def fnExactCountCompletionsWrong : ChangeSpec := { name := "fnExactCountCompletions", fn := fun _ => fun
  | [d1, d2, d3] => { results := [.lit (.bool false)], args := [d1, d2, d3] }
  | _ => none }
def FnExactCountCompletionsWrongFalsely : Prop := fnExactCountCompletionsRow.holds Try.pinned (OpenSpec.ofChange fnExactCountCompletionsWrong)

/-- 'laws.FnExactIsPacking': WHATEVER THE INPUT: true; the input reads as it did. -/
def fnExactIsPackingSpec : ChangeSpec := { name := "fnExactIsPacking", fn := fun _ => fun
  | [d1, d2, d3] => { results := [.lit (.bool true)], args := [d1, d2, d3] }
  | _ => none }
def fnExactIsPackingRow : OpenClaim := { program := "ytkpohapopokahaa", sum := "1ee8b2e5e07dd5a5351a804ce8ae549824ff5d9988762bfee942589e29a60835", func := "loop.example/g00920/laws.FnExactIsPacking", spec := "fnExactIsPacking", unfollowed := true, recurses := true, apart := false }
def FnExactIsPackingSaid : Prop := fnExactIsPackingRow.holds Try.pinned (OpenSpec.ofChange fnExactIsPackingSpec)

/-- ITS FALSE NEIGHBOUR: 'it returns false'. Refute it at one input. -/
def fnExactIsPackingWrong : ChangeSpec := { name := "fnExactIsPacking", fn := fun _ => fun
  | [d1, d2, d3] => { results := [.lit (.bool false)], args := [d1, d2, d3] }
  | _ => none }
def FnExactIsPackingWrongFalsely : Prop := fnExactIsPackingRow.holds Try.pinned (OpenSpec.ofChange fnExactIsPackingWrong)

/-- 'laws.FnExactRestCover': WHATEVER THE INPUT: true; the input reads as it did. -/
def fnExactRestCoverSpec : ChangeSpec := { name := "fnExactRestCover", fn := fun _ => fun
  | [d1, d2] => { results := [.lit (.bool true)], args := [d1, d2] }
  | _ => none }
def fnExactRestCoverRow : OpenClaim := { program := "ytkpohapopokahaa", sum := "1ee8b2e5e07dd5a5351a804ce8ae549824ff5d9988762bfee942589e29a60835", func := "loop.example/g00920/laws.FnExactRestCover", spec := "fnExactRestCover", unfollowed := true, recurses := true, apart := false }
def FnExactRestCoverSaid : Prop := fnExactRestCoverRow.holds Try.pinned (OpenSpec.ofChange fnExactRestCoverSpec)

/-- ITS FALSE NEIGHBOUR: 'it returns false'. Refute it at one input. -/
def fnExactRestCoverWrong : ChangeSpec := { name := "fnExactRestCover", fn := fun _ => fun
  | [d1, d2] => { results := [.lit (.bool false)], args := [d1, d2] }
  | _ => none }
def FnExactRestCoverWrongFalsely : Prop := fnExactRestCoverRow.holds Try.pinned (OpenSpec.ofChange fnExactRestCoverWrong)

/-- 'laws.FnExactCompletePartial': WHATEVER THE INPUT: true; the input reads as it did. -/
def fnExactCompletePartialSpec : ChangeSpec := { name := "fnExactCompletePartial", fn := fun _ => fun
  | [d1, d2] => { results := [.lit (.bool true)], args := [d1, d2] }
  | _ => none }
def fnExactCompletePartialRow : OpenClaim := { program := "ytkpohapopokahaa", sum := "1ee8b2e5e07dd5a5351a804ce8ae549824ff5d9988762bfee942589e29a60835", func := "loop.example/g00920/laws.FnExactCompletePartial", spec := "fnExactCompletePartial", unfollowed := true, recurses := true, apart := false }
def FnExactCompletePartialSaid : Prop := fnExactCompletePartialRow.holds Try.pinned (OpenSpec.ofChange fnExactCompletePartialSpec)

/-- ITS FALSE NEIGHBOUR: 'it returns false'. Refute it at one input. -/
def fnExactCompletePartialWrong : ChangeSpec := { name := "fnExactCompletePartial", fn := fun _ => fun
  | [d1, d2] => { results := [.lit (.bool false)], args := [d1, d2] }
  | _ => none }
def FnExactCompletePartialWrongFalsely : Prop := fnExactCompletePartialRow.holds Try.pinned (OpenSpec.ofChange fnExactCompletePartialWrong)

/-- 'laws.FnExactIsCritical': WHATEVER THE INPUT: true; the input reads as it did. -/
def fnExactIsCriticalSpec : ChangeSpec := { name := "fnExactIsCritical", fn := fun _ => fun
  | [d1, d2] => { results := [.lit (.bool true)], args := [d1, d2] }
  | _ => none }
def fnExactIsCriticalRow : OpenClaim := { program := "ytkpohapopokahaa", sum := "1ee8b2e5e07dd5a5351a804ce8ae549824ff5d9988762bfee942589e29a60835", func := "loop.example/g00920/laws.FnExactIsCritical", spec := "fnExactIsCritical", unfollowed := true, recurses := true, apart := false }
def FnExactIsCriticalSaid : Prop := fnExactIsCriticalRow.holds Try.pinned (OpenSpec.ofChange fnExactIsCriticalSpec)

/-- ITS FALSE NEIGHBOUR: 'it returns false'. Refute it at one input. -/
def fnExactIsCriticalWrong : ChangeSpec := { name := "fnExactIsCritical", fn := fun _ => fun
  | [d1, d2] => { results := [.lit (.bool false)], args := [d1, d2] }
  | _ => none }
def FnExactIsCriticalWrongFalsely : Prop := fnExactIsCriticalRow.holds Try.pinned (OpenSpec.ofChange fnExactIsCriticalWrong)

/-- 'laws.FnExactTIndex': WHATEVER THE INPUT: true; the input reads as it did. -/
def fnExactTIndexSpec : ChangeSpec := { name := "fnExactTIndex", fn := fun _ => fun
  | [d1, d2] => { results := [.lit (.bool true)], args := [d1, d2] }
  | _ => none }
def fnExactTIndexRow : OpenClaim := { program := "ytkpohapopokahaa", sum := "1ee8b2e5e07dd5a5351a804ce8ae549824ff5d9988762bfee942589e29a60835", func := "loop.example/g00920/laws.FnExactTIndex", spec := "fnExactTIndex", unfollowed := true, recurses := true, apart := false }
def FnExactTIndexSaid : Prop := fnExactTIndexRow.holds Try.pinned (OpenSpec.ofChange fnExactTIndexSpec)

/-- ITS FALSE NEIGHBOUR: 'it returns false'. Refute it at one input. -/
def fnExactTIndexWrong : ChangeSpec := { name := "fnExactTIndex", fn := fun _ => fun
  | [d1, d2] => { results := [.lit (.bool false)], args := [d1, d2] }
  | _ => none }
def FnExactTIndexWrongFalsely : Prop := fnExactTIndexRow.holds Try.pinned (OpenSpec.ofChange fnExactTIndexWrong)

/-- 'laws.FnExactLeaveOf': WHATEVER THE INPUT: true; the input reads as it did. -/
def fnExactLeaveOfSpec : ChangeSpec := { name := "fnExactLeaveOf", fn := fun _ => fun
  | [d1, d2, d3] => { results := [.lit (.bool true)], args := [d1, d2, d3] }
  | _ => none }
def fnExactLeaveOfRow : OpenClaim := { program := "ytkpohapopokahaa", sum := "1ee8b2e5e07dd5a5351a804ce8ae549824ff5d9988762bfee942589e29a60835", func := "loop.example/g00920/laws.FnExactLeaveOf", spec := "fnExactLeaveOf", unfollowed := true, recurses := true, apart := false }
def FnExactLeaveOfSaid : Prop := fnExactLeaveOfRow.holds Try.pinned (OpenSpec.ofChange fnExactLeaveOfSpec)

/-- ITS FALSE NEIGHBOUR: 'it returns false'. Refute it at one input. -/
def fnExactLeaveOfWrong : ChangeSpec := { name := "fnExactLeaveOf", fn := fun _ => fun
  | [d1, d2, d3] => { results := [.lit (.bool false)], args := [d1, d2, d3] }
  | _ => none }
def FnExactLeaveOfWrongFalsely : Prop := fnExactLeaveOfRow.holds Try.pinned (OpenSpec.ofChange fnExactLeaveOfWrong)

/-- 'laws.FnExactExtensionsOf': WHATEVER THE INPUT: true; the input reads as it did. -/
def fnExactExtensionsOfSpec : ChangeSpec := { name := "fnExactExtensionsOf", fn := fun _ => fun
  | [d1, d2, d3, d4] => { results := [.lit (.bool true)], args := [d1, d2, d3, d4] }
  | _ => none }
def fnExactExtensionsOfRow : OpenClaim := { program := "ytkpohapopokahaa", sum := "1ee8b2e5e07dd5a5351a804ce8ae549824ff5d9988762bfee942589e29a60835", func := "loop.example/g00920/laws.FnExactExtensionsOf", spec := "fnExactExtensionsOf", unfollowed := true, recurses := true, apart := false }
def FnExactExtensionsOfSaid : Prop := fnExactExtensionsOfRow.holds Try.pinned (OpenSpec.ofChange fnExactExtensionsOfSpec)

/-- ITS FALSE NEIGHBOUR: 'it returns false'. Refute it at one input. -/
def fnExactExtensionsOfWrong : ChangeSpec := { name := "fnExactExtensionsOf", fn := fun _ => fun
  | [d1, d2, d3, d4] => { results := [.lit (.bool false)], args := [d1, d2, d3, d4] }
  | _ => none }
def FnExactExtensionsOfWrongFalsely : Prop := fnExactExtensionsOfRow.holds Try.pinned (OpenSpec.ofChange fnExactExtensionsOfWrong)

/-- 'laws.FnExactLambdasOf': WHATEVER THE INPUT: true; the input reads as it did. -/
def fnExactLambdasOfSpec : ChangeSpec := { name := "fnExactLambdasOf", fn := fun _ => fun
  | [d1, d2] => { results := [.lit (.bool true)], args := [d1, d2] }
  | _ => none }
def fnExactLambdasOfRow : OpenClaim := { program := "ytkpohapopokahaa", sum := "1ee8b2e5e07dd5a5351a804ce8ae549824ff5d9988762bfee942589e29a60835", func := "loop.example/g00920/laws.FnExactLambdasOf", spec := "fnExactLambdasOf", unfollowed := true, recurses := true, apart := false }
def FnExactLambdasOfSaid : Prop := fnExactLambdasOfRow.holds Try.pinned (OpenSpec.ofChange fnExactLambdasOfSpec)

/-- ITS FALSE NEIGHBOUR: 'it returns false'. Refute it at one input. -/
def fnExactLambdasOfWrong : ChangeSpec := { name := "fnExactLambdasOf", fn := fun _ => fun
  | [d1, d2] => { results := [.lit (.bool false)], args := [d1, d2] }
  | _ => none }
def FnExactLambdasOfWrongFalsely : Prop := fnExactLambdasOfRow.holds Try.pinned (OpenSpec.ofChange fnExactLambdasOfWrong)

/-- 'laws.FnExactNodesOf': WHATEVER THE INPUT: true; the input reads as it did. -/
def fnExactNodesOfSpec : ChangeSpec := { name := "fnExactNodesOf", fn := fun _ => fun
  | [d1, d2] => { results := [.lit (.bool true)], args := [d1, d2] }
  | _ => none }
def fnExactNodesOfRow : OpenClaim := { program := "ytkpohapopokahaa", sum := "1ee8b2e5e07dd5a5351a804ce8ae549824ff5d9988762bfee942589e29a60835", func := "loop.example/g00920/laws.FnExactNodesOf", spec := "fnExactNodesOf", unfollowed := true, recurses := true, apart := false }
def FnExactNodesOfSaid : Prop := fnExactNodesOfRow.holds Try.pinned (OpenSpec.ofChange fnExactNodesOfSpec)

/-- ITS FALSE NEIGHBOUR: 'it returns false'. Refute it at one input. -/
def fnExactNodesOfWrong : ChangeSpec := { name := "fnExactNodesOf", fn := fun _ => fun
  | [d1, d2] => { results := [.lit (.bool false)], args := [d1, d2] }
  | _ => none }
def FnExactNodesOfWrongFalsely : Prop := fnExactNodesOfRow.holds Try.pinned (OpenSpec.ofChange fnExactNodesOfWrong)

/- THE SECOND FORM. 'bulk': how many values and letters a reading holds, each counted each time it is reached (what is shared counts as often as it is met; a slice's spare places count too). A statement '..UptoSaid' is the law's where the arguments, and the package variables that the reading takes, are together of bulk at most 1048576: NARROWER than '..Said'. Prove '..Said' where nothing that the law and all that it calls make is longer than what came in: it says more and counts as full. Else prove '..UptoSaid'. A law counts once. -/
mutual
def uptoBulk {H : Type} : DataW H → Nat
  | .lit (.string bytes) => bytes.length + 1
  | .lit _ => 1
  | .nil => 1
  | .ptr d => uptoBulk d + 1
  | .slice elems spare => uptoBulkAll elems + uptoBulkAll spare + 1
  | .agg parts => uptoBulkAll parts + 1
  | .iface _ d => uptoBulk d + 1
  | .map entries => uptoBulkEntries entries + 1
  | .held _ => 1
def uptoBulkAll {H : Type} : List (DataW H) → Nat
  | [] => 0
  | d :: r => uptoBulk d + uptoBulkAll r
def uptoBulkEntries {H : Type} : List (Lit × DataW H) → Nat
  | [] => 0
  | x :: r => uptoBulkEntry x + uptoBulkEntries r
def uptoBulkEntry {H : Type} : Lit × DataW H → Nat
  | (.string bytes, d) => bytes.length + uptoBulk d + 1
  | (_, d) => uptoBulk d + 1
 end
def uptoSmall : (H : Type) → List (DataW H) → Bool := fun _ ds => decide (uptoBulkAll ds ≤ 1048576)
def OpenSpec.upto (s : _root_.Go.ChangeSpec) : _root_.Go.OpenSpec := { _root_.Go.OpenSpec.ofChange s with cond := some uptoSmall }

/-- 'laws.FnExactOptionsWith', WHERE WHAT IT READS IS OF BULK AT MOST 1048576: true; the input reads as it did. -/
def fnExactOptionsWithUptoRow : OpenClaim := { program := "ytkpohapopokahaa", sum := "1ee8b2e5e07dd5a5351a804ce8ae549824ff5d9988762bfee942589e29a60835", func := "loop.example/g00920/laws.FnExactOptionsWith", spec := "fnExactOptionsWith", unfollowed := true, recurses := true, apart := false, narrowed := true }
def FnExactOptionsWithUptoSaid : Prop := fnExactOptionsWithUptoRow.holds Try.pinned (OpenSpec.upto fnExactOptionsWithSpec)

/-- 'laws.FnExactCountLabeled', WHERE WHAT IT READS IS OF BULK AT MOST 1048576: true; the input reads as it did. -/
def fnExactCountLabeledUptoRow : OpenClaim := { program := "ytkpohapopokahaa", sum := "1ee8b2e5e07dd5a5351a804ce8ae549824ff5d9988762bfee942589e29a60835", func := "loop.example/g00920/laws.FnExactCountLabeled", spec := "fnExactCountLabeled", unfollowed := true, recurses := true, apart := false, narrowed := true }
def FnExactCountLabeledUptoSaid : Prop := fnExactCountLabeledUptoRow.holds Try.pinned (OpenSpec.upto fnExactCountLabeledSpec)

/-- 'laws.FnExactCountCompletions', WHERE WHAT IT READS IS OF BULK AT MOST 1048576: true; the input reads as it did. -/
def fnExactCountCompletionsUptoRow : OpenClaim := { program := "ytkpohapopokahaa", sum := "1ee8b2e5e07dd5a5351a804ce8ae549824ff5d9988762bfee942589e29a60835", func := "loop.example/g00920/laws.FnExactCountCompletions", spec := "fnExactCountCompletions", unfollowed := true, recurses := true, apart := false, narrowed := true }
def FnExactCountCompletionsUptoSaid : Prop := fnExactCountCompletionsUptoRow.holds Try.pinned (OpenSpec.upto fnExactCountCompletionsSpec)

/-- 'laws.FnExactIsPacking', WHERE WHAT IT READS IS OF BULK AT MOST 1048576: true; the input reads as it did. -/
def fnExactIsPackingUptoRow : OpenClaim := { program := "ytkpohapopokahaa", sum := "1ee8b2e5e07dd5a5351a804ce8ae549824ff5d9988762bfee942589e29a60835", func := "loop.example/g00920/laws.FnExactIsPacking", spec := "fnExactIsPacking", unfollowed := true, recurses := true, apart := false, narrowed := true }
def FnExactIsPackingUptoSaid : Prop := fnExactIsPackingUptoRow.holds Try.pinned (OpenSpec.upto fnExactIsPackingSpec)

/-- 'laws.FnExactRestCover', WHERE WHAT IT READS IS OF BULK AT MOST 1048576: true; the input reads as it did. -/
def fnExactRestCoverUptoRow : OpenClaim := { program := "ytkpohapopokahaa", sum := "1ee8b2e5e07dd5a5351a804ce8ae549824ff5d9988762bfee942589e29a60835", func := "loop.example/g00920/laws.FnExactRestCover", spec := "fnExactRestCover", unfollowed := true, recurses := true, apart := false, narrowed := true }
def FnExactRestCoverUptoSaid : Prop := fnExactRestCoverUptoRow.holds Try.pinned (OpenSpec.upto fnExactRestCoverSpec)

/-- 'laws.FnExactCompletePartial', WHERE WHAT IT READS IS OF BULK AT MOST 1048576: true; the input reads as it did. -/
def fnExactCompletePartialUptoRow : OpenClaim := { program := "ytkpohapopokahaa", sum := "1ee8b2e5e07dd5a5351a804ce8ae549824ff5d9988762bfee942589e29a60835", func := "loop.example/g00920/laws.FnExactCompletePartial", spec := "fnExactCompletePartial", unfollowed := true, recurses := true, apart := false, narrowed := true }
def FnExactCompletePartialUptoSaid : Prop := fnExactCompletePartialUptoRow.holds Try.pinned (OpenSpec.upto fnExactCompletePartialSpec)

/-- 'laws.FnExactIsCritical', WHERE WHAT IT READS IS OF BULK AT MOST 1048576: true; the input reads as it did. -/
def fnExactIsCriticalUptoRow : OpenClaim := { program := "ytkpohapopokahaa", sum := "1ee8b2e5e07dd5a5351a804ce8ae549824ff5d9988762bfee942589e29a60835", func := "loop.example/g00920/laws.FnExactIsCritical", spec := "fnExactIsCritical", unfollowed := true, recurses := true, apart := false, narrowed := true }
def FnExactIsCriticalUptoSaid : Prop := fnExactIsCriticalUptoRow.holds Try.pinned (OpenSpec.upto fnExactIsCriticalSpec)

/-- 'laws.FnExactTIndex', WHERE WHAT IT READS IS OF BULK AT MOST 1048576: true; the input reads as it did. -/
def fnExactTIndexUptoRow : OpenClaim := { program := "ytkpohapopokahaa", sum := "1ee8b2e5e07dd5a5351a804ce8ae549824ff5d9988762bfee942589e29a60835", func := "loop.example/g00920/laws.FnExactTIndex", spec := "fnExactTIndex", unfollowed := true, recurses := true, apart := false, narrowed := true }
def FnExactTIndexUptoSaid : Prop := fnExactTIndexUptoRow.holds Try.pinned (OpenSpec.upto fnExactTIndexSpec)

/-- 'laws.FnExactLeaveOf', WHERE WHAT IT READS IS OF BULK AT MOST 1048576: true; the input reads as it did. -/
def fnExactLeaveOfUptoRow : OpenClaim := { program := "ytkpohapopokahaa", sum := "1ee8b2e5e07dd5a5351a804ce8ae549824ff5d9988762bfee942589e29a60835", func := "loop.example/g00920/laws.FnExactLeaveOf", spec := "fnExactLeaveOf", unfollowed := true, recurses := true, apart := false, narrowed := true }
def FnExactLeaveOfUptoSaid : Prop := fnExactLeaveOfUptoRow.holds Try.pinned (OpenSpec.upto fnExactLeaveOfSpec)

/-- 'laws.FnExactExtensionsOf', WHERE WHAT IT READS IS OF BULK AT MOST 1048576: true; the input reads as it did. -/
def fnExactExtensionsOfUptoRow : OpenClaim := { program := "ytkpohapopokahaa", sum := "1ee8b2e5e07dd5a5351a804ce8ae549824ff5d9988762bfee942589e29a60835", func := "loop.example/g00920/laws.FnExactExtensionsOf", spec := "fnExactExtensionsOf", unfollowed := true, recurses := true, apart := false, narrowed := true }
def FnExactExtensionsOfUptoSaid : Prop := fnExactExtensionsOfUptoRow.holds Try.pinned (OpenSpec.upto fnExactExtensionsOfSpec)

/-- 'laws.FnExactLambdasOf', WHERE WHAT IT READS IS OF BULK AT MOST 1048576: true; the input reads as it did. -/
def fnExactLambdasOfUptoRow : OpenClaim := { program := "ytkpohapopokahaa", sum := "1ee8b2e5e07dd5a5351a804ce8ae549824ff5d9988762bfee942589e29a60835", func := "loop.example/g00920/laws.FnExactLambdasOf", spec := "fnExactLambdasOf", unfollowed := true, recurses := true, apart := false, narrowed := true }
def FnExactLambdasOfUptoSaid : Prop := fnExactLambdasOfUptoRow.holds Try.pinned (OpenSpec.upto fnExactLambdasOfSpec)

/-- 'laws.FnExactNodesOf', WHERE WHAT IT READS IS OF BULK AT MOST 1048576: true; the input reads as it did. -/
def fnExactNodesOfUptoRow : OpenClaim := { program := "ytkpohapopokahaa", sum := "1ee8b2e5e07dd5a5351a804ce8ae549824ff5d9988762bfee942589e29a60835", func := "loop.example/g00920/laws.FnExactNodesOf", spec := "fnExactNodesOf", unfollowed := true, recurses := true, apart := false, narrowed := true }
def FnExactNodesOfUptoSaid : Prop := fnExactNodesOfUptoRow.holds Try.pinned (OpenSpec.upto fnExactNodesOfSpec)

end Rows
end Go.Proofs.Ytkpohapopokahaa
