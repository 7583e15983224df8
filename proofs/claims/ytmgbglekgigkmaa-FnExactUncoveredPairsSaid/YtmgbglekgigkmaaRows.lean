/-
  No cell of these rows narrows 'for every input' (looked for: loops, veiled, ifaces, maps, wideKeys, modest, calm, conditions, laid).
  DERIVED. THE GIVEN ROWS OF THIS SEAT. 12 by the template 'for every input the law returns true; each argument reads behind the call as it read before'; 0 by the template 'total and deterministic' (their statements: YtmgbglekgigkmaaTotals.lean).
  GIVEN WITH THE SEED: the statements are not yours to turn. If you find one false, say at which input.
  Laid BY PROGRAM, IN A SANDBOX (cutbox-rows.mjs): the forced cells as the released guide's own fill.sh prints them over the translation 499a76ea21f4b77f… (all of the seat's roots in one cut). By AI agents, Wed Nov 11 2026. No macro, syntax, notation, axiom, sorry.
-/
import Derived.Test.YtmgbglekgigkmaaChecked
import GoSem.Claim
import GoSem.ClaimJoined
import GoSem.ClaimMapViews
import Derived.JoinedTies
import Derived.KernelRfl
namespace Go.Proofs.Ytmgbglekgigkmaa
/- THE CELL 'sum', in the pinned program and in every row, IS THE sha256 OF THE DUMP (.gsa) THAT YtmgbglekgigkmaaProg.lean LOADS. Nothing in Lean hashes anything: it is a label: what it is worth is what the hold of that sum in a sandbox is worth. -/
noncomputable def Try.pinned : Pinned := { name := "ytmgbglekgigkmaa", sum := "499a76ea21f4b77ff061ee3276a5770690b63bbc30045f6baee5fb9fb3dbbdae", checked := Try.checked }
namespace Rows
def none {H : Type} : Left H := { results := [], args := [] }

/-- 'laws.FnExactSquareCover': WHATEVER THE INPUT: true; the input reads as it did. -/
def fnExactSquareCoverSpec : ChangeSpec := { name := "fnExactSquareCover", fn := fun _ => fun
  | [d] => { results := [.lit (.bool true)], args := [d] }
  | _ => none }
def fnExactSquareCoverRow : OpenClaim := { program := "ytmgbglekgigkmaa", sum := "499a76ea21f4b77ff061ee3276a5770690b63bbc30045f6baee5fb9fb3dbbdae", func := "loop.example/g00920/laws.FnExactSquareCover", spec := "fnExactSquareCover", plainKeys := false, apart := false }
def FnExactSquareCoverSaid : Prop := fnExactSquareCoverRow.holds Try.pinned (OpenSpec.ofChange fnExactSquareCoverSpec)

/-- ITS FALSE NEIGHBOUR: 'it returns false'. Refute it at one input. -/
def fnExactSquareCoverWrong : ChangeSpec := { name := "fnExactSquareCover", fn := fun _ => fun
  | [d] => { results := [.lit (.bool false)], args := [d] }
  | _ => none }
def FnExactSquareCoverWrongFalsely : Prop := fnExactSquareCoverRow.holds Try.pinned (OpenSpec.ofChange fnExactSquareCoverWrong)

/-- 'laws.FnExactSameCover': WHATEVER THE INPUT: true; the input reads as it did. -/
def fnExactSameCoverSpec : ChangeSpec := { name := "fnExactSameCover", fn := fun _ => fun
  | [d1, d2] => { results := [.lit (.bool true)], args := [d1, d2] }
  | _ => none }
def fnExactSameCoverRow : OpenClaim := { program := "ytmgbglekgigkmaa", sum := "499a76ea21f4b77ff061ee3276a5770690b63bbc30045f6baee5fb9fb3dbbdae", func := "loop.example/g00920/laws.FnExactSameCover", spec := "fnExactSameCover", unfollowed := true, recurses := true, plainKeys := false, apart := false }
def FnExactSameCoverSaid : Prop := fnExactSameCoverRow.holds Try.pinned (OpenSpec.ofChange fnExactSameCoverSpec)

/-- ITS FALSE NEIGHBOUR: 'it returns false'. Refute it at one input. -/
def fnExactSameCoverWrong : ChangeSpec := { name := "fnExactSameCover", fn := fun _ => fun
  | [d1, d2] => { results := [.lit (.bool false)], args := [d1, d2] }
  | _ => none }
def FnExactSameCoverWrongFalsely : Prop := fnExactSameCoverRow.holds Try.pinned (OpenSpec.ofChange fnExactSameCoverWrong)

/-- 'laws.FnExactValidCover': WHATEVER THE INPUT: true; the input reads as it did. -/
def fnExactValidCoverSpec : ChangeSpec := { name := "fnExactValidCover", fn := fun _ => fun
  | [d] => { results := [.lit (.bool true)], args := [d] }
  | _ => none }
def fnExactValidCoverRow : OpenClaim := { program := "ytmgbglekgigkmaa", sum := "499a76ea21f4b77ff061ee3276a5770690b63bbc30045f6baee5fb9fb3dbbdae", func := "loop.example/g00920/laws.FnExactValidCover", spec := "fnExactValidCover", unfollowed := true, recurses := true, plainKeys := false, apart := false }
def FnExactValidCoverSaid : Prop := fnExactValidCoverRow.holds Try.pinned (OpenSpec.ofChange fnExactValidCoverSpec)

/-- ITS FALSE NEIGHBOUR: 'it returns false'. Refute it at one input. -/
def fnExactValidCoverWrong : ChangeSpec := { name := "fnExactValidCover", fn := fun _ => fun
  | [d] => { results := [.lit (.bool false)], args := [d] }
  | _ => none }
def FnExactValidCoverWrongFalsely : Prop := fnExactValidCoverRow.holds Try.pinned (OpenSpec.ofChange fnExactValidCoverWrong)

/-- 'laws.FnExactCountGraphs': WHATEVER THE INPUT: true; the input reads as it did. -/
def fnExactCountGraphsSpec : ChangeSpec := { name := "fnExactCountGraphs", fn := fun _ => fun
  | [d] => { results := [.lit (.bool true)], args := [d] }
  | _ => none }
def fnExactCountGraphsRow : OpenClaim := { program := "ytmgbglekgigkmaa", sum := "499a76ea21f4b77ff061ee3276a5770690b63bbc30045f6baee5fb9fb3dbbdae", func := "loop.example/g00920/laws.FnExactCountGraphs", spec := "fnExactCountGraphs", plainKeys := false, apart := false }
def FnExactCountGraphsSaid : Prop := fnExactCountGraphsRow.holds Try.pinned (OpenSpec.ofChange fnExactCountGraphsSpec)

/-- ITS FALSE NEIGHBOUR: 'it returns false'. Refute it at one input. -/
def fnExactCountGraphsWrong : ChangeSpec := { name := "fnExactCountGraphs", fn := fun _ => fun
  | [d] => { results := [.lit (.bool false)], args := [d] }
  | _ => none }
def FnExactCountGraphsWrongFalsely : Prop := fnExactCountGraphsRow.holds Try.pinned (OpenSpec.ofChange fnExactCountGraphsWrong)

/-- 'laws.FnExactValidSystem': WHATEVER THE INPUT: true; the input reads as it did. -/
def fnExactValidSystemSpec : ChangeSpec := { name := "fnExactValidSystem", fn := fun _ => fun
  | [d1, d2] => { results := [.lit (.bool true)], args := [d1, d2] }
  | _ => none }
def fnExactValidSystemRow : OpenClaim := { program := "ytmgbglekgigkmaa", sum := "499a76ea21f4b77ff061ee3276a5770690b63bbc30045f6baee5fb9fb3dbbdae", func := "loop.example/g00920/laws.FnExactValidSystem", spec := "fnExactValidSystem", plainKeys := false, apart := false }
def FnExactValidSystemSaid : Prop := fnExactValidSystemRow.holds Try.pinned (OpenSpec.ofChange fnExactValidSystemSpec)

/-- ITS FALSE NEIGHBOUR: 'it returns false'. Refute it at one input. -/
def fnExactValidSystemWrong : ChangeSpec := { name := "fnExactValidSystem", fn := fun _ => fun
  | [d1, d2] => { results := [.lit (.bool false)], args := [d1, d2] }
  | _ => none }
def FnExactValidSystemWrongFalsely : Prop := fnExactValidSystemRow.holds Try.pinned (OpenSpec.ofChange fnExactValidSystemWrong)

/-- 'laws.FnExactIsOrbitChoice': WHATEVER THE INPUT: true; the input reads as it did. -/
def fnExactIsOrbitChoiceSpec : ChangeSpec := { name := "fnExactIsOrbitChoice", fn := fun _ => fun
  | [d1, d2, d3] => { results := [.lit (.bool true)], args := [d1, d2, d3] }
  | _ => none }
def fnExactIsOrbitChoiceRow : OpenClaim := { program := "ytmgbglekgigkmaa", sum := "499a76ea21f4b77ff061ee3276a5770690b63bbc30045f6baee5fb9fb3dbbdae", func := "loop.example/g00920/laws.FnExactIsOrbitChoice", spec := "fnExactIsOrbitChoice", unfollowed := true, recurses := true, plainKeys := false, apart := false }
def FnExactIsOrbitChoiceSaid : Prop := fnExactIsOrbitChoiceRow.holds Try.pinned (OpenSpec.ofChange fnExactIsOrbitChoiceSpec)

/-- ITS FALSE NEIGHBOUR: 'it returns false'. Refute it at one input. -/
def fnExactIsOrbitChoiceWrong : ChangeSpec := { name := "fnExactIsOrbitChoice", fn := fun _ => fun
  | [d1, d2, d3] => { results := [.lit (.bool false)], args := [d1, d2, d3] }
  | _ => none }
def FnExactIsOrbitChoiceWrongFalsely : Prop := fnExactIsOrbitChoiceRow.holds Try.pinned (OpenSpec.ofChange fnExactIsOrbitChoiceWrong)

/-- 'laws.FnCovering': WHATEVER THE INPUT: true; the input reads as it did. -/
def fnCoveringSpec : ChangeSpec := { name := "fnCovering", fn := fun _ => fun
  | [d1, d2] => { results := [.lit (.bool true)], args := [d1, d2] }
  | _ => none }
def fnCoveringRow : OpenClaim := { program := "ytmgbglekgigkmaa", sum := "499a76ea21f4b77ff061ee3276a5770690b63bbc30045f6baee5fb9fb3dbbdae", func := "loop.example/g00920/laws.FnCovering", spec := "fnCovering", unfollowed := true, recurses := true, plainKeys := false, apart := false }
def FnCoveringSaid : Prop := fnCoveringRow.holds Try.pinned (OpenSpec.ofChange fnCoveringSpec)

/-- ITS FALSE NEIGHBOUR: 'it returns false'. Refute it at one input. -/
def fnCoveringWrong : ChangeSpec := { name := "fnCovering", fn := fun _ => fun
  | [d1, d2] => { results := [.lit (.bool false)], args := [d1, d2] }
  | _ => none }
def FnCoveringWrongFalsely : Prop := fnCoveringRow.holds Try.pinned (OpenSpec.ofChange fnCoveringWrong)

/-- 'laws.FnExactFirstDifferenceSet': WHATEVER THE INPUT: true; the input reads as it did. -/
def fnExactFirstDifferenceSetSpec : ChangeSpec := { name := "fnExactFirstDifferenceSet", fn := fun _ => fun
  | [d1, d2, d3, d4] => { results := [.lit (.bool true)], args := [d1, d2, d3, d4] }
  | _ => none }
def fnExactFirstDifferenceSetRow : OpenClaim := { program := "ytmgbglekgigkmaa", sum := "499a76ea21f4b77ff061ee3276a5770690b63bbc30045f6baee5fb9fb3dbbdae", func := "loop.example/g00920/laws.FnExactFirstDifferenceSet", spec := "fnExactFirstDifferenceSet", recurses := true, plainKeys := false, apart := false }
def FnExactFirstDifferenceSetSaid : Prop := fnExactFirstDifferenceSetRow.holds Try.pinned (OpenSpec.ofChange fnExactFirstDifferenceSetSpec)

/-- ITS FALSE NEIGHBOUR: 'it returns false'. Refute it at one input. -/
def fnExactFirstDifferenceSetWrong : ChangeSpec := { name := "fnExactFirstDifferenceSet", fn := fun _ => fun
  | [d1, d2, d3, d4] => { results := [.lit (.bool false)], args := [d1, d2, d3, d4] }
  | _ => none }
def FnExactFirstDifferenceSetWrongFalsely : Prop := fnExactFirstDifferenceSetRow.holds Try.pinned (OpenSpec.ofChange fnExactFirstDifferenceSetWrong)

/-- 'laws.FnExactSingerSet': WHATEVER THE INPUT: true; the input reads as it did. -/
def fnExactSingerSetSpec : ChangeSpec := { name := "fnExactSingerSet", fn := fun _ => fun
  | [d] => { results := [.lit (.bool true)], args := [d] }
  | _ => none }
def fnExactSingerSetRow : OpenClaim := { program := "ytmgbglekgigkmaa", sum := "499a76ea21f4b77ff061ee3276a5770690b63bbc30045f6baee5fb9fb3dbbdae", func := "loop.example/g00920/laws.FnExactSingerSet", spec := "fnExactSingerSet", recurses := true, plainKeys := false, apart := false }
def FnExactSingerSetSaid : Prop := fnExactSingerSetRow.holds Try.pinned (OpenSpec.ofChange fnExactSingerSetSpec)

/-- ITS FALSE NEIGHBOUR: 'it returns false'. Refute it at one input. -/
def fnExactSingerSetWrong : ChangeSpec := { name := "fnExactSingerSet", fn := fun _ => fun
  | [d] => { results := [.lit (.bool false)], args := [d] }
  | _ => none }
def FnExactSingerSetWrongFalsely : Prop := fnExactSingerSetRow.holds Try.pinned (OpenSpec.ofChange fnExactSingerSetWrong)

/-- 'laws.FnExactIsCover': WHATEVER THE INPUT: true; the input reads as it did. -/
def fnExactIsCoverSpec : ChangeSpec := { name := "fnExactIsCover", fn := fun _ => fun
  | [d1, d2] => { results := [.lit (.bool true)], args := [d1, d2] }
  | _ => none }
def fnExactIsCoverRow : OpenClaim := { program := "ytmgbglekgigkmaa", sum := "499a76ea21f4b77ff061ee3276a5770690b63bbc30045f6baee5fb9fb3dbbdae", func := "loop.example/g00920/laws.FnExactIsCover", spec := "fnExactIsCover", unfollowed := true, recurses := true, plainKeys := false, apart := false }
def FnExactIsCoverSaid : Prop := fnExactIsCoverRow.holds Try.pinned (OpenSpec.ofChange fnExactIsCoverSpec)

/-- ITS FALSE NEIGHBOUR: 'it returns false'. Refute it at one input. -/
def fnExactIsCoverWrong : ChangeSpec := { name := "fnExactIsCover", fn := fun _ => fun
  | [d1, d2] => { results := [.lit (.bool false)], args := [d1, d2] }
  | _ => none }
def FnExactIsCoverWrongFalsely : Prop := fnExactIsCoverRow.holds Try.pinned (OpenSpec.ofChange fnExactIsCoverWrong)

/-- 'laws.FnExactTripleCover': WHATEVER THE INPUT: true; the input reads as it did. -/
def fnExactTripleCoverSpec : ChangeSpec := { name := "fnExactTripleCover", fn := fun _ => fun
  | [d] => { results := [.lit (.bool true)], args := [d] }
  | _ => none }
def fnExactTripleCoverRow : OpenClaim := { program := "ytmgbglekgigkmaa", sum := "499a76ea21f4b77ff061ee3276a5770690b63bbc30045f6baee5fb9fb3dbbdae", func := "loop.example/g00920/laws.FnExactTripleCover", spec := "fnExactTripleCover", unfollowed := true, recurses := true, plainKeys := false, apart := false }
def FnExactTripleCoverSaid : Prop := fnExactTripleCoverRow.holds Try.pinned (OpenSpec.ofChange fnExactTripleCoverSpec)

/-- ITS FALSE NEIGHBOUR: 'it returns false'. Refute it at one input. -/
def fnExactTripleCoverWrong : ChangeSpec := { name := "fnExactTripleCover", fn := fun _ => fun
  | [d] => { results := [.lit (.bool false)], args := [d] }
  | _ => none }
def FnExactTripleCoverWrongFalsely : Prop := fnExactTripleCoverRow.holds Try.pinned (OpenSpec.ofChange fnExactTripleCoverWrong)

/-- 'laws.FnExactUncoveredPairs': WHATEVER THE INPUT: true; the input reads as it did. -/
def fnExactUncoveredPairsSpec : ChangeSpec := { name := "fnExactUncoveredPairs", fn := fun _ => fun
  | [d] => { results := [.lit (.bool true)], args := [d] }
  | _ => none }
def fnExactUncoveredPairsRow : OpenClaim := { program := "ytmgbglekgigkmaa", sum := "499a76ea21f4b77ff061ee3276a5770690b63bbc30045f6baee5fb9fb3dbbdae", func := "loop.example/g00920/laws.FnExactUncoveredPairs", spec := "fnExactUncoveredPairs", unfollowed := true, recurses := true, plainKeys := false, apart := false }
def FnExactUncoveredPairsSaid : Prop := fnExactUncoveredPairsRow.holds Try.pinned (OpenSpec.ofChange fnExactUncoveredPairsSpec)

/-- ITS FALSE NEIGHBOUR: 'it returns false'. Refute it at one input. -/
def fnExactUncoveredPairsWrong : ChangeSpec := { name := "fnExactUncoveredPairs", fn := fun _ => fun
  | [d] => { results := [.lit (.bool false)], args := [d] }
  | _ => none }
def FnExactUncoveredPairsWrongFalsely : Prop := fnExactUncoveredPairsRow.holds Try.pinned (OpenSpec.ofChange fnExactUncoveredPairsWrong)

/- THE SECOND FORM. 'bulk': how many values and letters a reading holds, each counted each time it is reached (what is shared counts as often as it is met; a slice's spare places count too). A statement '..UptoSaid' is the law's where the arguments, and the package variables that the reading takes, are together of bulk at most 1048576: NARROWER than '..Said'. Prove '..Said' where nothing that the law and all that it calls make is longer than what came in: it says more and counts as full. Else prove '..UptoSaid'. A law counts once. -/
mutual
def uptoBulk {H : Type} : DataW H → Nat
  | .lit (.string bytes) => bytes.length + 1
  | .lit _ => 1
  | .nil => 1
  | .ptr d => uptoBulk d + 1
  | .slice elems spare => uptoBulkAll elems + uptoBulkAll spare + 1
  | .agg parts => uptoBulkAll parts + 1
  | .iface _ d => uptoBulk d + 1
  | .map entries => uptoBulkEntries entries + 1
  | .held _ => 1
def uptoBulkAll {H : Type} : List (DataW H) → Nat
  | [] => 0
  | d :: r => uptoBulk d + uptoBulkAll r
def uptoBulkEntries {H : Type} : List (Lit × DataW H) → Nat
  | [] => 0
  | x :: r => uptoBulkEntry x + uptoBulkEntries r
def uptoBulkEntry {H : Type} : Lit × DataW H → Nat
  | (.string bytes, d) => bytes.length + uptoBulk d + 1
  | (_, d) => uptoBulk d + 1
 end
def uptoSmall : (H : Type) → List (DataW H) → Bool := fun _ ds => decide (uptoBulkAll ds ≤ 1048576)
def OpenSpec.upto (s : _root_.Go.ChangeSpec) : _root_.Go.OpenSpec := { _root_.Go.OpenSpec.ofChange s with cond := some uptoSmall }

/-- 'laws.FnExactSquareCover', WHERE WHAT IT READS IS OF BULK AT MOST 1048576: true; the input reads as it did. -/
def fnExactSquareCoverUptoRow : OpenClaim := { program := "ytmgbglekgigkmaa", sum := "499a76ea21f4b77ff061ee3276a5770690b63bbc30045f6baee5fb9fb3dbbdae", func := "loop.example/g00920/laws.FnExactSquareCover", spec := "fnExactSquareCover", plainKeys := false, apart := false, narrowed := true }
def FnExactSquareCoverUptoSaid : Prop := fnExactSquareCoverUptoRow.holds Try.pinned (OpenSpec.upto fnExactSquareCoverSpec)

/-- 'laws.FnExactSameCover', WHERE WHAT IT READS IS OF BULK AT MOST 1048576: true; the input reads as it did. -/
def fnExactSameCoverUptoRow : OpenClaim := { program := "ytmgbglekgigkmaa", sum := "499a76ea21f4b77ff061ee3276a5770690b63bbc30045f6baee5fb9fb3dbbdae", func := "loop.example/g00920/laws.FnExactSameCover", spec := "fnExactSameCover", unfollowed := true, recurses := true, plainKeys := false, apart := false, narrowed := true }
def FnExactSameCoverUptoSaid : Prop := fnExactSameCoverUptoRow.holds Try.pinned (OpenSpec.upto fnExactSameCoverSpec)

/-- 'laws.FnExactValidCover', WHERE WHAT IT READS IS OF BULK AT MOST 1048576: true; the input reads as it did. -/
def fnExactValidCoverUptoRow : OpenClaim := { program := "ytmgbglekgigkmaa", sum := "499a76ea21f4b77ff061ee3276a5770690b63bbc30045f6baee5fb9fb3dbbdae", func := "loop.example/g00920/laws.FnExactValidCover", spec := "fnExactValidCover", unfollowed := true, recurses := true, plainKeys := false, apart := false, narrowed := true }
def FnExactValidCoverUptoSaid : Prop := fnExactValidCoverUptoRow.holds Try.pinned (OpenSpec.upto fnExactValidCoverSpec)

/-- 'laws.FnExactCountGraphs', WHERE WHAT IT READS IS OF BULK AT MOST 1048576: true; the input reads as it did. -/
def fnExactCountGraphsUptoRow : OpenClaim := { program := "ytmgbglekgigkmaa", sum := "499a76ea21f4b77ff061ee3276a5770690b63bbc30045f6baee5fb9fb3dbbdae", func := "loop.example/g00920/laws.FnExactCountGraphs", spec := "fnExactCountGraphs", plainKeys := false, apart := false, narrowed := true }
def FnExactCountGraphsUptoSaid : Prop := fnExactCountGraphsUptoRow.holds Try.pinned (OpenSpec.upto fnExactCountGraphsSpec)

/-- 'laws.FnExactValidSystem', WHERE WHAT IT READS IS OF BULK AT MOST 1048576: true; the input reads as it did. -/
def fnExactValidSystemUptoRow : OpenClaim := { program := "ytmgbglekgigkmaa", sum := "499a76ea21f4b77ff061ee3276a5770690b63bbc30045f6baee5fb9fb3dbbdae", func := "loop.example/g00920/laws.FnExactValidSystem", spec := "fnExactValidSystem", plainKeys := false, apart := false, narrowed := true }
def FnExactValidSystemUptoSaid : Prop := fnExactValidSystemUptoRow.holds Try.pinned (OpenSpec.upto fnExactValidSystemSpec)

/-- 'laws.FnExactIsOrbitChoice', WHERE WHAT IT READS IS OF BULK AT MOST 1048576: true; the input reads as it did. -/
def fnExactIsOrbitChoiceUptoRow : OpenClaim := { program := "ytmgbglekgigkmaa", sum := "499a76ea21f4b77ff061ee3276a5770690b63bbc30045f6baee5fb9fb3dbbdae", func := "loop.example/g00920/laws.FnExactIsOrbitChoice", spec := "fnExactIsOrbitChoice", unfollowed := true, recurses := true, plainKeys := false, apart := false, narrowed := true }
def FnExactIsOrbitChoiceUptoSaid : Prop := fnExactIsOrbitChoiceUptoRow.holds Try.pinned (OpenSpec.upto fnExactIsOrbitChoiceSpec)

/-- 'laws.FnCovering', WHERE WHAT IT READS IS OF BULK AT MOST 1048576: true; the input reads as it did. -/
def fnCoveringUptoRow : OpenClaim := { program := "ytmgbglekgigkmaa", sum := "499a76ea21f4b77ff061ee3276a5770690b63bbc30045f6baee5fb9fb3dbbdae", func := "loop.example/g00920/laws.FnCovering", spec := "fnCovering", unfollowed := true, recurses := true, plainKeys := false, apart := false, narrowed := true }
def FnCoveringUptoSaid : Prop := fnCoveringUptoRow.holds Try.pinned (OpenSpec.upto fnCoveringSpec)

/-- 'laws.FnExactFirstDifferenceSet', WHERE WHAT IT READS IS OF BULK AT MOST 1048576: true; the input reads as it did. -/
def fnExactFirstDifferenceSetUptoRow : OpenClaim := { program := "ytmgbglekgigkmaa", sum := "499a76ea21f4b77ff061ee3276a5770690b63bbc30045f6baee5fb9fb3dbbdae", func := "loop.example/g00920/laws.FnExactFirstDifferenceSet", spec := "fnExactFirstDifferenceSet", recurses := true, plainKeys := false, apart := false, narrowed := true }
def FnExactFirstDifferenceSetUptoSaid : Prop := fnExactFirstDifferenceSetUptoRow.holds Try.pinned (OpenSpec.upto fnExactFirstDifferenceSetSpec)

/-- 'laws.FnExactSingerSet', WHERE WHAT IT READS IS OF BULK AT MOST 1048576: true; the input reads as it did. -/
def fnExactSingerSetUptoRow : OpenClaim := { program := "ytmgbglekgigkmaa", sum := "499a76ea21f4b77ff061ee3276a5770690b63bbc30045f6baee5fb9fb3dbbdae", func := "loop.example/g00920/laws.FnExactSingerSet", spec := "fnExactSingerSet", recurses := true, plainKeys := false, apart := false, narrowed := true }
def FnExactSingerSetUptoSaid : Prop := fnExactSingerSetUptoRow.holds Try.pinned (OpenSpec.upto fnExactSingerSetSpec)

/-- 'laws.FnExactIsCover', WHERE WHAT IT READS IS OF BULK AT MOST 1048576: true; the input reads as it did. -/
def fnExactIsCoverUptoRow : OpenClaim := { program := "ytmgbglekgigkmaa", sum := "499a76ea21f4b77ff061ee3276a5770690b63bbc30045f6baee5fb9fb3dbbdae", func := "loop.example/g00920/laws.FnExactIsCover", spec := "fnExactIsCover", unfollowed := true, recurses := true, plainKeys := false, apart := false, narrowed := true }
def FnExactIsCoverUptoSaid : Prop := fnExactIsCoverUptoRow.holds Try.pinned (OpenSpec.upto fnExactIsCoverSpec)

/-- 'laws.FnExactTripleCover', WHERE WHAT IT READS IS OF BULK AT MOST 1048576: true; the input reads as it did. -/
def fnExactTripleCoverUptoRow : OpenClaim := { program := "ytmgbglekgigkmaa", sum := "499a76ea21f4b77ff061ee3276a5770690b63bbc30045f6baee5fb9fb3dbbdae", func := "loop.example/g00920/laws.FnExactTripleCover", spec := "fnExactTripleCover", unfollowed := true, recurses := true, plainKeys := false, apart := false, narrowed := true }
def FnExactTripleCoverUptoSaid : Prop := fnExactTripleCoverUptoRow.holds Try.pinned (OpenSpec.upto fnExactTripleCoverSpec)

/-- 'laws.FnExactUncoveredPairs', WHERE WHAT IT READS IS OF BULK AT MOST 1048576: true; the input reads as it did. -/
def fnExactUncoveredPairsUptoRow : OpenClaim := { program := "ytmgbglekgigkmaa", sum := "499a76ea21f4b77ff061ee3276a5770690b63bbc30045f6baee5fb9fb3dbbdae", func := "loop.example/g00920/laws.FnExactUncoveredPairs", spec := "fnExactUncoveredPairs", unfollowed := true, recurses := true, plainKeys := false, apart := false, narrowed := true }
def FnExactUncoveredPairsUptoSaid : Prop := fnExactUncoveredPairsUptoRow.holds Try.pinned (OpenSpec.upto fnExactUncoveredPairsSpec)

end Rows
end Go.Proofs.Ytmgbglekgigkmaa
