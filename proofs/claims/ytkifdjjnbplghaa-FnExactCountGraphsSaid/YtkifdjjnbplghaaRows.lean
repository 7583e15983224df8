/-
  No cell of these rows narrows 'for every input' (looked for: loops, veiled, ifaces, maps, wideKeys, modest, calm, conditions, laid).
  DERIVED. THE GIVEN ROWS OF THIS SEAT. 4 by the template 'for every input the law returns true; each argument reads behind the call as it read before'; 0 by the template 'total and deterministic' (their statements: YtkifdjjnbplghaaTotals.lean).
  GIVEN WITH THE SEED: the statements are not yours to turn. If you find one false, say at which input.
  Laid BY PROGRAM, IN A SANDBOX (cutbox-rows.mjs): the forced cells as the released guide's own fill.sh prints them over the translation 12f50a643d2e13ac… (all of the seat's roots in one cut). By AI agents, Wed Nov 11 2026. No macro, syntax, notation, axiom, sorry.
-/
import Derived.Test.YtkifdjjnbplghaaChecked
import GoSem.Claim
import GoSem.ClaimJoined
import GoSem.ClaimMapViews
import Derived.JoinedTies
import Derived.KernelRfl
namespace Go.Proofs.Ytkifdjjnbplghaa
/- THE CELL 'sum', in the pinned program and in every row, IS THE sha256 OF THE DUMP (.gsa) THAT YtkifdjjnbplghaaProg.lean LOADS. Nothing in Lean hashes anything: it is a label: what it is worth is what the hold of that sum in a sandbox is worth. -/
noncomputable def Try.pinned : Pinned := { name := "ytkifdjjnbplghaa", sum := "12f50a643d2e13ac16f3fc48596c00d294e4001d29a227a9569ea88635a23aa2", checked := Try.checked }
namespace Rows
def none {H : Type} : Left H := { results := [], args := [] }

/-- 'laws.FnExactLeastImage': WHATEVER THE INPUT: true; the input reads as it did. -/
def fnExactLeastImageSpec : ChangeSpec := { name := "fnExactLeastImage", fn := fun _ => fun
  | [d1, d2] => { results := [.lit (.bool true)], args := [d1, d2] }
  | _ => none }
def fnExactLeastImageRow : OpenClaim := { program := "ytkifdjjnbplghaa", sum := "12f50a643d2e13ac16f3fc48596c00d294e4001d29a227a9569ea88635a23aa2", func := "loop.example/g00920/laws.FnExactLeastImage", spec := "fnExactLeastImage", unfollowed := true, recurses := true, plainKeys := false, apart := false }
def FnExactLeastImageSaid : Prop := fnExactLeastImageRow.holds Try.pinned (OpenSpec.ofChange fnExactLeastImageSpec)

/-- ITS FALSE NEIGHBOUR: 'it returns false'. Refute it at one input. -/
def fnExactLeastImageWrong : ChangeSpec := { name := "fnExactLeastImage", fn := fun _ => fun
  | [d1, d2] => { results := [.lit (.bool false)], args := [d1, d2] }
  | _ => none }
def FnExactLeastImageWrongFalsely : Prop := fnExactLeastImageRow.holds Try.pinned (OpenSpec.ofChange fnExactLeastImageWrong)

/-- 'laws.FnExactOrbitLength': WHATEVER THE INPUT: true; the input reads as it did. -/
def fnExactOrbitLengthSpec : ChangeSpec := { name := "fnExactOrbitLength", fn := fun _ => fun
  | [d1, d2] => { results := [.lit (.bool true)], args := [d1, d2] }
  | _ => none }
def fnExactOrbitLengthRow : OpenClaim := { program := "ytkifdjjnbplghaa", sum := "12f50a643d2e13ac16f3fc48596c00d294e4001d29a227a9569ea88635a23aa2", func := "loop.example/g00920/laws.FnExactOrbitLength", spec := "fnExactOrbitLength", unfollowed := true, recurses := true, plainKeys := false, apart := false }
def FnExactOrbitLengthSaid : Prop := fnExactOrbitLengthRow.holds Try.pinned (OpenSpec.ofChange fnExactOrbitLengthSpec)

/-- ITS FALSE NEIGHBOUR: 'it returns false'. Refute it at one input. -/
def fnExactOrbitLengthWrong : ChangeSpec := { name := "fnExactOrbitLength", fn := fun _ => fun
  | [d1, d2] => { results := [.lit (.bool false)], args := [d1, d2] }
  | _ => none }
def FnExactOrbitLengthWrongFalsely : Prop := fnExactOrbitLengthRow.holds Try.pinned (OpenSpec.ofChange fnExactOrbitLengthWrong)

/-- 'laws.FnExactCountSubsetOrbits': WHATEVER THE INPUT: true; the input reads as it did. -/
def fnExactCountSubsetOrbitsSpec : ChangeSpec := { name := "fnExactCountSubsetOrbits", fn := fun _ => fun
  | [d1, d2] => { results := [.lit (.bool true)], args := [d1, d2] }
  | _ => none }
def fnExactCountSubsetOrbitsRow : OpenClaim := { program := "ytkifdjjnbplghaa", sum := "12f50a643d2e13ac16f3fc48596c00d294e4001d29a227a9569ea88635a23aa2", func := "loop.example/g00920/laws.FnExactCountSubsetOrbits", spec := "fnExactCountSubsetOrbits", unfollowed := true, recurses := true, plainKeys := false, apart := false }
def FnExactCountSubsetOrbitsSaid : Prop := fnExactCountSubsetOrbitsRow.holds Try.pinned (OpenSpec.ofChange fnExactCountSubsetOrbitsSpec)

/-- ITS FALSE NEIGHBOUR: 'it returns false'. Refute it at one input. -/
def fnExactCountSubsetOrbitsWrong : ChangeSpec := { name := "fnExactCountSubsetOrbits", fn := fun _ => fun
  | [d1, d2] => { results := [.lit (.bool false)], args := [d1, d2] }
  | _ => none }
def FnExactCountSubsetOrbitsWrongFalsely : Prop := fnExactCountSubsetOrbitsRow.holds Try.pinned (OpenSpec.ofChange fnExactCountSubsetOrbitsWrong)

/-- 'laws.FnExactCountGraphs': WHATEVER THE INPUT: true; the input reads as it did. -/
def fnExactCountGraphsSpec : ChangeSpec := { name := "fnExactCountGraphs", fn := fun _ => fun
  | [d] => { results := [.lit (.bool true)], args := [d] }
  | _ => none }
def fnExactCountGraphsRow : OpenClaim := { program := "ytkifdjjnbplghaa", sum := "12f50a643d2e13ac16f3fc48596c00d294e4001d29a227a9569ea88635a23aa2", func := "loop.example/g00920/laws.FnExactCountGraphs", spec := "fnExactCountGraphs", plainKeys := false, apart := false }
def FnExactCountGraphsSaid : Prop := fnExactCountGraphsRow.holds Try.pinned (OpenSpec.ofChange fnExactCountGraphsSpec)

/-- ITS FALSE NEIGHBOUR: 'it returns false'. Refute it at one input. -/
def fnExactCountGraphsWrong : ChangeSpec := { name := "fnExactCountGraphs", fn := fun _ => fun
  | [d] => { results := [.lit (.bool false)], args := [d] }
  | _ => none }
def FnExactCountGraphsWrongFalsely : Prop := fnExactCountGraphsRow.holds Try.pinned (OpenSpec.ofChange fnExactCountGraphsWrong)

/- THE SECOND FORM. 'bulk': how many values and letters a reading holds, each counted each time it is reached (what is shared counts as often as it is met; a slice's spare places count too). A statement '..UptoSaid' is the law's where the arguments, and the package variables that the reading takes, are together of bulk at most 1048576: NARROWER than '..Said'. Prove '..Said' where nothing that the law and all that it calls make is longer than what came in: it says more and counts as full. Else prove '..UptoSaid'. A law counts once. -/
mutual
def uptoBulk {H : Type} : DataW H → Nat
  | .lit (.string bytes) => bytes.length + 1
  | .lit _ => 1
  | .nil => 1
  | .ptr d => uptoBulk d + 1
  | .slice elems spare => uptoBulkAll elems + uptoBulkAll spare + 1
  | .agg parts => uptoBulkAll parts + 1
  | .iface _ d => uptoBulk d + 1
  | .map entries => uptoBulkEntries entries + 1
  | .held _ => 1
def uptoBulkAll {H : Type} : List (DataW H) → Nat
  | [] => 0
  | d :: r => uptoBulk d + uptoBulkAll r
def uptoBulkEntries {H : Type} : List (Lit × DataW H) → Nat
  | [] => 0
  | x :: r => uptoBulkEntry x + uptoBulkEntries r
def uptoBulkEntry {H : Type} : Lit × DataW H → Nat
  | (.string bytes, d) => bytes.length + uptoBulk d + 1
  | (_, d) => uptoBulk d + 1
 end
def uptoSmall : (H : Type) → List (DataW H) → Bool := fun _ ds => decide (uptoBulkAll ds ≤ 1048576)
def OpenSpec.upto (s : _root_.Go.ChangeSpec) : _root_.Go.OpenSpec := { _root_.Go.OpenSpec.ofChange s with cond := some uptoSmall }

/-- 'laws.FnExactLeastImage', WHERE WHAT IT READS IS OF BULK AT MOST 1048576: true; the input reads as it did. -/
def fnExactLeastImageUptoRow : OpenClaim := { program := "ytkifdjjnbplghaa", sum := "12f50a643d2e13ac16f3fc48596c00d294e4001d29a227a9569ea88635a23aa2", func := "loop.example/g00920/laws.FnExactLeastImage", spec := "fnExactLeastImage", unfollowed := true, recurses := true, plainKeys := false, apart := false, narrowed := true }
def FnExactLeastImageUptoSaid : Prop := fnExactLeastImageUptoRow.holds Try.pinned (OpenSpec.upto fnExactLeastImageSpec)

/-- 'laws.FnExactOrbitLength', WHERE WHAT IT READS IS OF BULK AT MOST 1048576: true; the input reads as it did. -/
def fnExactOrbitLengthUptoRow : OpenClaim := { program := "ytkifdjjnbplghaa", sum := "12f50a643d2e13ac16f3fc48596c00d294e4001d29a227a9569ea88635a23aa2", func := "loop.example/g00920/laws.FnExactOrbitLength", spec := "fnExactOrbitLength", unfollowed := true, recurses := true, plainKeys := false, apart := false, narrowed := true }
def FnExactOrbitLengthUptoSaid : Prop := fnExactOrbitLengthUptoRow.holds Try.pinned (OpenSpec.upto fnExactOrbitLengthSpec)

/-- 'laws.FnExactCountSubsetOrbits', WHERE WHAT IT READS IS OF BULK AT MOST 1048576: true; the input reads as it did. -/
def fnExactCountSubsetOrbitsUptoRow : OpenClaim := { program := "ytkifdjjnbplghaa", sum := "12f50a643d2e13ac16f3fc48596c00d294e4001d29a227a9569ea88635a23aa2", func := "loop.example/g00920/laws.FnExactCountSubsetOrbits", spec := "fnExactCountSubsetOrbits", unfollowed := true, recurses := true, plainKeys := false, apart := false, narrowed := true }
def FnExactCountSubsetOrbitsUptoSaid : Prop := fnExactCountSubsetOrbitsUptoRow.holds Try.pinned (OpenSpec.upto fnExactCountSubsetOrbitsSpec)

/-- 'laws.FnExactCountGraphs', WHERE WHAT IT READS IS OF BULK AT MOST 1048576: true; the input reads as it did. -/
def fnExactCountGraphsUptoRow : OpenClaim := { program := "ytkifdjjnbplghaa", sum := "12f50a643d2e13ac16f3fc48596c00d294e4001d29a227a9569ea88635a23aa2", func := "loop.example/g00920/laws.FnExactCountGraphs", spec := "fnExactCountGraphs", plainKeys := false, apart := false, narrowed := true }
def FnExactCountGraphsUptoSaid : Prop := fnExactCountGraphsUptoRow.holds Try.pinned (OpenSpec.upto fnExactCountGraphsSpec)

end Rows
end Go.Proofs.Ytkifdjjnbplghaa
