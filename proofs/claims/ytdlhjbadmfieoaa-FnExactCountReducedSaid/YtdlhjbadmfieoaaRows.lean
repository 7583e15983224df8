/-
  No cell of these rows narrows 'for every input' (looked for: loops, veiled, ifaces, maps, wideKeys, modest, calm, conditions, laid).
  DERIVED. THE GIVEN ROWS OF THIS SEAT. 12 by the template 'for every input the law returns true; each argument reads behind the call as it read before'; 0 by the template 'total and deterministic' (their statements: YtdlhjbadmfieoaaTotals.lean).
  GIVEN WITH THE SEED: the statements are not yours to turn. If you find one false, say at which input.
  Laid BY PROGRAM, IN A SANDBOX (cutbox-rows.mjs): the forced cells as the released guide's own fill.sh prints them over the translation 5dd2dca85e967ea4… (all of the seat's roots in one cut). By AI agents, Wed Nov 11 2026. No macro, syntax, notation, axiom, sorry.
-/
import Derived.Test.YtdlhjbadmfieoaaChecked
import GoSem.Claim
import GoSem.ClaimJoined
import GoSem.ClaimMapViews
import Derived.JoinedTies
import Derived.KernelRfl
namespace Go.Proofs.Ytdlhjbadmfieoaa
/- THE CELL 'sum', in the pinned program and in every row, IS THE sha256 OF THE DUMP (.gsa) THAT YtdlhjbadmfieoaaProg.lean LOADS. Nothing in Lean hashes anything: it is a label: what it is worth is what the hold of that sum in a sandbox is worth. -/
noncomputable def Try.pinned : Pinned := { name := "ytdlhjbadmfieoaa", sum := "5dd2dca85e967ea418896012df699b56748fdcd3c09c727c9a8b6da392133048", checked := Try.checked }
namespace Rows
def none {H : Type} : Left H := { results := [], args := [] }

/-- 'laws.FnExactCoverPairs': WHATEVER THE INPUT: true; the input reads as it did. -/
def fnExactCoverPairsSpec : ChangeSpec := { name := "fnExactCoverPairs", fn := fun _ => fun
  | [d1, d2] => { results := [.lit (.bool true)], args := [d1, d2] }
  | _ => none }
def fnExactCoverPairsRow : OpenClaim := { program := "ytdlhjbadmfieoaa", sum := "5dd2dca85e967ea418896012df699b56748fdcd3c09c727c9a8b6da392133048", func := "loop.example/g00920/laws.FnExactCoverPairs", spec := "fnExactCoverPairs", apart := false }
def FnExactCoverPairsSaid : Prop := fnExactCoverPairsRow.holds Try.pinned (OpenSpec.ofChange fnExactCoverPairsSpec)

/-- ITS FALSE NEIGHBOUR: 'it returns false'. Refute it at one input. -/
def fnExactCoverPairsWrong : ChangeSpec := { name := "fnExactCoverPairs", fn := fun _ => fun
  | [d1, d2] => { results := [.lit (.bool false)], args := [d1, d2] }
  | _ => none }
def FnExactCoverPairsWrongFalsely : Prop := fnExactCoverPairsRow.holds Try.pinned (OpenSpec.ofChange fnExactCoverPairsWrong)

/-- 'laws.FnExactCountReduced': WHATEVER THE INPUT: true; the input reads as it did. -/
def fnExactCountReducedSpec : ChangeSpec := { name := "fnExactCountReduced", fn := fun _ => fun
  | [d1, d2] => { results := [.lit (.bool true)], args := [d1, d2] }
  | _ => none }
def fnExactCountReducedRow : OpenClaim := { program := "ytdlhjbadmfieoaa", sum := "5dd2dca85e967ea418896012df699b56748fdcd3c09c727c9a8b6da392133048", func := "loop.example/g00920/laws.FnExactCountReduced", spec := "fnExactCountReduced", unfollowed := true, recurses := true, apart := false }
def FnExactCountReducedSaid : Prop := fnExactCountReducedRow.holds Try.pinned (OpenSpec.ofChange fnExactCountReducedSpec)

/-- ITS FALSE NEIGHBOUR: 'it returns false'. Refute it at one input. -/
def fnExactCountReducedWrong : ChangeSpec := { name := "fnExactCountReduced", fn := fun _ => fun
  | [d1, d2] => { results := [.lit (.bool false)], args := [d1, d2] }
  | _ => none }
def FnExactCountReducedWrongFalsely : Prop := fnExactCountReducedRow.holds Try.pinned (OpenSpec.ofChange fnExactCountReducedWrong)

/-- 'laws.FnPropagate': WHATEVER THE INPUT: true; the input reads as it did. -/
def fnPropagateSpec : ChangeSpec := { name := "fnPropagate", fn := fun _ => fun
  | [d] => { results := [.lit (.bool true)], args := [d] }
  | _ => none }
def fnPropagateRow : OpenClaim := { program := "ytdlhjbadmfieoaa", sum := "5dd2dca85e967ea418896012df699b56748fdcd3c09c727c9a8b6da392133048", func := "loop.example/g00920/laws.FnPropagate", spec := "fnPropagate", unfollowed := true, recurses := true, apart := false }
def FnPropagateSaid : Prop := fnPropagateRow.holds Try.pinned (OpenSpec.ofChange fnPropagateSpec)

/-- ITS FALSE NEIGHBOUR: 'it returns false'. Refute it at one input. -/
def fnPropagateWrong : ChangeSpec := { name := "fnPropagate", fn := fun _ => fun
  | [d] => { results := [.lit (.bool false)], args := [d] }
  | _ => none }
def FnPropagateWrongFalsely : Prop := fnPropagateRow.holds Try.pinned (OpenSpec.ofChange fnPropagateWrong)

/-- 'laws.FnCritical': WHATEVER THE INPUT: true; the input reads as it did. -/
def fnCriticalSpec : ChangeSpec := { name := "fnCritical", fn := fun _ => fun
  | [d1, d2] => { results := [.lit (.bool true)], args := [d1, d2] }
  | _ => none }
def fnCriticalRow : OpenClaim := { program := "ytdlhjbadmfieoaa", sum := "5dd2dca85e967ea418896012df699b56748fdcd3c09c727c9a8b6da392133048", func := "loop.example/g00920/laws.FnCritical", spec := "fnCritical", unfollowed := true, recurses := true, apart := false }
def FnCriticalSaid : Prop := fnCriticalRow.holds Try.pinned (OpenSpec.ofChange fnCriticalSpec)

/-- ITS FALSE NEIGHBOUR: 'it returns false'. Refute it at one input. -/
def fnCriticalWrong : ChangeSpec := { name := "fnCritical", fn := fun _ => fun
  | [d1, d2] => { results := [.lit (.bool false)], args := [d1, d2] }
  | _ => none }
def FnCriticalWrongFalsely : Prop := fnCriticalRow.holds Try.pinned (OpenSpec.ofChange fnCriticalWrong)

/-- 'laws.FnExactCyclicGroup': WHATEVER THE INPUT: true; the input reads as it did. -/
def fnExactCyclicGroupSpec : ChangeSpec := { name := "fnExactCyclicGroup", fn := fun _ => fun
  | [d] => { results := [.lit (.bool true)], args := [d] }
  | _ => none }
def fnExactCyclicGroupRow : OpenClaim := { program := "ytdlhjbadmfieoaa", sum := "5dd2dca85e967ea418896012df699b56748fdcd3c09c727c9a8b6da392133048", func := "loop.example/g00920/laws.FnExactCyclicGroup", spec := "fnExactCyclicGroup", unfollowed := true, recurses := true, apart := false }
def FnExactCyclicGroupSaid : Prop := fnExactCyclicGroupRow.holds Try.pinned (OpenSpec.ofChange fnExactCyclicGroupSpec)

/-- ITS FALSE NEIGHBOUR: 'it returns false'. Refute it at one input. -/
def fnExactCyclicGroupWrong : ChangeSpec := { name := "fnExactCyclicGroup", fn := fun _ => fun
  | [d] => { results := [.lit (.bool false)], args := [d] }
  | _ => none }
def FnExactCyclicGroupWrongFalsely : Prop := fnExactCyclicGroupRow.holds Try.pinned (OpenSpec.ofChange fnExactCyclicGroupWrong)

/-- 'laws.FnExactFrobeniusGroup': WHATEVER THE INPUT: true; the input reads as it did. -/
def fnExactFrobeniusGroupSpec : ChangeSpec := { name := "fnExactFrobeniusGroup", fn := fun _ => fun
  | [d1, d2] => { results := [.lit (.bool true)], args := [d1, d2] }
  | _ => none }
def fnExactFrobeniusGroupRow : OpenClaim := { program := "ytdlhjbadmfieoaa", sum := "5dd2dca85e967ea418896012df699b56748fdcd3c09c727c9a8b6da392133048", func := "loop.example/g00920/laws.FnExactFrobeniusGroup", spec := "fnExactFrobeniusGroup", unfollowed := true, recurses := true, apart := false }
def FnExactFrobeniusGroupSaid : Prop := fnExactFrobeniusGroupRow.holds Try.pinned (OpenSpec.ofChange fnExactFrobeniusGroupSpec)

/-- ITS FALSE NEIGHBOUR: 'it returns false'. Refute it at one input. -/
def fnExactFrobeniusGroupWrong : ChangeSpec := { name := "fnExactFrobeniusGroup", fn := fun _ => fun
  | [d1, d2] => { results := [.lit (.bool false)], args := [d1, d2] }
  | _ => none }
def FnExactFrobeniusGroupWrongFalsely : Prop := fnExactFrobeniusGroupRow.holds Try.pinned (OpenSpec.ofChange fnExactFrobeniusGroupWrong)

/-- 'laws.FnExactTransversalsOf': WHATEVER THE INPUT: true; the input reads as it did. -/
def fnExactTransversalsOfSpec : ChangeSpec := { name := "fnExactTransversalsOf", fn := fun _ => fun
  | [d1, d2, d3] => { results := [.lit (.bool true)], args := [d1, d2, d3] }
  | _ => none }
def fnExactTransversalsOfRow : OpenClaim := { program := "ytdlhjbadmfieoaa", sum := "5dd2dca85e967ea418896012df699b56748fdcd3c09c727c9a8b6da392133048", func := "loop.example/g00920/laws.FnExactTransversalsOf", spec := "fnExactTransversalsOf", unfollowed := true, recurses := true, apart := false }
def FnExactTransversalsOfSaid : Prop := fnExactTransversalsOfRow.holds Try.pinned (OpenSpec.ofChange fnExactTransversalsOfSpec)

/-- ITS FALSE NEIGHBOUR: 'it returns false'. Refute it at one input. -/
def fnExactTransversalsOfWrong : ChangeSpec := { name := "fnExactTransversalsOf", fn := fun _ => fun
  | [d1, d2, d3] => { results := [.lit (.bool false)], args := [d1, d2, d3] }
  | _ => none }
def FnExactTransversalsOfWrongFalsely : Prop := fnExactTransversalsOfRow.holds Try.pinned (OpenSpec.ofChange fnExactTransversalsOfWrong)

/-- 'laws.FnExactMateOf': WHATEVER THE INPUT: true; the input reads as it did. -/
def fnExactMateOfSpec : ChangeSpec := { name := "fnExactMateOf", fn := fun _ => fun
  | [d1, d2] => { results := [.lit (.bool true)], args := [d1, d2] }
  | _ => none }
def fnExactMateOfRow : OpenClaim := { program := "ytdlhjbadmfieoaa", sum := "5dd2dca85e967ea418896012df699b56748fdcd3c09c727c9a8b6da392133048", func := "loop.example/g00920/laws.FnExactMateOf", spec := "fnExactMateOf", unfollowed := true, recurses := true, apart := false }
def FnExactMateOfSaid : Prop := fnExactMateOfRow.holds Try.pinned (OpenSpec.ofChange fnExactMateOfSpec)

/-- ITS FALSE NEIGHBOUR: 'it returns false'. Refute it at one input. -/
def fnExactMateOfWrong : ChangeSpec := { name := "fnExactMateOf", fn := fun _ => fun
  | [d1, d2] => { results := [.lit (.bool false)], args := [d1, d2] }
  | _ => none }
def FnExactMateOfWrongFalsely : Prop := fnExactMateOfRow.holds Try.pinned (OpenSpec.ofChange fnExactMateOfWrong)

/-- 'laws.FnCover': WHATEVER THE INPUT: true; the input reads as it did. -/
def fnCoverSpec : ChangeSpec := { name := "fnCover", fn := fun _ => fun
  | [d1, d2] => { results := [.lit (.bool true)], args := [d1, d2] }
  | _ => none }
def fnCoverRow : OpenClaim := { program := "ytdlhjbadmfieoaa", sum := "5dd2dca85e967ea418896012df699b56748fdcd3c09c727c9a8b6da392133048", func := "loop.example/g00920/laws.FnCover", spec := "fnCover", unfollowed := true, recurses := true, apart := false }
def FnCoverSaid : Prop := fnCoverRow.holds Try.pinned (OpenSpec.ofChange fnCoverSpec)

/-- ITS FALSE NEIGHBOUR: 'it returns false'. Refute it at one input. -/
def fnCoverWrong : ChangeSpec := { name := "fnCover", fn := fun _ => fun
  | [d1, d2] => { results := [.lit (.bool false)], args := [d1, d2] }
  | _ => none }
def FnCoverWrongFalsely : Prop := fnCoverRow.holds Try.pinned (OpenSpec.ofChange fnCoverWrong)

/-- 'laws.FnExactDesignGraph': WHATEVER THE INPUT: true; the input reads as it did. -/
def fnExactDesignGraphSpec : ChangeSpec := { name := "fnExactDesignGraph", fn := fun _ => fun
  | [d] => { results := [.lit (.bool true)], args := [d] }
  | _ => none }
def fnExactDesignGraphRow : OpenClaim := { program := "ytdlhjbadmfieoaa", sum := "5dd2dca85e967ea418896012df699b56748fdcd3c09c727c9a8b6da392133048", func := "loop.example/g00920/laws.FnExactDesignGraph", spec := "fnExactDesignGraph", unfollowed := true, recurses := true, apart := false }
def FnExactDesignGraphSaid : Prop := fnExactDesignGraphRow.holds Try.pinned (OpenSpec.ofChange fnExactDesignGraphSpec)

/-- ITS FALSE NEIGHBOUR: 'it returns false'. Refute it at one input. -/
def fnExactDesignGraphWrong : ChangeSpec := { name := "fnExactDesignGraph", fn := fun _ => fun
  | [d] => { results := [.lit (.bool false)], args := [d] }
  | _ => none }
def FnExactDesignGraphWrongFalsely : Prop := fnExactDesignGraphRow.holds Try.pinned (OpenSpec.ofChange fnExactDesignGraphWrong)

/-- 'laws.FnExactIsAutomorphism': WHATEVER THE INPUT: true; the input reads as it did. -/
def fnExactIsAutomorphismSpec : ChangeSpec := { name := "fnExactIsAutomorphism", fn := fun _ => fun
  | [d1, d2] => { results := [.lit (.bool true)], args := [d1, d2] }
  | _ => none }
def fnExactIsAutomorphismRow : OpenClaim := { program := "ytdlhjbadmfieoaa", sum := "5dd2dca85e967ea418896012df699b56748fdcd3c09c727c9a8b6da392133048", func := "loop.example/g00920/laws.FnExactIsAutomorphism", spec := "fnExactIsAutomorphism", unfollowed := true, recurses := true, apart := false }
def FnExactIsAutomorphismSaid : Prop := fnExactIsAutomorphismRow.holds Try.pinned (OpenSpec.ofChange fnExactIsAutomorphismSpec)

/-- ITS FALSE NEIGHBOUR: 'it returns false'. Refute it at one input. -/
def fnExactIsAutomorphismWrong : ChangeSpec := { name := "fnExactIsAutomorphism", fn := fun _ => fun
  | [d1, d2] => { results := [.lit (.bool false)], args := [d1, d2] }
  | _ => none }
def FnExactIsAutomorphismWrongFalsely : Prop := fnExactIsAutomorphismRow.holds Try.pinned (OpenSpec.ofChange fnExactIsAutomorphismWrong)

/-- 'laws.FnExactSquareGraph': WHATEVER THE INPUT: true; the input reads as it did. -/
def fnExactSquareGraphSpec : ChangeSpec := { name := "fnExactSquareGraph", fn := fun _ => fun
  | [d1, d2] => { results := [.lit (.bool true)], args := [d1, d2] }
  | _ => none }
def fnExactSquareGraphRow : OpenClaim := { program := "ytdlhjbadmfieoaa", sum := "5dd2dca85e967ea418896012df699b56748fdcd3c09c727c9a8b6da392133048", func := "loop.example/g00920/laws.FnExactSquareGraph", spec := "fnExactSquareGraph", unfollowed := true, recurses := true, apart := false }
def FnExactSquareGraphSaid : Prop := fnExactSquareGraphRow.holds Try.pinned (OpenSpec.ofChange fnExactSquareGraphSpec)

/-- ITS FALSE NEIGHBOUR: 'it returns false'. Refute it at one input. -/
def fnExactSquareGraphWrong : ChangeSpec := { name := "fnExactSquareGraph", fn := fun _ => fun
  | [d1, d2] => { results := [.lit (.bool false)], args := [d1, d2] }
  | _ => none }
def FnExactSquareGraphWrongFalsely : Prop := fnExactSquareGraphRow.holds Try.pinned (OpenSpec.ofChange fnExactSquareGraphWrong)

/- THE SECOND FORM. 'bulk': how many values and letters a reading holds, each counted each time it is reached (what is shared counts as often as it is met; a slice's spare places count too). A statement '..UptoSaid' is the law's where the arguments, and the package variables that the reading takes, are together of bulk at most 1048576: NARROWER than '..Said'. Prove '..Said' where nothing that the law and all that it calls make is longer than what came in: it says more and counts as full. Else prove '..UptoSaid'. A law counts once. -/
mutual
def uptoBulk {H : Type} : DataW H → Nat
  | .lit (.string bytes) => bytes.length + 1
  | .lit _ => 1
  | .nil => 1
  | .ptr d => uptoBulk d + 1
  | .slice elems spare => uptoBulkAll elems + uptoBulkAll spare + 1
  | .agg parts => uptoBulkAll parts + 1
  | .iface _ d => uptoBulk d + 1
  | .map entries => uptoBulkEntries entries + 1
  | .held _ => 1
def uptoBulkAll {H : Type} : List (DataW H) → Nat
  | [] => 0
  | d :: r => uptoBulk d + uptoBulkAll r
def uptoBulkEntries {H : Type} : List (Lit × DataW H) → Nat
  | [] => 0
  | x :: r => uptoBulkEntry x + uptoBulkEntries r
def uptoBulkEntry {H : Type} : Lit × DataW H → Nat
  | (.string bytes, d) => bytes.length + uptoBulk d + 1
  | (_, d) => uptoBulk d + 1
 end
def uptoSmall : (H : Type) → List (DataW H) → Bool := fun _ ds => decide (uptoBulkAll ds ≤ 1048576)
def OpenSpec.upto (s : _root_.Go.ChangeSpec) : _root_.Go.OpenSpec := { _root_.Go.OpenSpec.ofChange s with cond := some uptoSmall }

/-- 'laws.FnExactCoverPairs', WHERE WHAT IT READS IS OF BULK AT MOST 1048576: true; the input reads as it did. -/
def fnExactCoverPairsUptoRow : OpenClaim := { program := "ytdlhjbadmfieoaa", sum := "5dd2dca85e967ea418896012df699b56748fdcd3c09c727c9a8b6da392133048", func := "loop.example/g00920/laws.FnExactCoverPairs", spec := "fnExactCoverPairs", apart := false, narrowed := true }
def FnExactCoverPairsUptoSaid : Prop := fnExactCoverPairsUptoRow.holds Try.pinned (OpenSpec.upto fnExactCoverPairsSpec)

/-- 'laws.FnExactCountReduced', WHERE WHAT IT READS IS OF BULK AT MOST 1048576: true; the input reads as it did. -/
def fnExactCountReducedUptoRow : OpenClaim := { program := "ytdlhjbadmfieoaa", sum := "5dd2dca85e967ea418896012df699b56748fdcd3c09c727c9a8b6da392133048", func := "loop.example/g00920/laws.FnExactCountReduced", spec := "fnExactCountReduced", unfollowed := true, recurses := true, apart := false, narrowed := true }
def FnExactCountReducedUptoSaid : Prop := fnExactCountReducedUptoRow.holds Try.pinned (OpenSpec.upto fnExactCountReducedSpec)

/-- 'laws.FnPropagate', WHERE WHAT IT READS IS OF BULK AT MOST 1048576: true; the input reads as it did. -/
def fnPropagateUptoRow : OpenClaim := { program := "ytdlhjbadmfieoaa", sum := "5dd2dca85e967ea418896012df699b56748fdcd3c09c727c9a8b6da392133048", func := "loop.example/g00920/laws.FnPropagate", spec := "fnPropagate", unfollowed := true, recurses := true, apart := false, narrowed := true }
def FnPropagateUptoSaid : Prop := fnPropagateUptoRow.holds Try.pinned (OpenSpec.upto fnPropagateSpec)

/-- 'laws.FnCritical', WHERE WHAT IT READS IS OF BULK AT MOST 1048576: true; the input reads as it did. -/
def fnCriticalUptoRow : OpenClaim := { program := "ytdlhjbadmfieoaa", sum := "5dd2dca85e967ea418896012df699b56748fdcd3c09c727c9a8b6da392133048", func := "loop.example/g00920/laws.FnCritical", spec := "fnCritical", unfollowed := true, recurses := true, apart := false, narrowed := true }
def FnCriticalUptoSaid : Prop := fnCriticalUptoRow.holds Try.pinned (OpenSpec.upto fnCriticalSpec)

/-- 'laws.FnExactCyclicGroup', WHERE WHAT IT READS IS OF BULK AT MOST 1048576: true; the input reads as it did. -/
def fnExactCyclicGroupUptoRow : OpenClaim := { program := "ytdlhjbadmfieoaa", sum := "5dd2dca85e967ea418896012df699b56748fdcd3c09c727c9a8b6da392133048", func := "loop.example/g00920/laws.FnExactCyclicGroup", spec := "fnExactCyclicGroup", unfollowed := true, recurses := true, apart := false, narrowed := true }
def FnExactCyclicGroupUptoSaid : Prop := fnExactCyclicGroupUptoRow.holds Try.pinned (OpenSpec.upto fnExactCyclicGroupSpec)

/-- 'laws.FnExactFrobeniusGroup', WHERE WHAT IT READS IS OF BULK AT MOST 1048576: true; the input reads as it did. -/
def fnExactFrobeniusGroupUptoRow : OpenClaim := { program := "ytdlhjbadmfieoaa", sum := "5dd2dca85e967ea418896012df699b56748fdcd3c09c727c9a8b6da392133048", func := "loop.example/g00920/laws.FnExactFrobeniusGroup", spec := "fnExactFrobeniusGroup", unfollowed := true, recurses := true, apart := false, narrowed := true }
def FnExactFrobeniusGroupUptoSaid : Prop := fnExactFrobeniusGroupUptoRow.holds Try.pinned (OpenSpec.upto fnExactFrobeniusGroupSpec)

/-- 'laws.FnExactTransversalsOf', WHERE WHAT IT READS IS OF BULK AT MOST 1048576: true; the input reads as it did. -/
def fnExactTransversalsOfUptoRow : OpenClaim := { program := "ytdlhjbadmfieoaa", sum := "5dd2dca85e967ea418896012df699b56748fdcd3c09c727c9a8b6da392133048", func := "loop.example/g00920/laws.FnExactTransversalsOf", spec := "fnExactTransversalsOf", unfollowed := true, recurses := true, apart := false, narrowed := true }
def FnExactTransversalsOfUptoSaid : Prop := fnExactTransversalsOfUptoRow.holds Try.pinned (OpenSpec.upto fnExactTransversalsOfSpec)

/-- 'laws.FnExactMateOf', WHERE WHAT IT READS IS OF BULK AT MOST 1048576: true; the input reads as it did. -/
def fnExactMateOfUptoRow : OpenClaim := { program := "ytdlhjbadmfieoaa", sum := "5dd2dca85e967ea418896012df699b56748fdcd3c09c727c9a8b6da392133048", func := "loop.example/g00920/laws.FnExactMateOf", spec := "fnExactMateOf", unfollowed := true, recurses := true, apart := false, narrowed := true }
def FnExactMateOfUptoSaid : Prop := fnExactMateOfUptoRow.holds Try.pinned (OpenSpec.upto fnExactMateOfSpec)

/-- 'laws.FnCover', WHERE WHAT IT READS IS OF BULK AT MOST 1048576: true; the input reads as it did. -/
def fnCoverUptoRow : OpenClaim := { program := "ytdlhjbadmfieoaa", sum := "5dd2dca85e967ea418896012df699b56748fdcd3c09c727c9a8b6da392133048", func := "loop.example/g00920/laws.FnCover", spec := "fnCover", unfollowed := true, recurses := true, apart := false, narrowed := true }
def FnCoverUptoSaid : Prop := fnCoverUptoRow.holds Try.pinned (OpenSpec.upto fnCoverSpec)

/-- 'laws.FnExactDesignGraph', WHERE WHAT IT READS IS OF BULK AT MOST 1048576: true; the input reads as it did. -/
def fnExactDesignGraphUptoRow : OpenClaim := { program := "ytdlhjbadmfieoaa", sum := "5dd2dca85e967ea418896012df699b56748fdcd3c09c727c9a8b6da392133048", func := "loop.example/g00920/laws.FnExactDesignGraph", spec := "fnExactDesignGraph", unfollowed := true, recurses := true, apart := false, narrowed := true }
def FnExactDesignGraphUptoSaid : Prop := fnExactDesignGraphUptoRow.holds Try.pinned (OpenSpec.upto fnExactDesignGraphSpec)

/-- 'laws.FnExactIsAutomorphism', WHERE WHAT IT READS IS OF BULK AT MOST 1048576: true; the input reads as it did. -/
def fnExactIsAutomorphismUptoRow : OpenClaim := { program := "ytdlhjbadmfieoaa", sum := "5dd2dca85e967ea418896012df699b56748fdcd3c09c727c9a8b6da392133048", func := "loop.example/g00920/laws.FnExactIsAutomorphism", spec := "fnExactIsAutomorphism", unfollowed := true, recurses := true, apart := false, narrowed := true }
def FnExactIsAutomorphismUptoSaid : Prop := fnExactIsAutomorphismUptoRow.holds Try.pinned (OpenSpec.upto fnExactIsAutomorphismSpec)

/-- 'laws.FnExactSquareGraph', WHERE WHAT IT READS IS OF BULK AT MOST 1048576: true; the input reads as it did. -/
def fnExactSquareGraphUptoRow : OpenClaim := { program := "ytdlhjbadmfieoaa", sum := "5dd2dca85e967ea418896012df699b56748fdcd3c09c727c9a8b6da392133048", func := "loop.example/g00920/laws.FnExactSquareGraph", spec := "fnExactSquareGraph", unfollowed := true, recurses := true, apart := false, narrowed := true }
def FnExactSquareGraphUptoSaid : Prop := fnExactSquareGraphUptoRow.holds Try.pinned (OpenSpec.upto fnExactSquareGraphSpec)

end Rows
end Go.Proofs.Ytdlhjbadmfieoaa
