/-
  No cell of these rows narrows 'for every input' (looked for: loops, veiled, ifaces, maps, wideKeys, modest, calm, conditions, laid).
  DERIVED. THE GIVEN ROWS OF THIS SEAT. 8 by the template 'for every input the law returns true; each argument reads behind the call as it read before'; 0 by the template 'total and deterministic' (their statements: YtonfknfphdeenaaTotals.lean).
  GIVEN WITH THE SEED: the statements are not yours to turn. If you find one false, say at which input.
  Laid BY PROGRAM, IN A SANDBOX (cutbox-rows.mjs): the forced cells as the released guide's own fill.sh prints them over the translation 9682d8809384ac37… (all of the seat's roots in one cut). By AI agents, Wed Nov 11 2026. No macro, syntax, notation, axiom, sorry.
-/
import Derived.Test.YtonfknfphdeenaaChecked
import GoSem.Claim
import GoSem.ClaimJoined
import GoSem.ClaimMapViews
import Derived.JoinedTies
import Derived.KernelRfl
namespace Go.Proofs.Ytonfknfphdeenaa
/- THE CELL 'sum', in the pinned program and in every row, IS THE sha256 OF THE DUMP (.gsa) THAT YtonfknfphdeenaaProg.lean LOADS. Nothing in Lean hashes anything: it is a label: what it is worth is what the hold of that sum in a sandbox is worth. -/
noncomputable def Try.pinned : Pinned := { name := "ytonfknfphdeenaa", sum := "9682d8809384ac37f732b99d7829a5224f1f650197d73b30220f64fe2b281553", checked := Try.checked }
namespace Rows
def none {H : Type} : Left H := { results := [], args := [] }

/-- 'laws.FnExactCyclicGroup': WHATEVER THE INPUT: true; the input reads as it did. -/
def fnExactCyclicGroupSpec : ChangeSpec := { name := "fnExactCyclicGroup", fn := fun _ => fun
  | [d] => { results := [.lit (.bool true)], args := [d] }
  | _ => none }
def fnExactCyclicGroupRow : OpenClaim := { program := "ytonfknfphdeenaa", sum := "9682d8809384ac37f732b99d7829a5224f1f650197d73b30220f64fe2b281553", func := "loop.example/g00920/laws.FnExactCyclicGroup", spec := "fnExactCyclicGroup", unfollowed := true, recurses := true, apart := false }
def FnExactCyclicGroupSaid : Prop := fnExactCyclicGroupRow.holds Try.pinned (OpenSpec.ofChange fnExactCyclicGroupSpec)

/-- ITS FALSE NEIGHBOUR: 'it returns false'. Refute it at one input. -/
def fnExactCyclicGroupWrong : ChangeSpec := { name := "fnExactCyclicGroup", fn := fun _ => fun
  | [d] => { results := [.lit (.bool false)], args := [d] }
  | _ => none }
def FnExactCyclicGroupWrongFalsely : Prop := fnExactCyclicGroupRow.holds Try.pinned (OpenSpec.ofChange fnExactCyclicGroupWrong)

/-- 'laws.FnExactFrobeniusGroup': WHATEVER THE INPUT: true; the input reads as it did. -/
def fnExactFrobeniusGroupSpec : ChangeSpec := { name := "fnExactFrobeniusGroup", fn := fun _ => fun
  | [d1, d2] => { results := [.lit (.bool true)], args := [d1, d2] }
  | _ => none }
def fnExactFrobeniusGroupRow : OpenClaim := { program := "ytonfknfphdeenaa", sum := "9682d8809384ac37f732b99d7829a5224f1f650197d73b30220f64fe2b281553", func := "loop.example/g00920/laws.FnExactFrobeniusGroup", spec := "fnExactFrobeniusGroup", unfollowed := true, recurses := true, apart := false }
def FnExactFrobeniusGroupSaid : Prop := fnExactFrobeniusGroupRow.holds Try.pinned (OpenSpec.ofChange fnExactFrobeniusGroupSpec)

/-- ITS FALSE NEIGHBOUR: 'it returns false'. Refute it at one input. -/
def fnExactFrobeniusGroupWrong : ChangeSpec := { name := "fnExactFrobeniusGroup", fn := fun _ => fun
  | [d1, d2] => { results := [.lit (.bool false)], args := [d1, d2] }
  | _ => none }
def FnExactFrobeniusGroupWrongFalsely : Prop := fnExactFrobeniusGroupRow.holds Try.pinned (OpenSpec.ofChange fnExactFrobeniusGroupWrong)

/-- 'laws.FnExactDesignGraph': WHATEVER THE INPUT: true; the input reads as it did. -/
def fnExactDesignGraphSpec : ChangeSpec := { name := "fnExactDesignGraph", fn := fun _ => fun
  | [d] => { results := [.lit (.bool true)], args := [d] }
  | _ => none }
def fnExactDesignGraphRow : OpenClaim := { program := "ytonfknfphdeenaa", sum := "9682d8809384ac37f732b99d7829a5224f1f650197d73b30220f64fe2b281553", func := "loop.example/g00920/laws.FnExactDesignGraph", spec := "fnExactDesignGraph", unfollowed := true, recurses := true, apart := false }
def FnExactDesignGraphSaid : Prop := fnExactDesignGraphRow.holds Try.pinned (OpenSpec.ofChange fnExactDesignGraphSpec)

/-- ITS FALSE NEIGHBOUR: 'it returns false'. Refute it at one input. -/
def fnExactDesignGraphWrong : ChangeSpec := { name := "fnExactDesignGraph", fn := fun _ => fun
  | [d] => { results := [.lit (.bool false)], args := [d] }
  | _ => none }
def FnExactDesignGraphWrongFalsely : Prop := fnExactDesignGraphRow.holds Try.pinned (OpenSpec.ofChange fnExactDesignGraphWrong)

/-- 'laws.FnExactIsAutomorphism': WHATEVER THE INPUT: true; the input reads as it did. -/
def fnExactIsAutomorphismSpec : ChangeSpec := { name := "fnExactIsAutomorphism", fn := fun _ => fun
  | [d1, d2] => { results := [.lit (.bool true)], args := [d1, d2] }
  | _ => none }
def fnExactIsAutomorphismRow : OpenClaim := { program := "ytonfknfphdeenaa", sum := "9682d8809384ac37f732b99d7829a5224f1f650197d73b30220f64fe2b281553", func := "loop.example/g00920/laws.FnExactIsAutomorphism", spec := "fnExactIsAutomorphism", unfollowed := true, recurses := true, apart := false }
def FnExactIsAutomorphismSaid : Prop := fnExactIsAutomorphismRow.holds Try.pinned (OpenSpec.ofChange fnExactIsAutomorphismSpec)

/-- ITS FALSE NEIGHBOUR: 'it returns false'. Refute it at one input. -/
def fnExactIsAutomorphismWrong : ChangeSpec := { name := "fnExactIsAutomorphism", fn := fun _ => fun
  | [d1, d2] => { results := [.lit (.bool false)], args := [d1, d2] }
  | _ => none }
def FnExactIsAutomorphismWrongFalsely : Prop := fnExactIsAutomorphismRow.holds Try.pinned (OpenSpec.ofChange fnExactIsAutomorphismWrong)

/-- 'laws.FnExactSquareGraph': WHATEVER THE INPUT: true; the input reads as it did. -/
def fnExactSquareGraphSpec : ChangeSpec := { name := "fnExactSquareGraph", fn := fun _ => fun
  | [d1, d2] => { results := [.lit (.bool true)], args := [d1, d2] }
  | _ => none }
def fnExactSquareGraphRow : OpenClaim := { program := "ytonfknfphdeenaa", sum := "9682d8809384ac37f732b99d7829a5224f1f650197d73b30220f64fe2b281553", func := "loop.example/g00920/laws.FnExactSquareGraph", spec := "fnExactSquareGraph", unfollowed := true, recurses := true, apart := false }
def FnExactSquareGraphSaid : Prop := fnExactSquareGraphRow.holds Try.pinned (OpenSpec.ofChange fnExactSquareGraphSpec)

/-- ITS FALSE NEIGHBOUR: 'it returns false'. Refute it at one input. -/
def fnExactSquareGraphWrong : ChangeSpec := { name := "fnExactSquareGraph", fn := fun _ => fun
  | [d1, d2] => { results := [.lit (.bool false)], args := [d1, d2] }
  | _ => none }
def FnExactSquareGraphWrongFalsely : Prop := fnExactSquareGraphRow.holds Try.pinned (OpenSpec.ofChange fnExactSquareGraphWrong)

/-- 'laws.FnExactDesignOfGraph': WHATEVER THE INPUT: true; the input reads as it did. -/
def fnExactDesignOfGraphSpec : ChangeSpec := { name := "fnExactDesignOfGraph", fn := fun _ => fun
  | [d] => { results := [.lit (.bool true)], args := [d] }
  | _ => none }
def fnExactDesignOfGraphRow : OpenClaim := { program := "ytonfknfphdeenaa", sum := "9682d8809384ac37f732b99d7829a5224f1f650197d73b30220f64fe2b281553", func := "loop.example/g00920/laws.FnExactDesignOfGraph", spec := "fnExactDesignOfGraph", unfollowed := true, recurses := true, apart := false }
def FnExactDesignOfGraphSaid : Prop := fnExactDesignOfGraphRow.holds Try.pinned (OpenSpec.ofChange fnExactDesignOfGraphSpec)

/-- ITS FALSE NEIGHBOUR: 'it returns false'. Refute it at one input. -/
def fnExactDesignOfGraphWrong : ChangeSpec := { name := "fnExactDesignOfGraph", fn := fun _ => fun
  | [d] => { results := [.lit (.bool false)], args := [d] }
  | _ => none }
def FnExactDesignOfGraphWrongFalsely : Prop := fnExactDesignOfGraphRow.holds Try.pinned (OpenSpec.ofChange fnExactDesignOfGraphWrong)

/-- 'laws.FnExactSystemAutomorphisms': WHATEVER THE INPUT: true; the input reads as it did. -/
def fnExactSystemAutomorphismsSpec : ChangeSpec := { name := "fnExactSystemAutomorphisms", fn := fun _ => fun
  | [d1, d2] => { results := [.lit (.bool true)], args := [d1, d2] }
  | _ => none }
def fnExactSystemAutomorphismsRow : OpenClaim := { program := "ytonfknfphdeenaa", sum := "9682d8809384ac37f732b99d7829a5224f1f650197d73b30220f64fe2b281553", func := "loop.example/g00920/laws.FnExactSystemAutomorphisms", spec := "fnExactSystemAutomorphisms", unfollowed := true, recurses := true, apart := false }
def FnExactSystemAutomorphismsSaid : Prop := fnExactSystemAutomorphismsRow.holds Try.pinned (OpenSpec.ofChange fnExactSystemAutomorphismsSpec)

/-- ITS FALSE NEIGHBOUR: 'it returns false'. Refute it at one input. -/
def fnExactSystemAutomorphismsWrong : ChangeSpec := { name := "fnExactSystemAutomorphisms", fn := fun _ => fun
  | [d1, d2] => { results := [.lit (.bool false)], args := [d1, d2] }
  | _ => none }
def FnExactSystemAutomorphismsWrongFalsely : Prop := fnExactSystemAutomorphismsRow.holds Try.pinned (OpenSpec.ofChange fnExactSystemAutomorphismsWrong)

/-- 'laws.FnExactLeastSystem': WHATEVER THE INPUT: true; the input reads as it did. -/
def fnExactLeastSystemSpec : ChangeSpec := { name := "fnExactLeastSystem", fn := fun _ => fun
  | [d1, d2] => { results := [.lit (.bool true)], args := [d1, d2] }
  | _ => none }
def fnExactLeastSystemRow : OpenClaim := { program := "ytonfknfphdeenaa", sum := "9682d8809384ac37f732b99d7829a5224f1f650197d73b30220f64fe2b281553", func := "loop.example/g00920/laws.FnExactLeastSystem", spec := "fnExactLeastSystem", unfollowed := true, recurses := true, apart := false }
def FnExactLeastSystemSaid : Prop := fnExactLeastSystemRow.holds Try.pinned (OpenSpec.ofChange fnExactLeastSystemSpec)

/-- ITS FALSE NEIGHBOUR: 'it returns false'. Refute it at one input. -/
def fnExactLeastSystemWrong : ChangeSpec := { name := "fnExactLeastSystem", fn := fun _ => fun
  | [d1, d2] => { results := [.lit (.bool false)], args := [d1, d2] }
  | _ => none }
def FnExactLeastSystemWrongFalsely : Prop := fnExactLeastSystemRow.holds Try.pinned (OpenSpec.ofChange fnExactLeastSystemWrong)

/- THE SECOND FORM. 'bulk': how many values and letters a reading holds, each counted each time it is reached (what is shared counts as often as it is met; a slice's spare places count too). A statement '..UptoSaid' is the law's where the arguments, and the package variables that the reading takes, are together of bulk at most 1048576: NARROWER than '..Said'. Prove '..Said' where nothing that the law and all that it calls make is longer than what came in: it says more and counts as full. Else prove '..UptoSaid'. A law counts once. -/
mutual
def uptoBulk {H : Type} : DataW H → Nat
  | .lit (.string bytes) => bytes.length + 1
  | .lit _ => 1
  | .nil => 1
  | .ptr d => uptoBulk d + 1
  | .slice elems spare => uptoBulkAll elems + uptoBulkAll spare + 1
  | .agg parts => uptoBulkAll parts + 1
  | .iface _ d => uptoBulk d + 1
  | .map entries => uptoBulkEntries entries + 1
  | .held _ => 1
def uptoBulkAll {H : Type} : List (DataW H) → Nat
  | [] => 0
  | d :: r => uptoBulk d + uptoBulkAll r
def uptoBulkEntries {H : Type} : List (Lit × DataW H) → Nat
  | [] => 0
  | x :: r => uptoBulkEntry x + uptoBulkEntries r
def uptoBulkEntry {H : Type} : Lit × DataW H → Nat
  | (.string bytes, d) => bytes.length + uptoBulk d + 1
  | (_, d) => uptoBulk d + 1
 end
def uptoSmall : (H : Type) → List (DataW H) → Bool := fun _ ds => decide (uptoBulkAll ds ≤ 1048576)
def OpenSpec.upto (s : _root_.Go.ChangeSpec) : _root_.Go.OpenSpec := { _root_.Go.OpenSpec.ofChange s with cond := some uptoSmall }

/-- 'laws.FnExactCyclicGroup', WHERE WHAT IT READS IS OF BULK AT MOST 1048576: true; the input reads as it did. -/
def fnExactCyclicGroupUptoRow : OpenClaim := { program := "ytonfknfphdeenaa", sum := "9682d8809384ac37f732b99d7829a5224f1f650197d73b30220f64fe2b281553", func := "loop.example/g00920/laws.FnExactCyclicGroup", spec := "fnExactCyclicGroup", unfollowed := true, recurses := true, apart := false, narrowed := true }
def FnExactCyclicGroupUptoSaid : Prop := fnExactCyclicGroupUptoRow.holds Try.pinned (OpenSpec.upto fnExactCyclicGroupSpec)

/-- 'laws.FnExactFrobeniusGroup', WHERE WHAT IT READS IS OF BULK AT MOST 1048576: true; the input reads as it did. -/
def fnExactFrobeniusGroupUptoRow : OpenClaim := { program := "ytonfknfphdeenaa", sum := "9682d8809384ac37f732b99d7829a5224f1f650197d73b30220f64fe2b281553", func := "loop.example/g00920/laws.FnExactFrobeniusGroup", spec := "fnExactFrobeniusGroup", unfollowed := true, recurses := true, apart := false, narrowed := true }
def FnExactFrobeniusGroupUptoSaid : Prop := fnExactFrobeniusGroupUptoRow.holds Try.pinned (OpenSpec.upto fnExactFrobeniusGroupSpec)

/-- 'laws.FnExactDesignGraph', WHERE WHAT IT READS IS OF BULK AT MOST 1048576: true; the input reads as it did. -/
def fnExactDesignGraphUptoRow : OpenClaim := { program := "ytonfknfphdeenaa", sum := "9682d8809384ac37f732b99d7829a5224f1f650197d73b30220f64fe2b281553", func := "loop.example/g00920/laws.FnExactDesignGraph", spec := "fnExactDesignGraph", unfollowed := true, recurses := true, apart := false, narrowed := true }
def FnExactDesignGraphUptoSaid : Prop := fnExactDesignGraphUptoRow.holds Try.pinned (OpenSpec.upto fnExactDesignGraphSpec)

/-- 'laws.FnExactIsAutomorphism', WHERE WHAT IT READS IS OF BULK AT MOST 1048576: true; the input reads as it did. -/
def fnExactIsAutomorphismUptoRow : OpenClaim := { program := "ytonfknfphdeenaa", sum := "9682d8809384ac37f732b99d7829a5224f1f650197d73b30220f64fe2b281553", func := "loop.example/g00920/laws.FnExactIsAutomorphism", spec := "fnExactIsAutomorphism", unfollowed := true, recurses := true, apart := false, narrowed := true }
def FnExactIsAutomorphismUptoSaid : Prop := fnExactIsAutomorphismUptoRow.holds Try.pinned (OpenSpec.upto fnExactIsAutomorphismSpec)

/-- 'laws.FnExactSquareGraph', WHERE WHAT IT READS IS OF BULK AT MOST 1048576: true; the input reads as it did. -/
def fnExactSquareGraphUptoRow : OpenClaim := { program := "ytonfknfphdeenaa", sum := "9682d8809384ac37f732b99d7829a5224f1f650197d73b30220f64fe2b281553", func := "loop.example/g00920/laws.FnExactSquareGraph", spec := "fnExactSquareGraph", unfollowed := true, recurses := true, apart := false, narrowed := true }
def FnExactSquareGraphUptoSaid : Prop := fnExactSquareGraphUptoRow.holds Try.pinned (OpenSpec.upto fnExactSquareGraphSpec)

/-- 'laws.FnExactDesignOfGraph', WHERE WHAT IT READS IS OF BULK AT MOST 1048576: true; the input reads as it did. -/
def fnExactDesignOfGraphUptoRow : OpenClaim := { program := "ytonfknfphdeenaa", sum := "9682d8809384ac37f732b99d7829a5224f1f650197d73b30220f64fe2b281553", func := "loop.example/g00920/laws.FnExactDesignOfGraph", spec := "fnExactDesignOfGraph", unfollowed := true, recurses := true, apart := false, narrowed := true }
def FnExactDesignOfGraphUptoSaid : Prop := fnExactDesignOfGraphUptoRow.holds Try.pinned (OpenSpec.upto fnExactDesignOfGraphSpec)

/-- 'laws.FnExactSystemAutomorphisms', WHERE WHAT IT READS IS OF BULK AT MOST 1048576: true; the input reads as it did. -/
def fnExactSystemAutomorphismsUptoRow : OpenClaim := { program := "ytonfknfphdeenaa", sum := "9682d8809384ac37f732b99d7829a5224f1f650197d73b30220f64fe2b281553", func := "loop.example/g00920/laws.FnExactSystemAutomorphisms", spec := "fnExactSystemAutomorphisms", unfollowed := true, recurses := true, apart := false, narrowed := true }
def FnExactSystemAutomorphismsUptoSaid : Prop := fnExactSystemAutomorphismsUptoRow.holds Try.pinned (OpenSpec.upto fnExactSystemAutomorphismsSpec)

/-- 'laws.FnExactLeastSystem', WHERE WHAT IT READS IS OF BULK AT MOST 1048576: true; the input reads as it did. -/
def fnExactLeastSystemUptoRow : OpenClaim := { program := "ytonfknfphdeenaa", sum := "9682d8809384ac37f732b99d7829a5224f1f650197d73b30220f64fe2b281553", func := "loop.example/g00920/laws.FnExactLeastSystem", spec := "fnExactLeastSystem", unfollowed := true, recurses := true, apart := false, narrowed := true }
def FnExactLeastSystemUptoSaid : Prop := fnExactLeastSystemUptoRow.holds Try.pinned (OpenSpec.upto fnExactLeastSystemSpec)

end Rows
end Go.Proofs.Ytonfknfphdeenaa
