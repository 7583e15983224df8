/-
  No cell of these rows narrows 'for every input' (looked for: loops, veiled, ifaces, maps, wideKeys, modest, calm, conditions, laid).
  DERIVED. THE GIVEN ROWS OF THIS SEAT. 3 by the template 'for every input the law returns true; each argument reads behind the call as it read before'; 0 by the template 'total and deterministic' (their statements: YtmdeibdplpodpaaTotals.lean).
  GIVEN WITH THE SEED: the statements are not yours to turn. If you find one false, say at which input.
  Laid BY PROGRAM, IN A SANDBOX (cutbox-rows.mjs): the forced cells as the released guide's own fill.sh prints them over the translation d4d160cb19ba2221… (all of the seat's roots in one cut). By AI agents, Wed Nov 11 2026. No macro, syntax, notation, axiom, sorry.
-/
import Derived.Test.YtmdeibdplpodpaaChecked
import GoSem.Claim
import GoSem.ClaimJoined
import GoSem.ClaimMapViews
import Derived.JoinedTies
import Derived.KernelRfl
namespace Go.Proofs.Ytmdeibdplpodpaa
/- THE CELL 'sum', in the pinned program and in every row, IS THE sha256 OF THE DUMP (.gsa) THAT YtmdeibdplpodpaaProg.lean LOADS. Nothing in Lean hashes anything: it is a label: what it is worth is what the hold of that sum in a sandbox is worth. -/
noncomputable def Try.pinned : Pinned := { name := "ytmdeibdplpodpaa", sum := "d4d160cb19ba222163c20b40706ed7f89941e03fbe57ab9dccc50c4bfd031677", checked := Try.checked }
namespace Rows
def none {H : Type} : Left H := { results := [], args := [] }

/-- 'laws.FnExactIsAutomorphism': WHATEVER THE INPUT: true; the input reads as it did. -/
def fnExactIsAutomorphismSpec : ChangeSpec := { name := "fnExactIsAutomorphism", fn := fun _ => fun
  | [d1, d2] => { results := [.lit (.bool true)], args := [d1, d2] }
  | _ => none }
def fnExactIsAutomorphismRow : OpenClaim := { program := "ytmdeibdplpodpaa", sum := "d4d160cb19ba222163c20b40706ed7f89941e03fbe57ab9dccc50c4bfd031677", func := "loop.example/g00920/laws.FnExactIsAutomorphism", spec := "fnExactIsAutomorphism", unfollowed := true, recurses := true, apart := false }
def FnExactIsAutomorphismSaid : Prop := fnExactIsAutomorphismRow.holds Try.pinned (OpenSpec.ofChange fnExactIsAutomorphismSpec)

/-- ITS FALSE NEIGHBOUR: 'it returns false'. Refute it at one input. -/
def fnExactIsAutomorphismWrong : ChangeSpec := { name := "fnExactIsAutomorphism", fn := fun _ => fun
  | [d1, d2] => { results := [.lit (.bool false)], args := [d1, d2] }
  | _ => none }
def FnExactIsAutomorphismWrongFalsely : Prop := fnExactIsAutomorphismRow.holds Try.pinned (OpenSpec.ofChange fnExactIsAutomorphismWrong)

/-- 'laws.FnExactDesignOfGraph': WHATEVER THE INPUT: true; the input reads as it did. -/
def fnExactDesignOfGraphSpec : ChangeSpec := { name := "fnExactDesignOfGraph", fn := fun _ => fun
  | [d] => { results := [.lit (.bool true)], args := [d] }
  | _ => none }
def fnExactDesignOfGraphRow : OpenClaim := { program := "ytmdeibdplpodpaa", sum := "d4d160cb19ba222163c20b40706ed7f89941e03fbe57ab9dccc50c4bfd031677", func := "loop.example/g00920/laws.FnExactDesignOfGraph", spec := "fnExactDesignOfGraph", unfollowed := true, recurses := true, apart := false }
def FnExactDesignOfGraphSaid : Prop := fnExactDesignOfGraphRow.holds Try.pinned (OpenSpec.ofChange fnExactDesignOfGraphSpec)

/-- ITS FALSE NEIGHBOUR: 'it returns false'. Refute it at one input. -/
def fnExactDesignOfGraphWrong : ChangeSpec := { name := "fnExactDesignOfGraph", fn := fun _ => fun
  | [d] => { results := [.lit (.bool false)], args := [d] }
  | _ => none }
def FnExactDesignOfGraphWrongFalsely : Prop := fnExactDesignOfGraphRow.holds Try.pinned (OpenSpec.ofChange fnExactDesignOfGraphWrong)

/-- 'laws.FnExactRefineColors': WHATEVER THE INPUT: true; the input reads as it did. -/
def fnExactRefineColorsSpec : ChangeSpec := { name := "fnExactRefineColors", fn := fun _ => fun
  | [d1, d2] => { results := [.lit (.bool true)], args := [d1, d2] }
  | _ => none }
def fnExactRefineColorsRow : OpenClaim := { program := "ytmdeibdplpodpaa", sum := "d4d160cb19ba222163c20b40706ed7f89941e03fbe57ab9dccc50c4bfd031677", func := "loop.example/g00920/laws.FnExactRefineColors", spec := "fnExactRefineColors", unfollowed := true, recurses := true, apart := false }
def FnExactRefineColorsSaid : Prop := fnExactRefineColorsRow.holds Try.pinned (OpenSpec.ofChange fnExactRefineColorsSpec)

/-- ITS FALSE NEIGHBOUR: 'it returns false'. Refute it at one input. -/
def fnExactRefineColorsWrong : ChangeSpec := { name := "fnExactRefineColors", fn := fun _ => fun
  | [d1, d2] => { results := [.lit (.bool false)], args := [d1, d2] }
  | _ => none }
def FnExactRefineColorsWrongFalsely : Prop := fnExactRefineColorsRow.holds Try.pinned (OpenSpec.ofChange fnExactRefineColorsWrong)

/- THE SECOND FORM. 'bulk': how many values and letters a reading holds, each counted each time it is reached (what is shared counts as often as it is met; a slice's spare places count too). A statement '..UptoSaid' is the law's where the arguments, and the package variables that the reading takes, are together of bulk at most 1048576: NARROWER than '..Said'. Prove '..Said' where nothing that the law and all that it calls make is longer than what came in: it says more and counts as full. Else prove '..UptoSaid'. A law counts once. -/
mutual
def uptoBulk {H : Type} : DataW H → Nat
  | .lit (.string bytes) => bytes.length + 1
  | .lit _ => 1
  | .nil => 1
  | .ptr d => uptoBulk d + 1
  | .slice elems spare => uptoBulkAll elems + uptoBulkAll spare + 1
  | .agg parts => uptoBulkAll parts + 1
  | .iface _ d => uptoBulk d + 1
  | .map entries => uptoBulkEntries entries + 1
  | .held _ => 1
def uptoBulkAll {H : Type} : List (DataW H) → Nat
  | [] => 0
  | d :: r => uptoBulk d + uptoBulkAll r
def uptoBulkEntries {H : Type} : List (Lit × DataW H) → Nat
  | [] => 0
  | x :: r => uptoBulkEntry x + uptoBulkEntries r
def uptoBulkEntry {H : Type} : Lit × DataW H → Nat
  | (.string bytes, d) => bytes.length + uptoBulk d + 1
  | (_, d) => uptoBulk d + 1
 end
def uptoSmall : (H : Type) → List (DataW H) → Bool := fun _ ds => decide (uptoBulkAll ds ≤ 1048576)
def OpenSpec.upto (s : _root_.Go.ChangeSpec) : _root_.Go.OpenSpec := { _root_.Go.OpenSpec.ofChange s with cond := some uptoSmall }

/-- 'laws.FnExactIsAutomorphism', WHERE WHAT IT READS IS OF BULK AT MOST 1048576: true; the input reads as it did. -/
def fnExactIsAutomorphismUptoRow : OpenClaim := { program := "ytmdeibdplpodpaa", sum := "d4d160cb19ba222163c20b40706ed7f89941e03fbe57ab9dccc50c4bfd031677", func := "loop.example/g00920/laws.FnExactIsAutomorphism", spec := "fnExactIsAutomorphism", unfollowed := true, recurses := true, apart := false, narrowed := true }
def FnExactIsAutomorphismUptoSaid : Prop := fnExactIsAutomorphismUptoRow.holds Try.pinned (OpenSpec.upto fnExactIsAutomorphismSpec)

/-- 'laws.FnExactDesignOfGraph', WHERE WHAT IT READS IS OF BULK AT MOST 1048576: true; the input reads as it did. -/
def fnExactDesignOfGraphUptoRow : OpenClaim := { program := "ytmdeibdplpodpaa", sum := "d4d160cb19ba222163c20b40706ed7f89941e03fbe57ab9dccc50c4bfd031677", func := "loop.example/g00920/laws.FnExactDesignOfGraph", spec := "fnExactDesignOfGraph", unfollowed := true, recurses := true, apart := false, narrowed := true }
def FnExactDesignOfGraphUptoSaid : Prop := fnExactDesignOfGraphUptoRow.holds Try.pinned (OpenSpec.upto fnExactDesignOfGraphSpec)

/-- 'laws.FnExactRefineColors', WHERE WHAT IT READS IS OF BULK AT MOST 1048576: true; the input reads as it did. -/
def fnExactRefineColorsUptoRow : OpenClaim := { program := "ytmdeibdplpodpaa", sum := "d4d160cb19ba222163c20b40706ed7f89941e03fbe57ab9dccc50c4bfd031677", func := "loop.example/g00920/laws.FnExactRefineColors", spec := "fnExactRefineColors", unfollowed := true, recurses := true, apart := false, narrowed := true }
def FnExactRefineColorsUptoSaid : Prop := fnExactRefineColorsUptoRow.holds Try.pinned (OpenSpec.upto fnExactRefineColorsSpec)

end Rows
end Go.Proofs.Ytmdeibdplpodpaa
