/-
  No cell of these rows narrows 'for every input' (looked for: loops, veiled, ifaces, maps, wideKeys, modest, calm, conditions, laid).
  DERIVED. THE GIVEN ROWS OF THIS SEAT. 6 by the template 'for every input the law returns true; each argument reads behind the call as it read before'; 0 by the template 'total and deterministic' (their statements: YtkifdjjnbplghaaGreatTotals.lean).
  GIVEN WITH THE SEED: the statements are not yours to turn. If you find one false, say at which input.
  Laid BY PROGRAM, IN A SANDBOX (cutbox-rows.mjs): the forced cells as the released guide's own fill.sh prints them over the translation 85cc727680005495… (all of the seat's roots in one cut). By AI agents, Wed Nov 11 2026. No macro, syntax, notation, axiom, sorry.
-/
import Derived.Test.YtkifdjjnbplghaaGreatChecked
import GoSem.Claim
import GoSem.ClaimJoined
import GoSem.ClaimMapViews
import Derived.JoinedTies
import Derived.KernelRfl
namespace Go.Proofs.YtkifdjjnbplghaaGreat
/- THE CELL 'sum', in the pinned program and in every row, IS THE sha256 OF THE DUMP (.gsa) THAT YtkifdjjnbplghaaGreatProg.lean LOADS. Nothing in Lean hashes anything: it is a label: what it is worth is what the hold of that sum in a sandbox is worth. -/
noncomputable def Tryz.pinned : Pinned := { name := "ytkifdjjnbplghaagreat", sum := "85cc727680005495d53c535a18e5aa9c0a8b0566dba03168648bd1fe608af32b", checked := Tryz.checked }
namespace Rows
def none {H : Type} : Left H := { results := [], args := [] }

/-- 'laws.FnExactIsInvariant': WHATEVER THE INPUT: true; the input reads as it did. -/
def fnExactIsInvariantSpec : ChangeSpec := { name := "fnExactIsInvariant", fn := fun _ => fun
  | [d1, d2] => { results := [.lit (.bool true)], args := [d1, d2] }
  | _ => none }
def fnExactIsInvariantRow : OpenClaim := { program := "ytkifdjjnbplghaagreat", sum := "85cc727680005495d53c535a18e5aa9c0a8b0566dba03168648bd1fe608af32b", func := "loop.example/g00920/laws.FnExactIsInvariant", spec := "fnExactIsInvariant", unfollowed := true, recurses := true, apart := false }
def FnExactIsInvariantSaid : Prop := fnExactIsInvariantRow.holds Tryz.pinned (OpenSpec.ofChange fnExactIsInvariantSpec)

/-- ITS FALSE NEIGHBOUR: 'it returns false'. Refute it at one input. -/
def fnExactIsInvariantWrong : ChangeSpec := { name := "fnExactIsInvariant", fn := fun _ => fun
  | [d1, d2] => { results := [.lit (.bool false)], args := [d1, d2] }
  | _ => none }
def FnExactIsInvariantWrongFalsely : Prop := fnExactIsInvariantRow.holds Tryz.pinned (OpenSpec.ofChange fnExactIsInvariantWrong)

/-- 'laws.FnExactSubsetOrbits': WHATEVER THE INPUT: true; the input reads as it did. -/
def fnExactSubsetOrbitsSpec : ChangeSpec := { name := "fnExactSubsetOrbits", fn := fun _ => fun
  | [d1, d2] => { results := [.lit (.bool true)], args := [d1, d2] }
  | _ => none }
def fnExactSubsetOrbitsRow : OpenClaim := { program := "ytkifdjjnbplghaagreat", sum := "85cc727680005495d53c535a18e5aa9c0a8b0566dba03168648bd1fe608af32b", func := "loop.example/g00920/laws.FnExactSubsetOrbits", spec := "fnExactSubsetOrbits", unfollowed := true, recurses := true, apart := false }
def FnExactSubsetOrbitsSaid : Prop := fnExactSubsetOrbitsRow.holds Tryz.pinned (OpenSpec.ofChange fnExactSubsetOrbitsSpec)

/-- ITS FALSE NEIGHBOUR: 'it returns false'. Refute it at one input. -/
def fnExactSubsetOrbitsWrong : ChangeSpec := { name := "fnExactSubsetOrbits", fn := fun _ => fun
  | [d1, d2] => { results := [.lit (.bool false)], args := [d1, d2] }
  | _ => none }
def FnExactSubsetOrbitsWrongFalsely : Prop := fnExactSubsetOrbitsRow.holds Tryz.pinned (OpenSpec.ofChange fnExactSubsetOrbitsWrong)

/-- 'laws.FnExactOrbitRepresentatives': WHATEVER THE INPUT: true; the input reads as it did. -/
def fnExactOrbitRepresentativesSpec : ChangeSpec := { name := "fnExactOrbitRepresentatives", fn := fun _ => fun
  | [d1, d2] => { results := [.lit (.bool true)], args := [d1, d2] }
  | _ => none }
def fnExactOrbitRepresentativesRow : OpenClaim := { program := "ytkifdjjnbplghaagreat", sum := "85cc727680005495d53c535a18e5aa9c0a8b0566dba03168648bd1fe608af32b", func := "loop.example/g00920/laws.FnExactOrbitRepresentatives", spec := "fnExactOrbitRepresentatives", unfollowed := true, recurses := true, apart := false }
def FnExactOrbitRepresentativesSaid : Prop := fnExactOrbitRepresentativesRow.holds Tryz.pinned (OpenSpec.ofChange fnExactOrbitRepresentativesSpec)

/-- ITS FALSE NEIGHBOUR: 'it returns false'. Refute it at one input. -/
def fnExactOrbitRepresentativesWrong : ChangeSpec := { name := "fnExactOrbitRepresentatives", fn := fun _ => fun
  | [d1, d2] => { results := [.lit (.bool false)], args := [d1, d2] }
  | _ => none }
def FnExactOrbitRepresentativesWrongFalsely : Prop := fnExactOrbitRepresentativesRow.holds Tryz.pinned (OpenSpec.ofChange fnExactOrbitRepresentativesWrong)

/-- 'laws.FnExactKramerMesner': WHATEVER THE INPUT: true; the input reads as it did. -/
def fnExactKramerMesnerSpec : ChangeSpec := { name := "fnExactKramerMesner", fn := fun _ => fun
  | [d1, d2, d3] => { results := [.lit (.bool true)], args := [d1, d2, d3] }
  | _ => none }
def fnExactKramerMesnerRow : OpenClaim := { program := "ytkifdjjnbplghaagreat", sum := "85cc727680005495d53c535a18e5aa9c0a8b0566dba03168648bd1fe608af32b", func := "loop.example/g00920/laws.FnExactKramerMesner", spec := "fnExactKramerMesner", unfollowed := true, recurses := true, apart := false }
def FnExactKramerMesnerSaid : Prop := fnExactKramerMesnerRow.holds Tryz.pinned (OpenSpec.ofChange fnExactKramerMesnerSpec)

/-- ITS FALSE NEIGHBOUR: 'it returns false'. Refute it at one input. -/
def fnExactKramerMesnerWrong : ChangeSpec := { name := "fnExactKramerMesner", fn := fun _ => fun
  | [d1, d2, d3] => { results := [.lit (.bool false)], args := [d1, d2, d3] }
  | _ => none }
def FnExactKramerMesnerWrongFalsely : Prop := fnExactKramerMesnerRow.holds Tryz.pinned (OpenSpec.ofChange fnExactKramerMesnerWrong)

/-- 'laws.FnExactOrbitDesign': WHATEVER THE INPUT: true; the input reads as it did. -/
def fnExactOrbitDesignSpec : ChangeSpec := { name := "fnExactOrbitDesign", fn := fun _ => fun
  | [d1, d2, d3] => { results := [.lit (.bool true)], args := [d1, d2, d3] }
  | _ => none }
def fnExactOrbitDesignRow : OpenClaim := { program := "ytkifdjjnbplghaagreat", sum := "85cc727680005495d53c535a18e5aa9c0a8b0566dba03168648bd1fe608af32b", func := "loop.example/g00920/laws.FnExactOrbitDesign", spec := "fnExactOrbitDesign", unfollowed := true, recurses := true, apart := false }
def FnExactOrbitDesignSaid : Prop := fnExactOrbitDesignRow.holds Tryz.pinned (OpenSpec.ofChange fnExactOrbitDesignSpec)

/-- ITS FALSE NEIGHBOUR: 'it returns false'. Refute it at one input. -/
def fnExactOrbitDesignWrong : ChangeSpec := { name := "fnExactOrbitDesign", fn := fun _ => fun
  | [d1, d2, d3] => { results := [.lit (.bool false)], args := [d1, d2, d3] }
  | _ => none }
def FnExactOrbitDesignWrongFalsely : Prop := fnExactOrbitDesignRow.holds Tryz.pinned (OpenSpec.ofChange fnExactOrbitDesignWrong)

/-- 'laws.FnExactGenerateSystems': WHATEVER THE INPUT: true; the input reads as it did. -/
def fnExactGenerateSystemsSpec : ChangeSpec := { name := "fnExactGenerateSystems", fn := fun _ => fun
  | [d1, d2, d3, d4] => { results := [.lit (.bool true)], args := [d1, d2, d3, d4] }
  | _ => none }
def fnExactGenerateSystemsRow : OpenClaim := { program := "ytkifdjjnbplghaagreat", sum := "85cc727680005495d53c535a18e5aa9c0a8b0566dba03168648bd1fe608af32b", func := "loop.example/g00920/laws.FnExactGenerateSystems", spec := "fnExactGenerateSystems", unfollowed := true, recurses := true, apart := false }
def FnExactGenerateSystemsSaid : Prop := fnExactGenerateSystemsRow.holds Tryz.pinned (OpenSpec.ofChange fnExactGenerateSystemsSpec)

/-- ITS FALSE NEIGHBOUR: 'it returns false'. Refute it at one input. -/
def fnExactGenerateSystemsWrong : ChangeSpec := { name := "fnExactGenerateSystems", fn := fun _ => fun
  | [d1, d2, d3, d4] => { results := [.lit (.bool false)], args := [d1, d2, d3, d4] }
  | _ => none }
def FnExactGenerateSystemsWrongFalsely : Prop := fnExactGenerateSystemsRow.holds Tryz.pinned (OpenSpec.ofChange fnExactGenerateSystemsWrong)

/- THE SECOND FORM. 'bulk': how many values and letters a reading holds, each counted each time it is reached (what is shared counts as often as it is met; a slice's spare places count too). A statement '..UptoSaid' is the law's where the arguments, and the package variables that the reading takes, are together of bulk at most 1048576: NARROWER than '..Said'. Prove '..Said' where nothing that the law and all that it calls make is longer than what came in: it says more and counts as full. Else prove '..UptoSaid'. A law counts once. -/
mutual
def uptoBulk {H : Type} : DataW H → Nat
  | .lit (.string bytes) => bytes.length + 1
  | .lit _ => 1
  | .nil => 1
  | .ptr d => uptoBulk d + 1
  | .slice elems spare => uptoBulkAll elems + uptoBulkAll spare + 1
  | .agg parts => uptoBulkAll parts + 1
  | .iface _ d => uptoBulk d + 1
  | .map entries => uptoBulkEntries entries + 1
  | .held _ => 1
def uptoBulkAll {H : Type} : List (DataW H) → Nat
  | [] => 0
  | d :: r => uptoBulk d + uptoBulkAll r
def uptoBulkEntries {H : Type} : List (Lit × DataW H) → Nat
  | [] => 0
  | x :: r => uptoBulkEntry x + uptoBulkEntries r
def uptoBulkEntry {H : Type} : Lit × DataW H → Nat
  | (.string bytes, d) => bytes.length + uptoBulk d + 1
  | (_, d) => uptoBulk d + 1
 end
def uptoSmall : (H : Type) → List (DataW H) → Bool := fun _ ds => decide (uptoBulkAll ds ≤ 1048576)
def OpenSpec.upto (s : _root_.Go.ChangeSpec) : _root_.Go.OpenSpec := { _root_.Go.OpenSpec.ofChange s with cond := some uptoSmall }

/-- 'laws.FnExactIsInvariant', WHERE WHAT IT READS IS OF BULK AT MOST 1048576: true; the input reads as it did. -/
def fnExactIsInvariantUptoRow : OpenClaim := { program := "ytkifdjjnbplghaagreat", sum := "85cc727680005495d53c535a18e5aa9c0a8b0566dba03168648bd1fe608af32b", func := "loop.example/g00920/laws.FnExactIsInvariant", spec := "fnExactIsInvariant", unfollowed := true, recurses := true, apart := false, narrowed := true }
def FnExactIsInvariantUptoSaid : Prop := fnExactIsInvariantUptoRow.holds Tryz.pinned (OpenSpec.upto fnExactIsInvariantSpec)

/-- 'laws.FnExactSubsetOrbits', WHERE WHAT IT READS IS OF BULK AT MOST 1048576: true; the input reads as it did. -/
def fnExactSubsetOrbitsUptoRow : OpenClaim := { program := "ytkifdjjnbplghaagreat", sum := "85cc727680005495d53c535a18e5aa9c0a8b0566dba03168648bd1fe608af32b", func := "loop.example/g00920/laws.FnExactSubsetOrbits", spec := "fnExactSubsetOrbits", unfollowed := true, recurses := true, apart := false, narrowed := true }
def FnExactSubsetOrbitsUptoSaid : Prop := fnExactSubsetOrbitsUptoRow.holds Tryz.pinned (OpenSpec.upto fnExactSubsetOrbitsSpec)

/-- 'laws.FnExactOrbitRepresentatives', WHERE WHAT IT READS IS OF BULK AT MOST 1048576: true; the input reads as it did. -/
def fnExactOrbitRepresentativesUptoRow : OpenClaim := { program := "ytkifdjjnbplghaagreat", sum := "85cc727680005495d53c535a18e5aa9c0a8b0566dba03168648bd1fe608af32b", func := "loop.example/g00920/laws.FnExactOrbitRepresentatives", spec := "fnExactOrbitRepresentatives", unfollowed := true, recurses := true, apart := false, narrowed := true }
def FnExactOrbitRepresentativesUptoSaid : Prop := fnExactOrbitRepresentativesUptoRow.holds Tryz.pinned (OpenSpec.upto fnExactOrbitRepresentativesSpec)

/-- 'laws.FnExactKramerMesner', WHERE WHAT IT READS IS OF BULK AT MOST 1048576: true; the input reads as it did. -/
def fnExactKramerMesnerUptoRow : OpenClaim := { program := "ytkifdjjnbplghaagreat", sum := "85cc727680005495d53c535a18e5aa9c0a8b0566dba03168648bd1fe608af32b", func := "loop.example/g00920/laws.FnExactKramerMesner", spec := "fnExactKramerMesner", unfollowed := true, recurses := true, apart := false, narrowed := true }
def FnExactKramerMesnerUptoSaid : Prop := fnExactKramerMesnerUptoRow.holds Tryz.pinned (OpenSpec.upto fnExactKramerMesnerSpec)

/-- 'laws.FnExactOrbitDesign', WHERE WHAT IT READS IS OF BULK AT MOST 1048576: true; the input reads as it did. -/
def fnExactOrbitDesignUptoRow : OpenClaim := { program := "ytkifdjjnbplghaagreat", sum := "85cc727680005495d53c535a18e5aa9c0a8b0566dba03168648bd1fe608af32b", func := "loop.example/g00920/laws.FnExactOrbitDesign", spec := "fnExactOrbitDesign", unfollowed := true, recurses := true, apart := false, narrowed := true }
def FnExactOrbitDesignUptoSaid : Prop := fnExactOrbitDesignUptoRow.holds Tryz.pinned (OpenSpec.upto fnExactOrbitDesignSpec)

/-- 'laws.FnExactGenerateSystems', WHERE WHAT IT READS IS OF BULK AT MOST 1048576: true; the input reads as it did. -/
def fnExactGenerateSystemsUptoRow : OpenClaim := { program := "ytkifdjjnbplghaagreat", sum := "85cc727680005495d53c535a18e5aa9c0a8b0566dba03168648bd1fe608af32b", func := "loop.example/g00920/laws.FnExactGenerateSystems", spec := "fnExactGenerateSystems", unfollowed := true, recurses := true, apart := false, narrowed := true }
def FnExactGenerateSystemsUptoSaid : Prop := fnExactGenerateSystemsUptoRow.holds Tryz.pinned (OpenSpec.upto fnExactGenerateSystemsSpec)

end Rows
end Go.Proofs.YtkifdjjnbplghaaGreat
