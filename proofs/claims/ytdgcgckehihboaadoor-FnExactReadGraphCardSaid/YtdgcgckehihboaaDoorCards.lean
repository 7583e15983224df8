/-
  DERIVED. GIVEN WITH THE SEED: THE CARDS: each row of YtdgcgckehihboaaDoorRows.lean that lists a variable, with what it lists TIED to the program's text (the seventh form; the later family's looks); each row that meets fmt, with fmt's text TOLD by the authors' own Lean function (tested against real Go, not proved from fmt's source: count such statements apart). THE CARD IS WHAT COUNTS. Prove the row's statement (the work); the ties are given (YtdgcgckehihboaaDoorTie.lean); close each card by the builder's one call (the guide's Derived/Test/ToyasCard.lean, 'card_holds'). Laid BY PROGRAM, IN A SANDBOX (cutbox-door.mjs). By AI agents, Wed Nov 11 2026. No macro, syntax, notation, axiom, sorry.
-/
import Derived.Test.YtdgcgckehihboaaDoorRows
import GoSem.ClaimSeven
namespace Go.Proofs.YtdgcgckehihboaaDoor
namespace Rows

/-- THE TIED CARD OF 'laws.FnExactReadGraph'. -/
def fnExactReadGraphCard : Claim7 := { stood := { row := fnExactReadGraphRow, standIns := [], harness := (true, "7cacf2a46e21d6fbe6a88b70115d6a190f62b60522e034132df6371d74cf3eff"), looks := true }, kinds := [], alts := [], laidByText := true, laidKinds := [.data, .data, .data, .data, .sentinel, .sentinel, .pinned], laidTests := true, laidLooks := .later }
def FnExactReadGraphCardSaid : Prop := Claim7.holds Tryd.pinned (.plain (OpenSpec.ofChange fnExactReadGraphSpec)) fnExactReadGraphCard

/-- THE SECOND FORM's CARD OF 'laws.FnExactReadGraph'. -/
def fnExactReadGraphUptoCard : Claim7 := { stood := { row := fnExactReadGraphUptoRow, standIns := [], harness := (true, "7cacf2a46e21d6fbe6a88b70115d6a190f62b60522e034132df6371d74cf3eff"), looks := true }, kinds := [], alts := [], laidByText := true, laidKinds := [.data, .data, .data, .data, .sentinel, .sentinel, .pinned], laidTests := true, laidLooks := .later }
def FnExactReadGraphUptoCardSaid : Prop := Claim7.holds Tryd.pinned (.plain (OpenSpec.upto fnExactReadGraphSpec)) fnExactReadGraphUptoCard
end Rows
end Go.Proofs.YtdgcgckehihboaaDoor
